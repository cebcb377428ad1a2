import PyProof.Rows.All
import Wide.All
import OpenK.AllK
import Wide.FinOn
import KE.KExcSuper
import KE.KIsAll
import KE.KTryMore
import HandS.Base
import HandS.Call
import HandS.List
import HandS.Comp
import HandS.Ends
import HandS.Text
import HandS.Exc
import HandS.Codes
import HandS.TryOnly
import HandS.Lambda
import HandS.ExcInit
import HandS.ExcSuper
import HandS.ExcIs
import HandS.ExcField
import HandS.EndTab
import HandS.HeadWalk
import HandS.ExcOwn
import HandS.ExcValue
import HandS.IsInst
import HandS.DeepEq
import PyProof.ReprRoads
import HandS.Walk
import HandS.HeadHook1
import KE.KNestM
import PySem.Challenge.RW_ringwalkers_k00_errors_made
set_option Elab.async false
set_option linter.all false
set_option maxRecDepth 100000
set_option maxHeartbeats 0
section
/-! M1: an own exception over ValueError, made with places and keywords: ahead of its own __init__. -/
namespace RWk
open PySem PySem.HandSPX
section
variable {M : Model} {A : Around} {E : Value → Shared → Prop} {h : Heap} {g : Array GenState} {d : Drawn} {t : Nat} {os : OsState}
variable {nm q : Str} {C N : Addr} {bs bm bmB : List Value} {hdct : Bool} {sn : List Str} {sub : List Value} {ab : Bool} {col : Option Bool} {dd : Option Addr} {k0 k1 k2 k3 k5 : Option Value} {B newId initId : String}
theorem chk_new (FB : ExcBaseFacts B newId initId bmB) (same : ∀ Y : String, bm.contains (.type Y) = bmB.contains (.type Y)) {us : List Value} {kw : List (Str × Value)} {Q : Unit → Shared → Prop}
    (oC : h.get? C = some (excClassObj nm q C N bs bm hdct sn sub ab col dd k0 k1 k2 k3 k5 newId)) (fin : Q () ⟨h, g, d, t, os⟩) : wpAny M A (checkBuiltinCall newId ⟨.ref C :: us, kw⟩) Q E ⟨h, g, d, t, os⟩ := by
  have c1 : (Value.ref C :: bm).contains (.type B) = true := by rw [List.contains_cons, same, FB.hasB, Bool.or_true]
  have c2 := FB.noStar
  simp only [checkBuiltinCall, FB.newKind, FB.newSplit, FB.newRow]
  repeat (first | refine wpAny_loadPart_at oC ?_ | (refine wpAny_isSubtype_exc oC ?_; rw [c1]) | refine wpAny_staticBase_exc oC ?_ | refine wpAny_madeBy_exc oC ?_ | simp only [bne_self_eq_false, Bool.false_eq_true, if_false] | wp_step)
  exact fin
end
section
variable {prog : Program} {w : World} {A : Around} {E : Value → Shared → Prop} {R : Result → Shared → Prop} {h : Heap} {g : Array GenState} {d : Drawn} {t : Nat} {os : OsState}
variable {nm q : Str} {C N : Addr} {bs bm bmB : List Value} {hdct : Bool} {sn : List Str} {sub : List Value} {ab : Bool} {col : Option Bool} {dd : Option Addr} {k0 k1 k2 k3 k5 : Option Value} {B newId initId : String}
theorem new_kw (FB : ExcBaseFacts B newId initId bmB) (same : ∀ Y : String, bm.contains (.type Y) = bmB.contains (.type Y)) {us : List Value} {kw : List (Str × Value)}
    (oC : h.get? C = some (excClassObj nm q C N bs bm hdct sn sub ab col dd k0 k1 k2 k3 k5 newId))
    (fin : R (.ok (.ret (.ref (h.objs.size + 1)))) ⟨(h.push (W.kdv_tup us)).push (excO C h.objs.size), g, d, t, os⟩) (short : us.length ≤ sizeLine) :
    codeAny (model prog w) A (.builtin newId ⟨.ref C :: us, kw⟩) R ⟨h, g, d, t, os⟩ := by
  have c0 := FB.ends
  have cB : (Value.ref C :: bm).contains (.type B) = true := by rw [List.contains_cons, same, FB.hasB, Bool.or_true]
  have cA : (Value.ref C :: bm).contains (.type "AttributeError") = false := by rw [List.contains_cons, same, FB.noAttr]; rfl
  have cN : (Value.ref C :: bm).contains (.type "NameError") = false := by rw [List.contains_cons, same, FB.noName]; rfl
  refine codeAny_builtinAt FB.entry ?_
  unfold Builtin.«BaseException.__new__»
  refine wpAt_bind ?_
  show wpAt _ _ _ (stack >>= _) _ _ _
  refine wpAt_bind (wpAt_stack fun p below => wpAt_of_wpAny ?_)
  wp_walk
  refine wpAt_of_wpAny ?_
  rw [FB.owner]
  repeat (first | with_reducible refine wpAny_madeHere_exc FB.canon oC ?_ | with_reducible refine wpAny_loadPart_at oC ?_ | (with_reducible refine wpAny_isSubtype_exc oC ?_; first | rw [cB] | rw [cA] | rw [cN]) | wp_step)
  show R _ _
  rw [Heap.size_push]
  exact fin
theorem type_kw (FB : ExcBaseFacts B newId initId bmB) (same : ∀ Y : String, bm.contains (.type Y) = bmB.contains (.type Y)) {us : List Value} {kw : List (Str × Value)} {fI : Addr} {Q : Fin → Shared → Prop}
    (oC : h.get? C = some (excClassObj nm q C N bs bm hdct sn sub ab col dd k0 k1 k2 k3 k5 newId))
    (li : W.Looks (model prog w) h (typeLookup (.ref C) "__init__") (some (.ref fI))) (lb : ∀ self, W.Looks (model prog w) h (bindSpecial (.ref fI) self) (.ref fI, [self])) (short : us.length ≤ sizeLine)
    (fin : codeAny (model prog w) A (.call (.ref fI) ⟨.ref (h.objs.size + 1) :: us, kw⟩)
      (fun r s' => match r with | .ok (.ret v) => v = .none ∧ Q (.done (.ret (.ref (h.objs.size + 1)))) s' | .ok _ => False | .error e => E e s')
      ⟨(h.push (W.kdv_tup us)).push (excO C h.objs.size), g, d, t, os⟩) :
    wpAny (model prog w) A (Builtin.«type.__call__» ⟨.ref C :: us, kw⟩) Q E ⟨h, g, d, t, os⟩ := by
  repeat (first | with_reducible refine wpAny_loadPart_at oC ?_ | with_reducible refine wpAny_madeBy_exc oC ?_ | wp_step)
  refine codeAny_call_builtin_code (Code.quiet_builtin _ FB.quiet) (chk_new FB same oC ?_)
  refine new_kw FB same oC ?_ short
  show wpAny _ _ _ _ _ _
  have k : ∀ b o, h.get? b = some o → ((h.push (W.kdv_tup us)).push (excO C h.objs.size)).get? b = some o := fun b o z => Heap.get?_push_of_some _ (Heap.get?_push_of_some _ z)
  have oC1 := k _ _ oC
  have oE : ((h.push (W.kdv_tup us)).push (excO C h.objs.size)).get? (h.objs.size + 1) = some (excO C h.objs.size) := by heap_get
  have cC : (Value.ref C :: bm).contains (.ref C) = true := by simp
  have i1 := li.keeps k
  have b1 := (lb (.ref (h.objs.size + 1))).keeps k
  unfold isInstance
  repeat (first | with_reducible refine wpAny_loadPart_at oE ?_ | (with_reducible refine wpAny_isSubtype_exc oC1 ?_; rw [cC]) | wp_step)
  show wpAny _ _ (typeLookup (.ref C) _) _ _ _
  refine i1.at ?_
  refine wpAny_holding (wpAny_bind (b1.at ?_))
  refine wpAny_bind (wpAny_call (codeAny_mono fin fun r s' z => ?_))
  rcases r with e | (v | _ | _ | _) <;> first | exact z | exact z.elim | skip
  obtain ⟨rfl, z⟩ := z
  first
    | exact wpAny_pure (wpAny_pure z)
    | (wp_walk; exact z)
theorem own_kw (FB : ExcBaseFacts B newId initId bmB) (same : ∀ Y : String, bm.contains (.type Y) = bmB.contains (.type Y)) {us : List Value} {kw : List (Str × Value)} {fI : Addr}
    (oC : h.get? C = some (excClassObj nm q C N bs bm hdct sn sub ab col dd k0 k1 k2 k3 k5 newId))
    (li : W.Looks (model prog w) h (typeLookup (.ref C) "__init__") (some (.ref fI))) (lb : ∀ self, W.Looks (model prog w) h (bindSpecial (.ref fI) self) (.ref fI, [self])) (short : us.length ≤ sizeLine)
    (fin : codeAny (model prog w) (A.under (.builtin "type.__call__" ⟨.ref C :: us, kw⟩)) (.call (.ref fI) ⟨.ref (h.objs.size + 1) :: us, kw⟩) (W.InitBack (h.objs.size + 1) R)
      ⟨(h.push (W.kdv_tup us)).push (excO C h.objs.size), g, d, t, os⟩) :
    codeAny (model prog w) A (.call (.ref C) ⟨us, kw⟩) R ⟨h, g, d, t, os⟩ := by
  have f1 := tc_lookup
  have f2 := tc_bind (.ref C)
  have isTy : (⟨h, g, d, t, os⟩ : Shared).TypeIs (.ref C) "type" := ⟨_, oC, rfl⟩
  refine codeAny_of_tree ?_
  show wpAny _ _ (callAny (.ref C) _) _ _ _
  repeat (any_goals (first | assumption | with_reducible refine wpAny_loadPart_at oC ?_ | wp_step))
  refine ⟨rfl, ?_⟩
  refine codeAny_call_builtin_at (Code.quiet_builtin _ (by decide +kernel)) entry_typeCall (wpAny_check_type_call_sub oC (type_kw FB same oC li lb short ?_))
  refine codeAny_mono fin fun r s' z => ?_
  rcases r with e | (v | _ | _ | _) <;> exact z
end
end RWk
end
section
/-! M2: the __init__ of an own error over ValueError: super().__init__(..), then self.n = n for each parameter. -/
namespace RWk
open PySem PySem.HandSPX
section
variable {prog : Program} {w : World} {A : Around} {E : Value → Shared → Prop} {h : Heap} {g : Array GenState} {d : Drawn} {t : Nat} {os : OsState}
variable {nm q : Str} {C N : Addr} {bs bm : List Value} {hdct : Bool} {sn : List Str} {sub : List Value} {ab : Bool} {col : Option Bool} {dd : Option Addr} {k0 k1 k2 k3 k5 : Option Value}
abbrev vmw (x : Addr) : Obj := W.kxs_mw "ValueError.__init__" x
/-- the bound __init__ of ValueError, called -/
theorem call_vmw {u e t0 : Addr} {us : List Value} {Q : Value → Shared → Prop} (oC : h.get? C = some (excClassObj nm q C N bs bm hdct sn sub ab col dd k0 k1 k2 k3 k5 "ValueError.__new__"))
    (oe : h.get? e = some (excO C t0)) (ou : h.get? u = some (vmw e)) (short : us.length ≤ sizeLine)
    (fin : ∀ h' t1, (∀ b o, b ≠ e → h.get? b = some o → h'.get? b = some o) → h.objs.size ≤ h'.objs.size → h'.get? e = some (excO C t1) → Q .none ⟨h', g, d, t, os⟩) :
    wpAny (model prog w) A (call (.ref u) us) Q E ⟨h, g, d, t, os⟩ := by
  refine wpAny_call (codeAny_of_tree ?_)
  show wpAny _ A.in1 (callAny (.ref u) ⟨us, []⟩) _ _ _
  simp only [callAny]
  refine wpAny_bind (wpAny_load ou ?_)
  simp only [vmw, W.kxs_mw, show (Value.type "method-wrapper" == Value.type "method" || Value.type "method-wrapper" == Value.type "builtin_function_or_method" || Value.type "method-wrapper" == Value.type "method-wrapper") = true by decide, if_true]
  refine W.KFB.if_so (by decide) ?_
  refine wpAny_bind (PySem.ESX.check_bound F.excBase_ValueError oC oe rfl ?_)
  refine wpAny_bind (wpAny_pure (wpAny_pure ?_))
  refine ⟨Code.quiet_builtin _ (by decide +kernel), codeAny_builtin F.excBase_ValueError.initEntry ?_⟩
  rw [Around.under_plainId F.excBase_ValueError.init.plain _]
  wp_walk
  refine fin _ h.objs.size (fun b o nb ob => ?_) ?_ ?_
  · rw [Heap.get?_update_other _ _ (Ne.symm nb)]
    exact Heap.get?_push_of_some _ ob
  · simp [Heap.size_push]
  · rw [Heap.get?_update_self _ (Heap.get?_push_of_some _ oe) rfl]
    rfl
end
end RWk
namespace RWk
open PySem PySem.W PySem.Calls PySem.HandSPX
/-- views of the text -/
def nmE : Expr → Option Str
  | .Name x _ => some x
  | _ => none
theorem nmE_ok {e : Expr} {x : Str} (h : nmE e = some x) : ∃ p, e = .Name x p := by
  cases e <;> first | (cases h; exact ⟨_, rfl⟩) | cases h
/-- self.a = x -/
def slfS : Stmt → Option (Str × Str × Str)
  | .Assign [.Attribute (.Name s _) a _] (.Name x _) _ => some (s, a, x)
  | _ => none
theorem slfS_ok {st : Stmt} {s a x : Str} (h : slfS st = some (s, a, x)) : ∃ p1 p2 p3 p4, st = .Assign [.Attribute (.Name s p1) a p2] (.Name x p3) p4 := by
  unfold slfS at h
  split at h
  · cases h
    exact ⟨_, _, _, _, rfl⟩
  · cases h
/-- super().i(es) -/
def supS : Stmt → Option (Str × Str × List Expr)
  | .Expr (.Call (.Attribute (.Call (.Name s _) [] [] _) i _) es [] _) _ => some (s, i, es)
  | _ => none
theorem supS_ok {st : Stmt} {s i : Str} {es : List Expr} (h : supS st = some (s, i, es)) : ∃ p1 p2 p3 p4 p5, st = .Expr (.Call (.Attribute (.Call (.Name s p1) [] [] p2) i p3) es [] p4) p5 := by
  unfold supS at h
  split at h
  · cases h
    exact ⟨_, _, _, _, _, rfl⟩
  · cases h
def namesB : List Str → List Expr → Bool
  | [], [] => true
  | f :: fs, e :: es => decide (nmE e = some f) && namesB fs es
  | _, _ => false
def asgB : List Str → List Stmt → Bool
  | [], [] => true
  | f :: fs, st :: r => decide (slfS st = some (("self" : Str), f, f)) && asgB fs r
  | _, _ => false
def iniBodyB (fs : List Str) : List Stmt → Bool
  | st :: r => (match supS st with
    | some (s, i, es) => s == ("super" : Str) && (i == ("__init__" : Str) && namesB fs es)
    | none => false) && asgB fs r
  | _ => false
def iniScopeB (fs : List Str) (sc : Scope) : Bool :=
  decide (sc.kind = .function) && (!sc.isCoroutine && (!sc.isGenerator && (sc.names.all (fun y => !decide (y.2 = .cell)) &&
    (decide (sc.names.lookup ("super" : Str) = some .globalImplicit) && (decide (sc.names.lookup ("__class__" : Str) = some .free) && ((("self" : Str) :: fs).all fun f => decide (sc.names.lookup f = some .local) && !(f == ("__debug__" : Str))))))))
section
variable {prog : Program} {w : World} {M : Model} {A : Around} {E : Value → Shared → Prop} {s : Shared} {env : Env} {m : Str → Option Value}
theorem ld_loc {x : Str} {pos : Pos} {v : Value} {Q : Value → Shared → Prop} (kf : env.scope.kind = .function) (kl : env.scope.names.lookup x = some .local) (hn : s.heap.Ns env.locals m) (hv : m x = some v) (hd : (x == ("__debug__" : Str)) = false) (fin : Q v s) :
    wpAny M A (eval (.Name x pos) env) Q E s := wpAny_Name (wpAny_loadName_local kf kl hn hv fin) hd
theorem names_run {v : Str → Value} {pos : Pos} (kf : env.scope.kind = .function) : ∀ {fs : List Str} {es : List Expr} {s : Shared} {Q : List Value → Shared → Prop}, namesB fs es = true → s.heap.Ns env.locals m →
    (∀ f ∈ fs, env.scope.names.lookup f = some .local ∧ (f == ("__debug__" : Str)) = false ∧ m f = some (v f)) → Q (fs.map v) s → wpAny M A (spliced (backTo pos (starEach es env))) Q E s
  | [], [], s, Q, _, _, _, fin => Calls.spliced_nil fin
  | f :: fs, e :: es, s, Q, hb, hn, hf, fin => by
    obtain ⟨e1, e2⟩ := Bool.and_eq_true_iff.mp (show (decide (nmE e = some f) && namesB fs es) = true from hb)
    obtain ⟨p, rfl⟩ := nmE_ok (of_decide_eq_true e1)
    obtain ⟨a1, a2, a3⟩ := hf f List.mem_cons_self
    have hs : starEach (.Name f p :: es) env = (false, eval (.Name f p) env) :: starEach es env := by rfl
    rw [hs]
    show wpAny _ _ (spliced ((false, eval (.Name f p) env) :: backTo pos (starEach es env))) _ _ s
    refine Calls.spliced_cons (ld_loc kf a1 hn a3 a2 ?_)
    exact wpAny_mono (names_run kf e2 hn (fun f hm => hf f (List.mem_cons_of_mem _ hm)) (Q := fun us s' => us = fs.map v ∧ s' = s) ⟨rfl, rfl⟩) (fun us s' ⟨x1, x2⟩ => by subst x1 x2; exact fin) fun _ _ z => z
  | [], _ :: _, _, _, hb, _, _, _ => by cases hb
  | _ :: _, [], _, _, hb, _, _, _ => by cases hb
/-- an error at e that is being made: hb what stood ahead of it, done what it keeps so far -/
structure ESt (hb : Heap) (L : Addr) (m : Str → Option Value) (e C : Addr) (done : List (Str × Value)) (h : Heap) : Prop where
  old : ∀ b o, hb.get? b = some o → h.get? b = some o
  ns : h.Ns L m
  eL : e ≠ L
  eN : hb.get? e = none
  ex : ∃ t1 : Addr, (done = [] ∧ h.get? e = some (excO C t1)) ∨ ∃ dx : Addr, done ≠ [] ∧ hb.get? dx = none ∧ dx ≠ e ∧ dx ≠ L ∧ h.get? e = some ({ cls := .ref C, dict := some dx, data := .fields #[.ref t1, .none, .none, .none, .bool false, .none] } : Obj) ∧
    ∃ mA, h.Ns1 dx mA ∧ ∀ f, mA f = done.lookup f
theorem lookup_put1 {f x : Str} {v : Value} {fs : List (Str × Value)} : ((f, v) :: fs).lookup x = if x = f then some v else fs.lookup x := by
  by_cases z : x = f
  · subst z
    simp [List.lookup]
  · have e : (x == f) = false := by simpa using z
    rw [if_neg z]
    simp [List.lookup, e]
theorem within_done {mA : Str → Option Value} {done : List (Str × Value)} (r : ∀ f, mA f = done.lookup f) : Within mA (done.map (·.1)) := fun y hy => by
  rw [r y] at hy
  have key : ∀ {l : List (Str × Value)}, l.lookup y ≠ none → y ∈ l.map (·.1) := by
    intro l
    induction l with
    | nil => intro z; exact absurd rfl z
    | cons p l ih =>
      intro z
      obtain ⟨f, v⟩ := p
      rw [lookup_put1] at z
      by_cases e : y = f
      · rw [e]
        exact List.mem_cons_self ..
      · rw [if_neg e] at z
        exact List.mem_cons_of_mem _ (ih z)
  exact key hy
/-- self.f = v -/
theorem store_est {K : Frag} {hb : Heap} {L e C : Addr} {cd : ClassData} {done : List (Str × Value)} {f : Str} {v : Value} {Q : Unit → Shared → Prop} (X : K.In hb) (hcd : clsIn K C = some cd) (hm : refsVE cd.mro = true) (hh : cd.hasDict = true)
    (sa : findIn K (.ref C) "__setattr__" = some (some (.builtin "object.__setattr__"))) (hno : findIn K (.ref C) f = some none) (short : done.length ≤ 900) (S : ESt hb L m e C done s.heap)
    (fin : ∀ h' tk, ESt hb L m e C ((f, v) :: done) h' → Q () { s with heap := h', toks := tk }) : wpAny (model prog w) A (setAttr (.ref e) f v) Q E s := by
  obtain ⟨t1, S2⟩ := S.ex
  have XS : K.In s.heap := fun b o z => S.old b o (X b o z)
  obtain ⟨hp, g, d, t, os⟩ := s
  have noE : ∀ b o, hb.get? b = some o → b ≠ e := fun b o z q => by
    rw [q, S.eN] at z
    cases z
  obtain ⟨oL, esL, epL, hL, rL⟩ := S.ns
  have noD : ∀ dx, hp.objs.size ≤ dx → hb.get? dx = none := fun dx q => by
    cases z : hb.get? dx with
    | none => rfl
    | some o => exact absurd (Heap.lt_size (S.old _ _ z)) (Nat.not_lt.mpr q)
  rcases S2 with ⟨ed, he⟩ | ⟨dx, _, d0, dne, dnL, he, mA, hns, rel⟩
  · refine set_plain XS (ox := excO C t1) (od := none) ⟨he, rfl, rfl, trivial⟩ sa ?_
    refine exc_osa XS he hcd hm hh hno fun h' tk' dx k dn dne hx hn => fin h' tk' ⟨fun b o z => k b o (noE b o z) (S.old b o z), ⟨oL, esL, epL, k _ _ (Ne.symm S.eL) hL, rL⟩, S.eL, S.eN, t1, .inr ⟨dx, List.cons_ne_nil _ _, noD dx dn, dne, fun z => ?_, hx, _, hn, fun x => ?_⟩⟩
    · rw [z] at dn
      exact absurd (Heap.lt_size hL) (Nat.not_lt.mpr dn)
    · rw [lookup_put1, ed]
      rfl
  · obtain ⟨oD, _, _, hoD, _⟩ := id hns
    refine set_plain XS (ox := { cls := .ref C, dict := some dx, data := .fields #[.ref t1, .none, .none, .none, .bool false, .none] }) (od := some oD) ⟨he, rfl, rfl, hoD⟩ sa ?_
    have wi := within_done rel
    refine PySem.OEX.osa_old XS he hns wi (by rw [List.length_map]; omega) hcd hm hh hno fun h' tk' k hn => fin h' tk' ⟨fun b o z => k b o (fun q => by rw [q, d0] at z; cases z) (S.old b o z), ⟨oL, esL, epL, k _ _ (Ne.symm dnL) hL, rL⟩, S.eL, S.eN, t1,
      .inr ⟨dx, List.cons_ne_nil _ _, d0, dne, dnL, k _ _ (Ne.symm dne) he, _, hn, fun x => ?_⟩⟩
    rw [lookup_put1, rel x]
/-- all the stores -/
theorem asg_run {K : Frag} {hb : Heap} {e C : Addr} {cd : ClassData} {v : Str → Value} (X : K.In hb) (hcd : clsIn K C = some cd) (hm : refsVE cd.mro = true) (hh : cd.hasDict = true)
    (sa : findIn K (.ref C) "__setattr__" = some (some (.builtin "object.__setattr__"))) (kf : env.scope.kind = .function) (slf : env.scope.names.lookup ("self" : Str) = some .local ∧ m ("self" : Str) = some (.ref e)) :
    ∀ {fs : List Str} {body : List Stmt} {done : List (Str × Value)} {s : Shared} {Q : Flow → Shared → Prop}, asgB fs body = true →
    (∀ f ∈ fs, env.scope.names.lookup f = some .local ∧ (f == ("__debug__" : Str)) = false ∧ m f = some (v f) ∧ findIn K (.ref C) f = some none) → done.length + fs.length ≤ 900 → ESt hb env.locals m e C done s.heap →
    (∀ h' tk, ESt hb env.locals m e C ((fs.map fun f => (f, v f)).reverse ++ done) h' → Q .next { s with heap := h', toks := tk }) → wpAny (model prog w) A (execs body env) Q E s
  | [], [], done, s, Q, _, _, _, S, fin => wpAny_execs_nil (fin s.heap s.toks S)
  | f :: fs, st :: r, done, s, Q, hbo, hf, short, S, fin => by
    obtain ⟨e1, e2⟩ := Bool.and_eq_true_iff.mp (show (decide (slfS st = some (("self" : Str), f, f)) && asgB fs r) = true from hbo)
    obtain ⟨p1, p2, p3, p4, rfl⟩ := slfS_ok (of_decide_eq_true e1)
    obtain ⟨a1, a2, a3, a4⟩ := hf f List.mem_cons_self
    have sh : done.length + (fs.length + 1) ≤ 900 := short
    refine wpAny_execs_cons (plainObj_wpAny_Assign_Attribute (ld_loc kf a1 S.ns a3 a2 (ld_loc kf slf.1 S.ns slf.2 (by decide) (store_est X hcd hm hh sa a4 (by omega) S fun h' tk S' => ?_))) (by rfl))
    refine asg_run (v := v) X hcd hm hh sa kf slf e2 (fun f hm => hf f (List.mem_cons_of_mem _ hm)) (by rw [List.length_cons]; omega) S' fun h2 tk2 S2 => ?_
    have eL : ((f :: fs).map fun f => (f, v f)).reverse ++ done = (fs.map fun f => (f, v f)).reverse ++ ((f, v f) :: done) := by simp
    exact fin h2 tk2 (by rw [eL]; exact S2)
  | [], _ :: _, _, _, _, hbo, _, _, _, _ => by cases hbo
  | _ :: _, [], _, _, _, hbo, _, _, _, _ => by cases hbo
end
end RWk
end
section
/-! M3: an own error made: its class called with places or keywords. -/
namespace RWk
open PySem PySem.W PySem.Calls PySem.HandSPX
/-- what the written part says of an own error's class, its __init__ and its fields -/
structure ErrC (main : Str) (K : Frag) (C fI : Addr) (fs : List Str) : Prop where
  few : fs.length ≤ 2
  nd : (("self" : Str) :: fs).Nodup
  cls : ∃ nm q N bs bm sn sub ab col dd k0 k1 k2 k3 k5, K.lookup C = some (excClassObj nm q C N bs bm true sn sub ab col dd k0 k1 k2 k3 k5 "ValueError.__new__") ∧ refsVE bm = true
  init : findIn K (.ref C) "__init__" = some (some (.ref fI))
  tfI : typeIn K (.ref fI) = some (.type "function")
  kC : keepIn K (.ref C) = true
  sa : findIn K (.ref C) "__setattr__" = some (some (.builtin "object.__setattr__"))
  sup : ks_superIn K C C "__init__" = some (some (.builtin "ValueError.__init__"))
  third : nsIn K cStatics "thirdparty.any" = some none
  self : mroIn K C (.ref C) = some true
  isV : subIn K (.ref C) (.type "ValueError") = some true
  flds : ∀ f ∈ fs, findIn K (.ref C) f = some none
  fn : ∃ oc od osl qual params body scope kV doc pm an cda ct cc, K.lookup fI = some ⟨oc, od, .func (ksFn "__init__" qual params body scope .none kV doc pm an (.ref cda) ct cc), osl⟩ ∧ codeIn K (.ref cda) qual = true ∧
    iniBodyB fs body = true ∧ iniScopeB fs scope = true ∧ params.posonlyargs = [] ∧ params.args.map (·.arg) = ("self" : Str) :: fs ∧ params.vararg = none ∧ params.kwonlyargs = [] ∧ params.kwarg = none ∧
    (∃ ccl cdd vs ccs tf, K.lookup cda = some ⟨ccl, cdd, .fields vs, ccs⟩ ∧ vs[2]? = some (.str main tf)) ∧ ∃ cl cld csl, K.lookup cc = some ⟨cl, cld, .cell (some (.ref C)), csl⟩
section
variable {prog : Program} {w : World} {M : Model} {A : Around} {E : Value → Shared → Prop} {s : Shared} {K : Frag} {C fI : Addr} {fs : List Str}
theorem mcf_few {n : Nat} {env : Env} {p : Pos} {fs : List Str} {es : List Expr} (hb : namesB fs es = true) (hf : fs.length ≤ 2) (hn : n ≤ 2) : methodCallForm n (backTo p (starEach es env)) (backToKw p (keywordEach [] env)) = true := by
  have one : ∀ {f : Str} {fs : List Str} {e : Expr} {es : List Expr}, namesB (f :: fs) (e :: es) = true → (∃ p, e = .Name f p) ∧ namesB fs es = true := fun {f fs e es} h => by
    obtain ⟨e1, e2⟩ := Bool.and_eq_true_iff.mp (show (decide (nmE e = some f) && namesB fs es) = true from h)
    exact ⟨nmE_ok (of_decide_eq_true e1), e2⟩
  have fin : (true && true && decide (n + 0 < 30)) = true := by
    simp
    omega
  cases fs with
  | nil => cases es with
    | nil => exact fin
    | cons => cases hb
  | cons f fs => cases es with
    | nil => cases hb
    | cons e es =>
      obtain ⟨⟨p1, rfl⟩, hb1⟩ := one hb
      clear hb
      cases fs with
      | nil => cases es with
        | nil => exact fin
        | cons => cases hb1
      | cons f2 fs => cases es with
        | nil => cases hb1
        | cons e2 es =>
          obtain ⟨⟨p2, rfl⟩, hb2⟩ := one hb1
          clear hb1
          cases fs with
          | nil => cases es with
            | nil => exact fin
            | cons => cases hb2
          | cons => simp at hf
theorem namesB_len : ∀ {fs : List Str} {es : List Expr}, namesB fs es = true → es.length = fs.length
  | [], [], _ => rfl
  | _ :: _, _ :: _, h => congrArg Nat.succ (namesB_len (Bool.and_eq_true_iff.mp h).2)
  | [], _ :: _, h => by cases h
  | _ :: _, [], h => by cases h
theorem supcall_eq {env : Env} {p1 p2 p3 p4 : Pos} {f i : Str} {es : List Expr} (few : methodCallForm (es.length + 0) (backTo p4 (starEach es env)) (backToKw p4 (keywordEach [] env)) = true) : ∃ (pos' : Pos) (pl : Sem Bool),
    eval (.Call (.Attribute (.Call (.Name f p1) [] [] p2) i p3) es [] p4) env = (do
      let ov ← attributeBase (.Call (.Name f p1) [] [] p2) i env (eval (.Call (.Name f p1) [] [] p2) env)
      standAt p3.atName
      let (f, first) ← holding [ov] (getMethod ov i pl)
      callWith pos' f first (backTo p4 (starEach es env)) []) := by
  have e0 : eval (.Call (.Attribute (.Call (.Name f p1) [] [] p2) i p3) es [] p4) env = (do
      let ov ← attributeBase (.Call (.Name f p1) [] [] p2) i env (eval (.Call (.Name f p1) [] [] p2) env)
      standAt p3.atName
      methodCall (.Call (.Name f p1) [] [] p2) i p3 p4 env ov (es.length + 0) (backTo p4 (starEach es env)) (backToKw p4 (keywordEach [] env))) := rfl
  have e1 : ∃ pos' : Pos, methodCallPos true (.Call (.Name f p1) [] [] p2) env p3 p4 = pure pos' := by
    unfold methodCallPos
    by_cases z : (p3.endLine == p4.line) = true
    · exact ⟨p4, if_pos (by rw [z, Bool.or_true])⟩
    · exact ⟨{ p4 with line := p3.endLine }, if_neg (by simpa using z)⟩
  obtain ⟨pos', e1⟩ := e1
  refine ⟨pos', (do return (← importBound (.Call (.Name f p1) [] [] p2) env).getD true), ?_⟩
  rw [e0]
  refine congrArg _ (funext fun ov => congrArg _ (funext fun _ => ?_))
  unfold methodCall
  rw [few, e1]
  rfl
end
end RWk
end
section
/-! M4: an own error's __init__, called. -/
namespace RWk
open PySem PySem.W PySem.Calls PySem.HandSPX
/-- what stands of the world at a call: the module's names, the built-ins -/
structure Grd (prog : Program) (K : Frag) (h : Heap) : Prop where
  K : K.In h
  g : ∃ mg, h.Ns mainGlobals mg ∧ mg "super" = none
  b : ∃ mb, h.Ns builtinsNs mb ∧ mb "super" = some (.type "super")
  lim : h.NoLimit
  top : (prog.main.scope.names.lookup ("super" : Str)).isSome = false
theorem Grd.keeps {prog : Program} {K : Frag} {h h' : Heap} (G : Grd prog K h) (k : ∀ b o, h.get? b = some o → h'.get? b = some o) : Grd prog K h' :=
  ⟨fun b o z => k b o (G.K b o z), let ⟨m, a, b⟩ := G.g; ⟨m, a.keeps k, b⟩, let ⟨m, a, b⟩ := G.b; ⟨m, a.keeps k, b⟩, G.lim.keeps k, G.top⟩
theorem lookup_of_nodup {l : List (Str × Value)} {x : Str} {u : Value} (nd : (l.map (·.1)).Nodup) (hx : (x, u) ∈ l) : l.lookup x = some u := by
  induction l with
  | nil => cases hx
  | cons p l ih =>
    obtain ⟨f, v⟩ := p
    rw [lookup_put1]
    rw [List.map_cons, List.nodup_cons] at nd
    by_cases z : x = f
    · rw [if_pos z]
      rcases List.mem_cons.mp hx with q | q
      · cases q
        rfl
      · exact absurd (List.mem_map.mpr ⟨(x, u), q, z⟩) nd.1
    · rw [if_neg z]
      rcases List.mem_cons.mp hx with q | q
      · cases q
        exact absurd rfl z
      · exact ih nd.2 q
/-- an own error, made: what stood is kept, its fields are told -/
structure Made (hp h' : Heap) (e C : Addr) (done : List (Str × Value)) : Prop where
  old : ∀ b o, b ≠ e → hp.get? b = some o → h'.get? b = some o
  ex : ∃ t1 : Addr, (done = [] ∧ h'.get? e = some (excO C t1)) ∨ ∃ dx : Addr, done ≠ [] ∧ hp.get? dx = none ∧ dx ≠ e ∧ h'.get? e = some ({ cls := .ref C, dict := some dx, data := .fields #[.ref t1, .none, .none, .none, .bool false, .none] } : Obj) ∧
    ∃ mA, h'.Ns1 dx mA ∧ ∀ f, mA f = done.lookup f
section
variable {prog : Program} {w : World} {A : Around} {E : Value → Shared → Prop} {K : Frag} {C fI : Addr} {fs : List Str}
theorem init_run {hb hp : Heap} {g : Array GenState} {d : Drawn} {t : Nat} {os : OsState} {R : Result → Shared → Prop} {e t0 : Addr} {v : Str → Value} {args : Args} (G : Grd prog K hb) (T : ErrC prog.main.file K C fI fs) (deep : A.depth < recursionLimit)
    (old : ∀ b o, hb.get? b = some o → hp.get? b = some o) (eN : hb.get? e = none) (oe : hp.get? e = some (excO C t0))
    (bind : ∀ (qual : Str) (params : Arguments) (body : List Stmt) (scope : Scope) (kV doc pm : Value) (an : Option Addr) (cdv ct : Value) (cc : Addr), params.posonlyargs = [] → params.args.map (·.arg) = ("self" : Str) :: fs → params.vararg = none → params.kwonlyargs = [] → params.kwarg = none →
      BindsTo ⟨hp, g, d, t, os⟩ (ksFn "__init__" qual params body scope .none kV doc pm an cdv ct cc) args ((("self" : Str), .ref e) :: fs.map fun f => (f, v f)))
    (fin : ∀ h' tk, Made hp h' e C (fs.map fun f => (f, v f)).reverse → R (.ok (.ret .none)) ⟨h', g, d, tk, os⟩) :
    codeAny (model prog w) A (.call (.ref fI) args) R ⟨hp, g, d, t, os⟩ := by
  obtain ⟨oc, od, osl, qual, params, body, scope, kV, doc, pm, an, cda, ct, cc, lk, hcd, hbody, hsc, q1, q2, q3, q4, q5, ⟨ccl, cdd, vs, ccs, tf, lcd, hfile⟩, ⟨cl, cld, csl, lcc⟩⟩ := T.fn
  obtain ⟨nm, qn, N, bs, bm, sn, sub, ab, col, dd, k0, k1, k2, k3, k5, hC, hbm⟩ := T.cls
  have hcl : clsIn K C = some { name := nm, bases := bs, mro := .ref C :: bm, ns := N, qualname := qn, hasDict := true, slotNames := sn, subclasses := sub, abstract := ab, collection := col, hasDel := false } := by unfold clsIn; rw [hC] <;> rfl
  have Gp : Grd prog K hp := G.keeps old
  unfold iniScopeB at hsc
  simp only [Bool.and_eq_true, Bool.not_eq_true', decide_eq_true_eq, List.all_eq_true, decide_eq_false_iff_not] at hsc
  obtain ⟨s1, s2, s3, s4, s5, s6, s7⟩ := hsc
  obtain ⟨GH, gg1, gg2⟩ := L2.restrict hp fun b => decide (b ≠ e)
  have gk : ∀ b o, GH.get? b = some o → b ≠ e ∧ hp.get? b = some o := fun b o z => by
    by_cases q : b = e
    · rw [q, gg2 e (by simp)] at z
      cases z
    · exact ⟨q, by rw [← gg1 b (decide_eq_true q)]; exact z⟩
  have kg : ∀ b o, b ≠ e → hp.get? b = some o → GH.get? b = some o := fun b o q z => by rw [gg1 b (decide_eq_true q)]; exact z
  have XG : K.In GH := fun b o z => kg b o (fun q => by have z2 := G.K b o z; rw [q, eN] at z2; cases z2) (Gp.K b o z)
  refine ks_codeAny_call_defAt (fd := ksFn "__init__" qual params body scope .none kV doc pm an (.ref cda) ct cc) (body := body) deep (Gp.K _ _ lk) rfl Gp.lim (codeRec_of Gp.K hcd) rfl (bind qual params body scope kV doc pm an (.ref cda) ct cc q1 q2 q3 q4 q5) s4
    (fun x hx => ?_) (fun h₀ hns hk => ?_) s2 s3 s1
  · rcases List.mem_cons.mp hx with z | z
    · rw [z]
      exact (s7 "self" List.mem_cons_self).1
    · obtain ⟨f, hf, z⟩ := List.mem_map.mp z
      rw [← z]
      exact (s7 f (List.mem_cons_of_mem _ hf)).1
  · have G0 : Grd prog K h₀ := Gp.keeps hk
    have X0 := G0.K
    generalize hm : (fun x => ((("self" : Str), Value.ref e) :: fs.map fun f => (f, v f)).reverse.lookup x) = m at hns
    have mnd : ((((("self" : Str), Value.ref e) :: fs.map fun f => (f, v f)).reverse).map (·.1)).Nodup := by
      refine (((List.reverse_perm _).map _).nodup_iff).mpr ?_
      rw [List.map_cons, List.map_map]
      have e1 : fs.map ((fun x : Str × Value => x.1) ∘ fun f => (f, v f)) = fs := by
        conv => rhs; rw [← List.map_id fs]
        exact List.map_congr_left fun f _ => rfl
      rw [e1]
      exact T.nd
    have m0 : m "self" = some (.ref e) := by
      rw [← hm]
      exact lookup_of_nodup mnd (by simp)
    have mf : ∀ f ∈ fs, m f = some (v f) := fun f hf => by
      rw [← hm]
      exact lookup_of_nodup mnd (List.mem_reverse.mpr (List.mem_cons_of_mem _ (List.mem_map.mpr ⟨f, hf, rfl⟩)))
    cases body with
    | nil => cases hbody
    | cons st rest =>
      obtain ⟨hb1, hb2⟩ := Bool.and_eq_true_iff.mp (show ((match supS st with
        | some (s, i, es) => s == ("super" : Str) && (i == ("__init__" : Str) && namesB fs es)
        | none => false) && asgB fs rest) = true from hbody)
      cases hst : supS st with
      | none =>
        rw [hst] at hb1
        cases hb1
      | some r =>
        obtain ⟨sn0, i0, es⟩ := r
        rw [hst] at hb1
        obtain ⟨z1, hb1⟩ := Bool.and_eq_true_iff.mp hb1
        obtain ⟨z2, hes⟩ := Bool.and_eq_true_iff.mp hb1
        obtain rfl : sn0 = ("super" : Str) := by simpa using z1
        obtain rfl : i0 = ("__init__" : Str) := by simpa using z2
        obtain ⟨p1, p2, p3, p4, p5, rfl⟩ := supS_ok hst
        generalize hfd : ksFn "__init__" qual params (.Expr (.Call (.Attribute (.Call (.Name "super" p1) [] [] p2) "__init__" p3) es [] p4) p5 :: rest) scope .none kV doc pm an (.ref cda) ct cc = fd at *
        have ekf : (callEnv fd hp.objs.size fI).scope.kind = .function := by rw [← hfd]; exact s1
        have ek : ∀ x, (callEnv fd hp.objs.size fI).scope.names.lookup x = scope.names.lookup x := fun x => by rw [← hfd]; rfl
        have ekd : ∀ x, (callEnv fd hp.objs.size fI).kindOf x = scope.names.lookup x := fun x => by rw [← hfd]; rfl
        obtain ⟨pos', pl, heq⟩ := supcall_eq (env := callEnv fd hp.objs.size fI) (p1 := p1) (p2 := p2) (p3 := p3) (p4 := p4) (f := "super") (i := "__init__") (mcf_few (n := es.length + 0) hes T.few (by have := namesB_len hes; have := T.few; omega))
        refine ks_wpAt_execs_cons (ks_wpAt_Expr_any ?_ (by unfold interactive; rw [ekf]; rfl) (by rfl))
        rw [heq]
        have oe0 := hk _ _ oe
        have ioe : InstAt h₀ e (excO C t0) C none := ⟨oe0, rfl, rfl, trivial⟩
        have har : ∃ ar, (fd.params.posonlyargs ++ fd.params.args).head? = some ar ∧ ar.arg = "self" := by
          rw [← hfd]
          show ∃ ar, (params.posonlyargs ++ params.args).head? = some ar ∧ ar.arg = "self"
          rw [q1, List.nil_append]
          cases ha : params.args with
          | nil =>
            rw [ha] at q2
            cases q2
          | cons a r =>
            rw [ha, List.map_cons] at q2
            exact ⟨a, rfl, (List.cons.inj q2).1⟩
        obtain ⟨ar, har1, har2⟩ := har
        obtain ⟨mg, hg1, hg2⟩ := G0.g
        obtain ⟨mb, hmb1, hmb2⟩ := G0.b
        refine wpAt_bind (ks_wpAt_mono (Q := fun ov s' => ∃ h1, ov = .ref h₀.objs.size ∧ s' = ⟨h1, g, d, t + (((("self" : Str), Value.ref e) :: fs.map fun f => (f, v f)).length), os⟩ ∧ h1.get? h₀.objs.size = some (ks_superObj C e C) ∧ ∀ b o, h₀.get? b = some o → h1.get? b = some o)
          (ks_wpAt_super_base (f := fI) (cc := cda) (fd := fd) (ar := ar) (vs := vs) (file := prog.main.file) (tf := tf) ((ekd _).trans s5) ((ekd _).trans s6) (by decide) (by rw [← hfd]; rfl) (X0 _ _ lk) (by rw [← hfd]) har1 (by rw [← hfd]; rfl) (X0 _ _ lcd) rfl hfile (by simp) G0.top ?_) (fun ov s' hov => ?_) fun _ _ z => z)
        · refine ks_loadName_global ekf ((ekd _).trans s5) (loadGlobal_builtin (env := callEnv fd hp.objs.size fI) (by rw [← hfd]; exact hg1) hg2 (by rw [← hfd]; exact hmb1) hmb2 ⟨rfl, ?_⟩)
          refine wpAny_loadName_free ekf ((ekd _).trans s6) (c := cc) (by rw [← hfd]; rfl) ⟨_, X0 _ _ lcc, rfl⟩ ?_
          refine wpAny_loadName_local ekf (by rw [har2]; exact (ekd _).trans (s7 "self" List.mem_cons_self).1) (by rw [← hfd]; exact hns) (by rw [har2]; exact m0) ?_
          refine ks_wpAny_isType_cls (X0 _ _ hC) rfl ⟨rfl, ?_⟩
          refine ks_wpAny_call_super (X0 _ _ hC) rfl oe0 rfl (fun c z => by cases z) (looks_mroIn X0 T.self) fun h1 o1 k1 => ⟨h1, rfl, rfl, o1, k1⟩
        · obtain ⟨h1, rfl, rfl, o1, k1⟩ := hov
          have G1 : Grd prog K h1 := G0.keeps k1
          refine wpAt_of_wpAny (wpAny_bind (wpAny_standAt (wpAny_bind (wpAny_holding ?_))))
          have hin : Looks (model prog w) h1 (isInstance (.ref e) (.type "ValueError")) true := (InstAt.mk (k1 _ _ oe0) rfl rfl trivial : InstAt h1 e (excO C t0) C none).type.andThen (looks_subIn G1.K T.isV)
          have hne : e ≠ C := fun z => by
            have q := X0 _ _ hC
            rw [← z, oe0] at q
            cases q
          have hal := T.sup
          unfold ks_superIn at hal
          rw [hcl] at hal
          refine kxs_getMethod kxs_ValueError o1 (looks_opaque G1.K T.third) (l₀ := .ref C :: bm) (fun A Q E s k q => wpAny_bind ((looks_clsIn G1.K hcl) A _ E s k (wpAny_pure q))) rfl G1.K hal hin hne (by decide) ?_
          have k2 : ∀ b o, h1.get? b = some o → (h1.push (kxs_mw "ValueError.__init__" e)).get? b = some o := fun b o z => Heap.get?_push_of_some _ z
          have G2 := G1.keeps k2
          have ou : (h1.push (kxs_mw "ValueError.__init__" e)).get? h1.objs.size = some (vmw e) := Heap.get?_push_at rfl rfl
          have hns2 : (h1.push (kxs_mw "ValueError.__init__" e)).Ns (callEnv fd hp.objs.size fI).locals m := by
            rw [← hfd]
            exact (hns.keeps k1).keeps k2
          have hloc : ∀ f ∈ fs, (callEnv fd hp.objs.size fI).scope.names.lookup f = some .local ∧ (f == ("__debug__" : Str)) = false ∧ m f = some (v f) := fun f hf => ⟨(ek f).trans (s7 f (List.mem_cons_of_mem _ hf)).1, (s7 f (List.mem_cons_of_mem _ hf)).2, mf f hf⟩
          have oe2 := k2 _ _ (k1 _ _ oe0)
          have hsl : fs.length ≤ sizeLine := by
            have := T.few
            rw [sizeLine_eq]
            omega
          -- the rest: what the call leaves, the stores
          have tail : ∀ (s2 : Shared) (us : List Value), us = fs.map v → s2 = ⟨h1.push (kxs_mw "ValueError.__init__" e), g, d, t + (((("self" : Str), Value.ref e) :: fs.map fun f => (f, v f)).length) + 1, os⟩ →
              wpAny (model prog w) (A.deeper (callEnv fd hp.objs.size fI)) (call (.ref h1.objs.size) us) (fun _ s3 => wpAt (model prog w) (A.deeper (callEnv fd hp.objs.size fI)) (.func (.Expr (.Call (.Attribute (.Call (.Name "super" p1) [] [] p2) "__init__" p3) es [] p4) p5 :: rest) (callEnv fd hp.objs.size fI)) (execs rest (callEnv fd hp.objs.size fI))
                (fun f s' => R (.ok (.ret (match f with | .ret v => v | _ => .none))) s') (fun e s' => wpAny (model prog w) (A.deeper (callEnv fd hp.objs.size fI)) (leaving (callEnv fd hp.objs.size fI) e) (fun _ s'' => R (.error e) s'') (fun e' s'' => R (.error e') s'') s') s3)
                (fun e s' => wpAny (model prog w) (A.deeper (callEnv fd hp.objs.size fI)) (leaving (callEnv fd hp.objs.size fI) e) (fun _ s'' => R (.error e) s'') (fun e' s'' => R (.error e') s'') s') s2 := by
            intro s2 us eu es2
            subst eu es2
            refine call_vmw (G2.K _ _ hC) oe2 ou (by rw [List.length_map]; exact hsl) fun h3 t3 k3 _ oe3 => wpAt_of_wpAny ?_
            have kk : ∀ b o, b ≠ e → hp.get? b = some o → h3.get? b = some o := fun b o q z => k3 b o q (k2 _ _ (k1 _ _ (hk _ _ z)))
            have hLs : (callEnv fd hp.objs.size fI).locals = hp.objs.size := by rw [← hfd]; rfl
            have eL : e ≠ (callEnv fd hp.objs.size fI).locals := by
              rw [hLs]
              exact Nat.ne_of_lt (Heap.lt_size oe)
            have hns3 : h3.Ns (callEnv fd hp.objs.size fI).locals m := by
              obtain ⟨o, es', ep, ho, r⟩ := hns2
              exact ⟨o, es', ep, k3 _ _ (Ne.symm eL) ho, r⟩
            refine asg_run (s := ⟨h3, g, d, _, os⟩) (v := v) (done := []) XG hcl (show refsVE (.ref C :: bm) = true from hbm) rfl T.sa ekf ⟨(ek _).trans (s7 "self" List.mem_cons_self).1, m0⟩ hb2 (fun f hf => ⟨(hloc f hf).1, (hloc f hf).2.1, mf f hf, T.flds f hf⟩)
              (by have := T.few; simp; omega) ⟨fun b o z => kk b o (gk b o z).1 (gk b o z).2, hns3, eL, gg2 e (by simp), t3, .inl ⟨rfl, oe3⟩⟩ fun h4 tk4 S4 => ?_
            refine fin h4 tk4 ⟨fun b o q z => S4.old b o (kg b o q z), ?_⟩
            obtain ⟨t1, z⟩ := S4.ex
            rw [List.append_nil] at z
            refine ⟨t1, z.imp id fun ⟨dx, nn, d0, dne, dnL, he, r⟩ => ⟨dx, nn, ?_, dne, he, r⟩⟩
            rw [← gg1 dx (decide_eq_true dne)]
            exact d0
          cases fs with
          | nil => cases es with
            | nil => exact kxs_callWith (i := "ValueError.__init__") (x := e) rfl (PyProof.Rows.evalArgs_empty ⟨ou, tail _ [] rfl rfl⟩)
            | cons => cases hes
          | cons f fs' => cases es with
            | nil => cases hes
            | cons e1 es' =>
              obtain ⟨pe, rfl⟩ := nmE_ok (of_decide_eq_true (Bool.and_eq_true_iff.mp (show (decide (nmE e1 = some f) && namesB fs' es') = true from hes)).1)
              have hs : starEach (.Name f pe :: es') (callEnv fd hp.objs.size fI) = (false, eval (.Name f pe) (callEnv fd hp.objs.size fI)) :: starEach es' (callEnv fd hp.objs.size fI) := by rfl
              have hany : (backTo p4 (starEach (.Name f pe :: es') (callEnv fd hp.objs.size fI))).any (·.1) = false := by
                have z := mcf_few (n := 0) (p := p4) (env := callEnv fd hp.objs.size fI) hes T.few (by omega)
                unfold methodCallForm at z
                simp only [Bool.and_eq_true, List.all_eq_true, Bool.not_eq_true'] at z
                rw [List.any_eq_false]
                intro x hx
                rw [z.1.1 x hx]
                exact Bool.false_ne_true
              refine kxs_callWith (i := "ValueError.__init__") (x := e) hany ?_
              rw [hs]
              refine evalArgs_plain ?_
              show wpAny _ _ (spliced (backTo p4 ((false, eval (.Name f pe) (callEnv fd hp.objs.size fI)) :: starEach es' (callEnv fd hp.objs.size fI)))) _ _ _
              rw [← hs]
              refine names_run (v := v) ekf hes hns2 hloc ⟨ou, tail _ _ rfl rfl⟩
end
end RWk
end
section
/-! M5: binding by places and keywords. -/
namespace RWk
open PySem
theorem lookup_isNone {l : List (Str × Value)} {x : Str} (h : x ∉ l.map (·.1)) : l.lookup x = none := by
  induction l with
  | nil => rfl
  | cons p l ih =>
    obtain ⟨f, v⟩ := p
    rw [List.map_cons, List.mem_cons, not_or] at h
    rw [lookup_put1, if_neg h.1]
    exact ih h.2
theorem loop_put {ρ : Type} {ex : ρ} (f : Str × Value → List (Str × Value) × ρ → Sem (ForInStep (List (Str × Value) × ρ))) {names : List Str} (hf : ∀ kv sl, kv.1 ∈ names → sl.lookup kv.1 = none → f kv (sl, ex) = pure (.yield (sl ++ [kv], ex))) :
    ∀ (l sl : List (Str × Value)), (∀ kv ∈ l, kv.1 ∈ names) → ((sl ++ l).map (·.1)).Nodup → forIn l (sl, ex) f = pure (sl ++ l, ex)
  | [], sl, _, _ => by rw [List.append_nil]; rfl
  | kv :: l, sl, hm, nd => by
    rw [List.forIn_cons, hf kv sl (hm kv List.mem_cons_self) (lookup_isNone fun z => by
      rw [List.map_append, List.map_cons] at nd
      exact (List.nodup_append.mp nd).2.2 _ z _ List.mem_cons_self rfl)]
    have nd' : (((sl ++ [kv]) ++ l).map (·.1)).Nodup := by simpa using nd
    have ih := loop_put f hf l (sl ++ [kv]) (fun x hx => hm x (List.mem_cons_of_mem _ hx)) nd'
    rw [List.append_assoc] at ih
    simpa using ih
theorem keys_zip : ∀ {ps : List Str} {us : List Value}, us.length = ps.length → (ps.zip us).map (·.1) = ps
  | [], _, _ => rfl
  | _ :: _, [], h => by cases h
  | p :: ps, u :: us, h => by
    rw [List.zip_cons_cons, List.map_cons, keys_zip (Nat.succ.inj h)]
theorem refill : ∀ {pre l : List (Str × Value)}, ((pre ++ l).map (·.1)).Nodup → (l.map (·.1)).filterMap (fun n => ((pre ++ l).lookup n).map (n, ·)) = l
  | _, [], _ => rfl
  | pre, kv :: l, nd => by
    have e : (pre ++ kv :: l).lookup kv.1 = some kv.2 := lookup_of_nodup nd (List.mem_append_right _ List.mem_cons_self)
    rw [List.map_cons, List.filterMap_cons, e]
    have ih := refill (pre := pre ++ [kv]) (l := l) (by simpa using nd)
    rw [List.append_assoc] at ih
    exact congrArg (kv :: ·) ih
theorem bind_all (fd : FuncData) (ps1 ks : List Str) (us ws : List Value) (e1 : fd.params.posonlyargs = []) (e2 : fd.params.args.map (·.arg) = ps1 ++ ks) (e3 : fd.params.vararg = none) (e4 : fd.params.kwonlyargs = []) (e5 : fd.params.kwarg = none) (e6 : fd.defaults = .none)
    (nd : (ps1 ++ ks).Nodup) (l1 : us.length = ps1.length) (l2 : ws.length = ks.length) : bindArgs fd ⟨us, ks.zip ws⟩ = pure ((ps1 ++ ks).zip (us ++ ws)) := by
  have z0 : (ps1 ++ ks).zip us = ps1.zip us := by
    clear e2 nd l2
    induction us generalizing ps1 with
    | nil => cases ps1 with
      | nil => simp
      | cons => cases l1
    | cons u us ih => cases ps1 with
      | nil => cases l1
      | cons p ps1 =>
        rw [List.cons_append, List.zip_cons_cons, List.zip_cons_cons, ih ps1 (Nat.succ.inj l1)]
  have z1 : ps1.zip us ++ ks.zip ws = (ps1 ++ ks).zip (us ++ ws) := (List.zip_append l1.symm).symm
  have l3 : (us ++ ws).length = (ps1 ++ ks).length := by rw [List.length_append, List.length_append, l1, l2]
  have kz : ((ps1 ++ ks).zip (us ++ ws)).map (·.1) = ps1 ++ ks := keys_zip l3
  have some_ : ∀ n ∈ ps1 ++ ks, (((ps1 ++ ks).zip (us ++ ws)).lookup n).isSome = true := fun n hn => by
    rw [← kz] at hn
    obtain ⟨kv, h1, h2⟩ := List.mem_map.mp hn
    have e : ((ps1 ++ ks).zip (us ++ ws)).lookup n = some kv.2 := lookup_of_nodup (by rw [kz]; exact nd) (by rw [← h2]; exact h1)
    rw [e]
    rfl
  unfold bindArgs
  simp only [e1, e2, e3, e4, e5, e6, List.map_nil, List.nil_append, List.append_nil, z0]
  rw [loop_put (names := ks) _ (fun kv sl hm hl => by
    have c : ((ps1 ++ ks).contains kv.1 || ([] : List Str).contains kv.1) = true := by
      simp [hm]
    rw [if_pos c, hl]
    rfl) (ks.zip ws) (ps1.zip us) (fun kv hkv => (List.of_mem_zip hkv).1) (by rw [z1, kz]; exact nd), z1]
  have e7 : seqItems? Value.none = pure none := by rfl
  have l4 : ¬ (decide (us.length > (ps1 ++ ks).length) && (none : Option Arg).isNone) = true := by
    rw [List.length_append, l1]
    simp
  have e8 : ((ps1 ++ ks).take ((ps1 ++ ks).length - ((([] : List Value)).drop (([] : List Value).length - (ps1 ++ ks).length)).length)).filter (fun n => (((ps1 ++ ks).zip (us ++ ws)).lookup n).isNone) = [] := by
    rw [List.filter_eq_nil_iff]
    intro n hn q
    have := some_ n (List.mem_of_mem_take hn)
    rw [Option.isNone_iff_eq_none.mp q] at this
    cases this
  have e9 := refill (pre := []) (l := (ps1 ++ ks).zip (us ++ ws)) (by rw [List.nil_append, kz]; exact nd)
  rw [List.nil_append, kz] at e9
  simp only [e7, pure_bind]
  rw [if_neg l4]
  have e10 : ((none : Option (Array Value)).getD #[]).toList = [] := rfl
  simp only [e10]
  rw [e8]
  simp
  rw [List.filterMap_append] at e9
  exact congrArg _ e9
/-- an own error, made: all that stood is kept -/
structure MadeE (h h' : Heap) (e C : Addr) (done : List (Str × Value)) : Prop where
  old : ∀ b o, h.get? b = some o → h'.get? b = some o
  new : h.get? e = none
  ex : ∃ t1 : Addr, (done = [] ∧ h'.get? e = some (HandSPX.excO C t1)) ∨ ∃ dx : Addr, done ≠ [] ∧ h.get? dx = none ∧ dx ≠ e ∧ h'.get? e = some ({ cls := .ref C, dict := some dx, data := .fields #[.ref t1, .none, .none, .none, .bool false, .none] } : Obj) ∧
    ∃ mA, h'.Ns1 dx mA ∧ ∀ f, mA f = done.lookup f
open PySem.W PySem.Calls PySem.HandSPX
/-- C(v, ..) and C(f = v, ..) -/
theorem make_err {prog : Program} {w : World} {A : Around} {K : Frag} {C fI : Addr} {fs : List Str} {hp : Heap} {g : Array GenState} {d : Drawn} {t : Nat} {os : OsState} {R : Result → Shared → Prop} {v : Str → Value} {us : List Value} {kw : List (Str × Value)}
    (G : Grd prog K hp) (T : ErrC prog.main.file K C fI fs) (deep : A.depth + 1 < recursionLimit) (how : (us = fs.map v ∧ kw = []) ∨ (us = [] ∧ kw = fs.zip (fs.map v)))
    (fin : ∀ h' tk e, MadeE hp h' e C (fs.map fun f => (f, v f)).reverse → R (.ok (.ret (.ref e))) ⟨h', g, d, tk, os⟩) :
    codeAny (model prog w) A (.call (.ref C) ⟨us, kw⟩) R ⟨hp, g, d, t, os⟩ := by
  obtain ⟨nm, qn, N, bs, bm, sn, sub, ab, col, dd, k0, k1, k2, k3, k5, hC, hbm⟩ := T.cls
  have short : us.length ≤ sizeLine := by
    have := T.few
    rw [sizeLine_eq]
    rcases how with ⟨rfl, _⟩ | ⟨rfl, _⟩
    · rw [List.length_map]
      omega
    · simp
  have kk : ∀ b o, hp.get? b = some o → ((hp.push (W.kdv_tup us)).push (excO C hp.objs.size)).get? b = some o := fun b o z => Heap.get?_push_of_some _ (Heap.get?_push_of_some _ z)
  have oE : ((hp.push (W.kdv_tup us)).push (excO C hp.objs.size)).get? (hp.objs.size + 1) = some (excO C hp.objs.size) := by heap_get
  have eN : hp.get? (hp.objs.size + 1) = none := Heap.get?_none_of_le (Nat.le_succ _)
  refine own_kw F.excBase_ValueError (fun Y => refsVE_contains Y bm hbm) (G.K _ _ hC) (looks_findIn G.K T.init) (fun self => bind_fn G.K self T.tfI) short ?_
  refine init_run (v := v) (t0 := hp.objs.size) (e := hp.objs.size + 1) G T (by rw [L2.make_depth]; exact deep) kk eN oE (fun qual params body scope kV doc pm an cdv ct cc q1 q2 q3 q4 q5 => ?_) (fun h' tk M => ⟨rfl, fin h' tk _ ⟨fun b o z => M.old b o (fun q => by rw [q, eN] at z; cases z) (kk b o z), eN, ?_⟩⟩)
  · refine BindsTo.of_eq ?_
    have nd := T.nd
    have zipf : ∀ fs : List Str, fs.zip (fs.map v) = fs.map fun f => (f, v f) := fun fs => by
      induction fs with
      | nil => rfl
      | cons f fs ih => rw [List.map_cons, List.zip_cons_cons, ih, List.map_cons]
    rcases how with ⟨rfl, rfl⟩ | ⟨rfl, rfl⟩
    · have z := bind_all (ksFn "__init__" qual params body scope .none kV doc pm an cdv ct cc) (("self" : Str) :: fs) [] (.ref (hp.objs.size + 1) :: fs.map v) [] q1 (by rw [List.append_nil]; exact q2) q3 q4 q5 rfl (by rw [List.append_nil]; exact nd) (by simp) rfl
      rw [List.append_nil, List.append_nil, List.zip_cons_cons, zipf] at z
      exact z
    · have z := bind_all (ksFn "__init__" qual params body scope .none kV doc pm an cdv ct cc) [("self" : Str)] fs [.ref (hp.objs.size + 1)] (fs.map v) q1 q2 q3 q4 q5 rfl nd rfl (by simp)
      rw [List.singleton_append, List.singleton_append, List.zip_cons_cons] at z
      rw [z, zipf]
  · obtain ⟨t1, z⟩ := M.ex
    refine ⟨t1, z.imp id fun ⟨dx, nn, d0, r⟩ => ⟨dx, nn, ?_, r⟩⟩
    cases q : hp.get? dx with
    | none => rfl
    | some o =>
      rw [kk _ _ q] at d0
      cases d0
end RWk
end
section
/-! M6: own errors among the tracked things. -/
namespace RWk
open PySem PySem.Spec PyProof.Rows L2
section
variable {X : Cx} {pins : List (Addr × Obj)} {σ : L2.St} {H H' : Hp} {s : Shared} {h' : Heap}
/-- new things laid and tracked, all that stood kept -/
theorem grow {t' : Nat} (I : Inv X pins σ H s) (k : ∀ b o, s.heap.get? b = some o → h'.get? b = some o) (e1 : ∀ b o, s.heap.get? b = some o → H' b = H b) (new : ∀ b u, H' b = some u → H b = none → ObjOk X.prog X.w H' h' b u) :
    Inv X pins σ H' { s with heap := h', toks := t' } := by
  have e2 : ∀ b u, H b = some u → H' b = some u := fun b u z => by
    obtain ⟨o, ho⟩ := objOk_get (I.hok b u z)
    rw [e1 b o ho, z]
  refine I.un (t' := t') ⟨fun b o z _ _ _ => k b o z, fun b o z _ _ _ => ⟨o.slots, k b o z⟩, fun b o z n _ => by rw [e1 b o z]; exact n, fun b o z _ => ⟨o, k b o z⟩, fun b xs z => e2 b _ z, fun b o u z => e2 b _ z, fun b ps z => ⟨#[], by rw [e2 b _ z]; simp⟩⟩ fun b u z => ?_
  cases q : H b with
  | none => exact new b u z q
  | some v =>
    have z2 := e2 b v q
    rw [z] at z2
    cases z2
    exact (I.hok b u q).stay (fun c w' _ y => k c w' y) (fun c y => e2 c _ y) fun c xs y => e2 c _ y
end
/-- the tracked error at e, its dict at dx, its fields -/
def erO (e C dx : Addr) (fl : List (Str × V)) : HO := exo e C (if fl.isEmpty then none else some dx)
def erU (H : Hp) (e C dx : Addr) (fl : List (Str × V)) : Hp := fun b => if b = e then some (erO e C dx fl) else if fl.isEmpty then H b else if b = dx then some (exd dx fl) else H b
/-- an error of the class at C keeping fl, tracked at e -/
def ErAt (H : Hp) (e C : Addr) (fl : List (Str × V)) : Prop := ∃ dx, H e = some (erO e C dx fl) ∧ (fl ≠ [] → H dx = some (exd dx fl))
theorem erU_at {H : Hp} {e C dx : Addr} {fl : List (Str × V)} (n : dx ≠ e) : ErAt (erU H e C dx fl) e C fl := by
  refine ⟨dx, if_pos rfl, fun z => ?_⟩
  unfold erU
  have q : fl.isEmpty = false := by
    cases fl with
    | nil => exact absurd rfl z
    | cons => rfl
  rw [if_neg n, q, if_neg Bool.false_ne_true, if_pos rfl]
theorem erU_old {H : Hp} {e C dx : Addr} {fl : List (Str × V)} (n1 : H e = none) (n2 : H dx = none) {b : Addr} {u : HO} (h : H b = some u) : erU H e C dx fl b = some u := by
  unfold erU
  rw [if_neg (ne_of_none h n1)]
  split
  · exact h
  · rw [if_neg (ne_of_none h n2)]
    exact h
theorem lk_rel : ∀ {l : List (Str × V)} {m : List (Str × Value)} {f : Str}, Paired (fun (p : Str × V) (q : Str × Value) => p.1 = q.1 ∧ RelV p.2 q.2) l m → RelO (l.lookup f) (m.lookup f)
  | _, _, _, .nil => True.intro
  | (a, x) :: l, (b, u) :: m, f, .cons h t => by
    obtain ⟨h1, h2⟩ := h
    have h1 : a = b := h1
    subst h1
    rw [lookup_put, lookup_put1]
    by_cases z : f = a
    · rw [if_pos z, if_pos z]
      exact h2
    · rw [if_neg z, if_neg z]
      exact lk_rel t
theorem paired_snoc {α β : Type} {R : α → β → Prop} : ∀ {l : List α} {m : List β} {a : α} {b : β}, Paired R l m → R a b → Paired R (l ++ [a]) (m ++ [b])
  | _, _, _, _, .nil, h => .cons h .nil
  | _, _, _, _, .cons r t, h => .cons r (paired_snoc t h)
theorem paired_rev {α β : Type} {R : α → β → Prop} {l : List α} {m : List β} (h : Paired R l m) : Paired R l.reverse m.reverse := by
  induction h with
  | nil => exact .nil
  | cons r _ ih =>
    rw [List.reverse_cons, List.reverse_cons]
    exact paired_snoc ih r
theorem zip_rel : ∀ {fs : List Str} {vs : List V} {us : List Value}, Vals vs us → Paired (fun (p : Str × V) (q : Str × Value) => p.1 = q.1 ∧ RelV p.2 q.2) (fs.zip vs) (fs.zip us)
  | [], _, _, _ => .nil
  | _ :: _, [], [], .nil => .nil
  | f :: fs, _ :: _, _ :: _, .cons r t => .cons ⟨rfl, r⟩ (zip_rel t)
/-- the values by their fields -/
theorem by_names {fs : List Str} {us : List Value} (nd : fs.Nodup) (l : us.length = fs.length) : ∃ v : Str → Value, us = fs.map v ∧ fs.zip us = fs.map fun f => (f, v f) := by
  have key : fs.zip us = fs.map fun f => (f, ((fs.zip us).lookup f).getD .none) := by
    have h1 := refill (pre := []) (l := fs.zip us) (by rw [List.nil_append, keys_zip l]; exact nd)
    rw [List.nil_append, keys_zip l] at h1
    have h2 : ∀ f ∈ fs, ((fs.zip us).lookup f).map (f, ·) = some (f, ((fs.zip us).lookup f).getD .none) := fun f hf => by
      rw [← keys_zip l] at hf
      obtain ⟨kv, a, b⟩ := List.mem_map.mp hf
      have e : (fs.zip us).lookup f = some kv.2 := lookup_of_nodup (by rw [keys_zip l]; exact nd) (by rw [← b]; exact a)
      rw [e]
      rfl
    have h3 : ∀ (g : Str → Option (Str × Value)) (k : Str → Str × Value) (l : List Str), (∀ f ∈ l, g f = some (k f)) → l.filterMap g = l.map k := fun g k l => by
      induction l with
      | nil => intro _; rfl
      | cons a l ih =>
        intro hh
        rw [List.filterMap_cons, hh a List.mem_cons_self, List.map_cons, ih fun f hf => hh f (List.mem_cons_of_mem _ hf)]
    exact h1.symm.trans (h3 _ _ _ h2)
  refine ⟨fun f => ((fs.zip us).lookup f).getD .none, ?_, key⟩
  have h4 := congrArg (List.map (·.2)) key
  rw [List.map_map] at h4
  have h5 : (fs.zip us).map (·.2) = us := by
    clear key h4 nd
    induction fs generalizing us with
    | nil => cases us with
      | nil => rfl
      | cons => cases l
    | cons f fs ih => cases us with
      | nil => cases l
      | cons u us => rw [List.zip_cons_cons, List.map_cons, ih (Nat.succ.inj l)]
  rw [h5] at h4
  exact h4
/-- the world of a walk: what the making of an own error needs -/
structure Wd (X : Cx) : Prop where
  sup : X.mg "super" = none
  top : (X.prog.main.scope.names.lookup ("super" : Str)).isSome = false
theorem Wd.grd {X : Cx} {pins : List (Addr × Obj)} {σ : L2.St} {H : Hp} {s : Shared} (W : Wd X) (I : Inv X pins σ H s) : Grd X.prog X.K s.heap := by
  obtain ⟨mb, h1, h2⟩ := I.mod.blt
  exact ⟨I.kIn, ⟨X.mg, I.mod.glob.keeps I.bk, W.sup⟩, ⟨mb, h1.keeps I.bk, (h2 "super" (by decide)).trans PyProof.Rows.Boot.«super»⟩, I.nolimit, W.top⟩
section
variable {X : Cx} {C fI : Addr} {fs : List Str}
/-- the call of the class, in a walk -/
theorem run_err {pins : List (Addr × Obj)} {σ : L2.St} {H : Hp} {s : Shared} {E : Value → Shared → Prop} {Q : Value → Shared → Prop} {us ws : List Value} {kw : List (Str × Value)} {vs : List V} (W : Wd X) (T : ErrC X.prog.main.file X.K C fI fs) (I : Inv X pins σ H s) (deep : X.A.depth + 1 < recursionLimit)
    (r : Vals vs ws) (l : vs.length = fs.length) (how : (us = ws ∧ kw = []) ∨ (us = [] ∧ kw = fs.zip ws))
    (h : ∀ e dx s', H e = none → H dx = none → dx ≠ e → s.heap.get? e = none → s.heap.get? dx = none → (∀ b o, s.heap.get? b = some o → s'.heap.get? b = some o) → Inv X pins σ (erU H e C dx (fs.zip vs).reverse) s' → (∃ t0 : Addr, s'.heap.get? e = some ({ cls := .ref C, dict := if (fs.zip vs).reverse.isEmpty then none else some dx, data := .fields #[.ref t0, .none, .none, .none, .bool false, .none] } : Obj)) → Q (.ref e) s') :
    wpAny (model X.prog X.w) X.A (call (.ref C) us kw) Q E s := by
  have nd : fs.Nodup := (List.nodup_cons.mp T.nd).2
  obtain ⟨v, e1, e2⟩ := by_names nd (r.length.symm.trans l)
  obtain ⟨hp, g, d, t, os⟩ := s
  refine wpAny_call (make_err (v := v) (W.grd I) T deep (how.imp (fun ⟨a, b⟩ => ⟨a.trans e1, b⟩) fun ⟨a, b⟩ => ⟨a, by rw [b, ← e1]⟩) fun h' tk e M => ?_)
  obtain ⟨t1, z⟩ := M.ex
  have ne : H e = none := I.hok.gone M.new
  rw [← e2] at z
  have pr : Paired (fun (p : Str × V) (q : Str × Value) => p.1 = q.1 ∧ RelV p.2 q.2) (fs.zip vs).reverse (fs.zip ws).reverse := paired_rev (zip_rel r)
  rcases z with ⟨z1, z2⟩ | ⟨dx, nn, z1, z2, z3, mA, z4, z5⟩
  · have emp : (fs.zip vs).reverse = [] := by
      rw [z1] at pr
      cases hv : (fs.zip vs).reverse with
      | nil => rfl
      | cons a b =>
        rw [hv] at pr
        cases pr
    -- an address apart, for the dict that is not there
    have far0 : hp.get? (h'.objs.size + e + 1) = none := by
      cases q : hp.get? (h'.objs.size + e + 1) with
      | none => rfl
      | some o => exact absurd (Heap.lt_size (M.old _ _ q)) (Nat.not_lt.mpr (Nat.le_succ_of_le (Nat.le_add_right _ _)))
    have far : H (h'.objs.size + e + 1) = none := I.hok.gone far0
    refine h e (h'.objs.size + e + 1) _ ne far (Nat.ne_of_gt (Nat.lt_succ_of_le (Nat.le_add_left e _))) M.new far0 M.old (grow (t' := tk) I M.old (fun b o q => ?_) fun b u q n => ?_) ⟨t1, by rw [emp]; exact z2⟩
    · unfold erU
      rw [if_neg (fun w => by rw [w, M.new] at q; cases q), emp]
      rfl
    · unfold erU at q
      rw [emp] at q
      by_cases w : b = e
      · rw [if_pos w] at q
        cases q
        rw [w]
        exact exo_ok z2
      · rw [if_neg w] at q
        have q' : H b = some u := q
        rw [n] at q'
        cases q'
  · by_cases em : (fs.zip vs).reverse = []
    · exfalso
      rw [em] at pr
      cases hq : (fs.zip ws).reverse with
      | cons a b =>
        rw [hq] at pr
        cases pr
      | nil => exact nn hq
    · have em2 : (fs.zip vs).reverse.isEmpty = false := by
        cases hq : (fs.zip vs).reverse with
        | nil => exact absurd hq em
        | cons => rfl
      have nd2 : H dx = none := I.hok.gone z1
      refine h e dx _ ne nd2 z2 M.new z1 M.old (grow (t' := tk) I M.old (fun b o q => ?_) fun b u q n => ?_) ⟨t1, by rw [em2]; exact z3⟩
      · unfold erU
        rw [if_neg (fun w => by rw [w, M.new] at q; cases q), em2, if_neg Bool.false_ne_true, if_neg (fun w => by rw [w, z1] at q; cases q)]
      · unfold erU at q
        rw [em2, if_neg Bool.false_ne_true] at q
        by_cases w : b = e
        · rw [if_pos w] at q
          cases q
          rw [w]
          unfold erO
          rw [em2]
          exact exo_ok z3
        · rw [if_neg w] at q
          by_cases w2 : b = dx
          · rw [if_pos w2] at q
            cases q
            rw [w2]
            exact exd_ok z4 fun f => by rw [z5 f]; exact lk_rel pr
          · rw [if_neg w2, n] at q
            cases q
end
end RWk
end
section
/-! M7: rules: an own error made, raised; isinstance of it; its fields. -/
namespace RWk
open PySem PySem.Spec PyProof.Rows L2
abbrev flOf (fs : List Str) (vs : List V) : List (Str × V) := (fs.zip vs).reverse
/-- C(e, ..), C(f = e, ..): a new error -/
def tErr (C : Addr) (fs : List Str) (t : TA) : TE := fun σ H Q => t σ H fun vs H1 => vs.length = fs.length ∧ ∀ e dx, H1 e = none → H1 dx = none → dx ≠ e → Q (.ref e) (erU H1 e C dx (flOf fs vs))
section
variable {X : Cx} {C fI : Addr} {fs : List Str} {x : Str} {p pos : Pos} {e : Expr} {es : List Expr} {kws : List Keyword} {t : TA}
theorem pe_errP (W : Wd X) (T : ErrC X.prog.main.file X.K C fI fs) (deep : X.A.depth + 1 < recursionLimit) (hg : Gl X x) (hm : X.mg x = some (.ref C)) (ha : PA X (e :: es) t) (hdb : (x == ("__debug__" : Str)) = false)
    (he : starEach (e :: es) X.env = (false, eval e X.env) :: starEach es X.env := by rfl) (hpl : (backTo pos (starEach es X.env)).any (·.1) = false := by rfl) : PE X (.Call (.Name x p) (e :: es) [] pos) (tErr C fs t) := by
  refine ⟨fun pins s σ H Q I h => ?_⟩
  refine wpAny_Call_Name_kw (ld_glob I hg hm ?_ hdb)
  refine PySem.W.callWith_K (h₀ := X.base) I.ok.mod.kin T.kC (thn (ha.run pos pins s σ H _ I h) fun us s1 ⟨vs, H1, I1, r, l, q⟩ => ⟨I1.kIn, ?_⟩) he hpl
  exact run_err W T I1 deep r l (.inl ⟨rfl, rfl⟩) fun e dx s' n1 n2 ne _ _ _ J _ => ⟨.ref e, _, J, rfl, q e dx n1 n2 ne⟩
theorem pe_err0 (W : Wd X) (T : ErrC X.prog.main.file X.K C fI []) (deep : X.A.depth + 1 < recursionLimit) (hg : Gl X x) (hm : X.mg x = some (.ref C)) (hdb : (x == ("__debug__" : Str)) = false) : PE X (.Call (.Name x p) [] [] pos) (tErr C [] tNil) := by
  refine ⟨fun pins s σ H Q I h => ?_⟩
  refine wpAny_Call_Name_kw (ld_glob I hg hm ?_ hdb)
  refine PySem.W.callWith_K0 I.kIn T.kC ?_
  obtain ⟨l, q⟩ : ([] : List V).length = ([] : List Str).length ∧ ∀ e dx, H e = none → H dx = none → dx ≠ e → Q (.ref e) (erU H e C dx (flOf [] [])) := h
  exact run_err (vs := []) (ws := []) W T I deep .nil l (.inl ⟨rfl, rfl⟩) fun e dx s' n1 n2 ne _ _ _ J _ => ⟨.ref e, _, J, rfl, q e dx n1 n2 ne⟩
theorem pe_errK (W : Wd X) (T : ErrC X.prog.main.file X.K C fI fs) (deep : X.A.depth + 1 < recursionLimit) (hg : Gl X x) (hm : X.mg x = some (.ref C)) (hkw : PK X kws t) (hdb : (x == ("__debug__" : Str)) = false) (hks : (backToKw pos (keywordEach kws X.env)).filterMap (·.1) = fs)
    (hall : (backToKw pos (keywordEach kws X.env)).all (·.1.isSome) = true := by rfl) (hpl : ((backTo pos (starEach [] X.env)).any (·.1) || (backToKw pos (keywordEach kws X.env)).any (·.1.isNone)) = false := by rfl) :
    PE X (.Call (.Name x p) [] kws pos) (tErr C fs t) := by
  refine ⟨fun pins s σ H Q I h => ?_⟩
  refine wpAny_Call_Name_kw (ld_glob I hg hm ?_ hdb)
  refine PySem.W.callWith_KW0 (h₀ := X.base) I.ok.mod.kin T.kC hall ?_ hpl
  refine thn (hkw.run pos pins s σ H _ I h) fun ws s2 ⟨zs, H2, I2, rz, l, q⟩ => ⟨I2.kIn, ?_⟩
  rw [hks]
  exact run_err (us := []) W T I2 deep rz l (.inr ⟨rfl, rfl⟩) fun e dx s' n1 n2 ne _ _ _ J _ => ⟨.ref e, _, J, rfl, q e dx n1 n2 ne⟩
/-- an own error made to be raised: its fields stand as an exception's dict -/
def tErrX (C : Addr) (fs : List Str) (t : TA) : L2.St → Hp → XK → Prop := fun σ H Q => t σ H fun vs H1 => vs.length = fs.length ∧ fs ≠ [] ∧ ∀ dx, H1 dx = none → Q (.ref C) (some dx) (upd H1 dx (.xd (flOf fs vs)))
theorem pmk_err (W : Wd X) (T : ErrC X.prog.main.file X.K C fI fs) (Rs : Raises X (.ref C)) (deep : X.A.depth + 1 < recursionLimit) (hg : Gl X x) (hm : X.mg x = some (.ref C)) (ha : PA X (e :: es) t) (hdb : (x == ("__debug__" : Str)) = false)
    (he : starEach (e :: es) X.env = (false, eval e X.env) :: starEach es X.env := by rfl) (hpl : (backTo pos (starEach es X.env)).any (·.1) = false := by rfl) : PMk X (.Call (.Name x p) (e :: es) [] pos) (tErrX C fs t) := by
  intro pins s σ H Q I h
  refine wpAny_Call_Name_kw (ld_glob I hg hm ?_ hdb)
  refine PySem.W.callWith_K (h₀ := X.base) I.ok.mod.kin T.kC (thn (ha.run pos pins s σ H _ I h) fun us s1 ⟨vs, H1, I1, r, l, ne0, q⟩ => ⟨I1.kIn, ?_⟩) he hpl
  refine run_err W T I1 deep r l (.inl ⟨rfl, rfl⟩) fun e dx s' n1 n2 ne eN dN kept J ⟨t0, ho⟩ => ?_
  have em : (flOf fs vs).isEmpty = false := by
    have l2 : (flOf fs vs).length = fs.length := by
      show ((fs.zip vs).reverse).length = _
      rw [List.length_reverse, List.length_zip, l, Nat.min_self]
    cases hq : flOf fs vs with
    | nil =>
      rw [hq] at l2
      exact absurd (List.length_eq_zero_iff.mp l2.symm) ne0
    | cons => rfl
  rw [show (fs.zip vs).reverse = flOf fs vs from rfl, em, if_neg Bool.false_ne_true] at ho
  have ee : erU H1 e C dx (flOf fs vs) e = some (exo e C (some dx)) := by
    unfold erU erO
    rw [if_pos rfl, em, if_neg Bool.false_ne_true]
  have ed : erU H1 e C dx (flOf fs vs) dx = some (exd dx (flOf fs vs)) := by
    unfold erU
    rw [if_neg ne, em, if_neg Bool.false_ne_true, if_pos rfl]
  obtain ⟨G, g1, g2⟩ := restrict s'.heap fun b => decide (b ≠ e)
  have gk : ∀ b, b ≠ e → G.get? b = s'.heap.get? b := fun b hb => g1 b (decide_eq_true hb)
  have ge : G.get? e = none := g2 e (by simp)
  have gs : ∀ b o, G.get? b = some o → s'.heap.get? b = some o := fun b o z => by
    by_cases hb : b = e
    · rw [hb, ge] at z
      cases z
    · exact (gk b hb).symm.trans z
  have old : ∀ b o, s1.heap.get? b = some o → b ≠ e := fun b o z w => by
    rw [w, eN] at z
    cases z
  have oldD : ∀ b o, s1.heap.get? b = some o → b ≠ dx := fun b o z w => by
    rw [w, dN] at z
    cases z
  obtain ⟨mA, hns, rel⟩ := exd_at J.hok ed
  have JG : Inv X pins σ (upd H1 dx (.xd (flOf fs vs))) { s1 with heap := G } := grow (t' := s1.toks) I1 (fun b o z => (gk b (old b o z)).trans (kept b o z)) (fun b o z => upd_ne (oldD b o z)) fun b u z n => by
    by_cases w : b = dx
    · rw [w, upd_same] at z
      cases z
      rw [w]
      exact ⟨mA, hns.at fun o y => (gk dx ne).trans y, rel⟩
    · rw [upd_ne w, n] at z
      cases z
  exact ⟨e, _, _, { s1 with heap := G }, _, .ref C, some dx, rfl, JG, gs, ge, ho, ⟨rfl, rfl⟩, rfl, rfl, by rw [upd_ne (Ne.symm ne)]; exact n1, J.os.trans I1.os.symm, J.bare, Rs, q dx n2⟩
end
end RWk
namespace RWk
open PySem PySem.W PySem.Spec PySem.Calls PyProof.Rows
section
variable {prog : Program} {w : World} {A : Around} {E : Value → Shared → Prop} {s : Shared} {K : Frag} {x D : Addr} {ox : Obj} {od : Option Obj}
theorem findObj_dat {C : Addr} {name : Str} {a g : Value} (hc : (clsIn K C).isSome = true) (ha : findIn K (.ref C) name = some (some a)) (hg : specialIn K a "__get__" = some (some g)) (ht : takesIn K a = some true) : findObj K C od name = some (.bind g a) := by
  obtain ⟨cd, hc⟩ := Option.isSome_iff_exists.mp hc
  unfold findObj
  rw [hc, Option.bind_some, ha, Option.bind_some]
  simp [hg, ht]
theorem ask_class {Q : Option Value → Shared → Prop} (T : L2.ExcC K D) (X : K.In s.heap) (I : InstAt s.heap x ox D od) (fin : Q (some (.ref D)) { s with toks := s.toks + 1 }) : wpAny (model prog w) A (getAttr? (.ref x) "__class__") Q E s := by
  have hf : findObj K D od "__class__" = some (.bind (.builtin "getset_descriptor.__get__") (.builtin "object.__class__")) := findObj_dat (by obtain ⟨cd, hc, _⟩ := any_some T.hd; rw [hc]; rfl) T.ha T.hn T.ht
  obtain ⟨hp, g, d, t, os⟩ := s
  have l0 := I.type (M := model prog w)
  have l1 := looks_findIn (M := model prog w) X T.hg
  have l2 := looks_findIn (M := model prog w) X T.hk
  have l3 := looks_find (M := model prog w) X I hf
  have lb : Looks (model prog w) hp (isInstance (.ref x) (.type "BaseException")) true := l0.andThen (looks_subIn X T.hs)
  have f0 : (false && onTheHeap (Value.builtin "BaseException.__getattribute__")) = false := rfl
  have f2 : (Value.builtin "BaseException.__getattribute__" == Value.builtin "object.__getattribute__") = false := by decide +kernel
  have f1 : (onTheHeap (Value.ref D) && Value.builtin "BaseException.__getattribute__" == Value.builtin "object.__getattribute__") = false := by rw [f2]; rfl
  unfold getAttr? getAttrBy? getAttrBy
  refine wpAny_bind (wpAny_mkText (wpAny_bind (wpAny_attempt (wpAny_holding (wpAny_bind (l0.at (wpAny_bind (l1.at ?_))))))))
  show wpAny _ _ (if (onTheHeap (Value.ref D) && Value.builtin "BaseException.__getattribute__" == Value.builtin "object.__getattribute__") = true then _ else _) _ _ _
  rw [f1, if_neg Bool.false_ne_true]
  unfold getAttrByItsOwn hookBefore
  refine wpAny_bind ?_
  rw [if_pos (show onTheHeap (Value.ref D) = true from rfl)]
  refine l2.at ?_
  refine wpAny_bind (wpAny_attempt (wpAny_holding ?_))
  unfold callGetattribute
  rw [f0, if_neg Bool.false_ne_true]
  unfold boundAndCalled
  rw [PySem.F.excAttr_ValueError.ga.bind (.ref x)]
  refine wpAny_bind (wpAny_pure ?_)
  show wpAny _ _ (call (.builtin "BaseException.__getattribute__") [.ref x, .str "__class__" t]) _ _ _
  refine wpAny_call (codeAny_call_builtin PySem.F.excAttr_ValueError.ga.plain PySem.F.entry_bexc_ga ?_)
  refine @check_slot (model prog w) _ _ ⟨hp, g, d, t + 1, os⟩ "BaseException.__getattribute__" "BaseException" "__getattribute__" (.ref x) [.str "__class__" t] [] _ (by decide +kernel) (by decide +kernel) lb (PySem.F.args_bexc_ga (.ref x) (.str "__class__" t)) ?_
  unfold Builtin.«object.__getattribute__»
  refine wpAny_bind (wpAny_of_eq (a := ((Value.ref x : Value), [Value.str "__class__" t])) (by first | rfl | (simp only [slotArgs]; rfl)) ?_)
  refine wpAny_bind (wpAny_pure (wpAny_bind (l0.at (wpAny_bind (l3.at ?_)))))
  show wpAny _ _ (holding [Value.builtin "object.__class__"] (call (.builtin "getset_descriptor.__get__") [.builtin "object.__class__", .ref x, .ref D]) >>= ret) _ _ _
  refine wpAny_bind (wpAny_holding (wpAny_call (class_get (s := ⟨hp, g, d, t + 1, os⟩) (ox := ox) (od := od) X I T.hm ?_)))
  refine wpAny_pure ?_
  show wpAny _ _ (handedOut (.ref D)) _ _ _
  rw [handedOut_of (v := .ref D) rfl]
  first
    | exact wpAny_pure (wpAny_pure fin)
    | exact wpAny_pure fin
    | exact wpAny_pure (wpAny_bind (wpAny_pure (wpAny_pure fin)))
theorem kitx_er (T : L2.ExcC K D) : KitX K (.ref x) (.ref D) (fun h => InstAt h x ox D od) where
  ty := fun _ _ _ I => I.type
  it := fun _ _ X _ => by
    obtain ⟨cdD, hcD, _⟩ := any_some T.hd
    unfold clsIn at hcD
    split at hcD
    · rename_i c' d' cd' sl' ho
      intro A' Q' E' s' k q
      unfold isType loadHead
      exact wpAny_bind (wpAny_loadPart (k _ _ (X _ _ ho)) (wpAny_pure q))
    · cases hcD
  ne := fun h tp dd its n sl X htp => by
    obtain ⟨cdD, hcD, _⟩ := any_some T.hd
    refine Bool.eq_false_iff.mpr fun q => ?_
    have e : D = tp := Value.ref.inj (beq_iff_eq.mp q)
    subst e
    unfold clsIn at hcD
    split at hcD
    · rename_i c' d' cd' sl' ho
      have z := (X _ _ ho).symm.trans htp
      cases z
    · cases hcD
  ca := fun X I k => ask_class T X I k
end
end RWk
namespace RWk
open PySem PySem.Spec PyProof.Rows L2
section
variable {X : Cx} {e : Expr} {te : TE} {n : Str} {pos : Pos}
theorem er_inst {pins : List (Addr × Obj)} {σ : L2.St} {H : Hp} {s : Shared} {a C : Addr} {fl : List (Str × V)} (I : Inv X pins σ H s) (h : ErAt H a C fl) : ∃ ox od, PySem.W.InstAt s.heap a ox C od ∧ ∀ f, RelO (fl.lookup f) ((match od with | some o => PySem.W.lookIn f o | none => some none).getD none) ∧ (od.isSome = !fl.isEmpty) ∧ ∀ o, od = some o → (PySem.W.lookIn f o).isSome = true := by
  obtain ⟨dx, h1, h2⟩ := h
  unfold erO at h1
  obtain ⟨t1, ho⟩ := exo_at I.hok h1
  cases fl with
  | nil => exact ⟨_, none, ⟨ho, rfl, rfl, trivial⟩, fun f => ⟨True.intro, rfl, fun o z => by cases z⟩⟩
  | cons p fl =>
    obtain ⟨mA, hns, rel⟩ := exd_at I.hok (h2 (List.cons_ne_nil _ _))
    obtain ⟨od, hod, hl⟩ := lookIn_ns hns
    refine ⟨_, some od, ⟨ho, rfl, rfl, hod⟩, fun f => ⟨?_, rfl, fun o z => ?_⟩⟩
    · show RelO _ ((PySem.W.lookIn f od).getD none)
      rw [hl f]
      exact rel f
    · cases z
      rw [hl f]
      rfl
/-- isinstance(e, c), e a tracked own error -/
def rIsX (K : PySem.W.Frag) : List V → Hp → VK → Prop := fun xs H Q => ∃ (a D : Addr) (fl : List (Str × V)) (c : V) (cv : Value) (b : Bool), xs = [.ref a, c] ∧ ErAt H a D fl ∧ ExcC K D ∧ (∀ u, RelV c u → u = cv) ∧ PySem.W.kitOne K (.ref D) cv = some b ∧ Q (.bl b) H
theorem call_isX : CallR X (.builtin "isinstance") (rIsX X.K) := by
  intro pins s σ H xs us Q I r h
  obtain ⟨a, D, fl, c, cv, b, rfl, ha, T, hcv, eb, q⟩ := h
  cases r with
  | cons rx rr =>
    cases rr with
    | cons rt rr =>
      cases rr
      cases rx
      have ec := hcv _ rt
      subst ec
      obtain ⟨ox, od, J, _⟩ := er_inst I ha
      exact PySem.W.kia_one (kitx_er T) I.kIn J eb (fun z => nomatch z) fun tk => ⟨.bl b, H, I.kept (t' := tk) fun _ _ z => z, rfl, q⟩
/-- e.n of a tracked own error -/
def tEf (K : PySem.W.Frag) (n : Str) (te : TE) : TE := fun σ H Q => te σ H fun x H1 => ∃ (a C : Addr) (fl : List (Str × V)) (v : V), x = .ref a ∧ ErAt H1 a C fl ∧ XfC K C ∧ PySem.W.findIn K (.ref C) n = some none ∧ fl.lookup n = some v ∧ Q v H1
theorem pe_ef (he : PE X e te) (hb : attributeBase e n X.env (eval e X.env) = eval e X.env := by rfl) : PE X (.Attribute e n pos) (tEf X.K n te) := by
  refine ⟨fun pins s σ H Q I h => ?_⟩
  refine attr_of hb (thn (he.run pins s σ H _ I h) fun u s1 hh => ?_)
  obtain ⟨x, H1, I1, rx, a, C, fl, v, ex, ea, T, hno, l, q⟩ := hh
  subst ex
  obtain rfl : u = Value.ref a := rx
  obtain ⟨ox, od, J, hl⟩ := er_inst I1 ea
  obtain ⟨h1, h2, h3⟩ := hl n
  have nn : fl.isEmpty = false := by
    cases fl with
    | nil => cases l
    | cons => rfl
  rw [nn] at h2
  obtain ⟨o, rfl⟩ := Option.isSome_iff_exists.mp h2
  have h4 := h3 o rfl
  obtain ⟨z, hz⟩ := Option.isSome_iff_exists.mp h4
  have h1' : RelO (fl.lookup n) ((PySem.W.lookIn n o).getD none) := h1
  rw [l, hz] at h1'
  obtain ⟨u, hu, ru⟩ := RelO.some_of (v := v) (o := z) h1'
  exact HandSPX.exc_get I1.kIn J T.ga T.gg T.exC (PySem.W.findObj_own T.hdC hno rfl (by rw [hz, hu])) (handed_of ru) ⟨v, H1, I1.tok _, ru, q⟩
end
end RWk
end
section
/-! M8: defs that refuse what is no path ahead of all else. -/
namespace RWk
open PySem PySem.Spec PyProof.Rows L2
/-- v is no instance of the class at CP -/
def NP (K : PySem.W.Frag) (CP : Addr) (H : Hp) (v : V) : Prop := ∃ t, TyX K H v t ∧ PySem.W.kitOne K t (.ref CP) = some false
/-- the promise: the first argument is refused by BadPath -/
def spB (K : PySem.W.Frag) (CP CB : Addr) (n : Nat) : Sp := fun vs H _ E => vs.length = n ∧ ∃ v rest, vs = v :: rest ∧ NP K CP H v ∧ ∀ d, H d = none → E (.ref CB) (some d) (upd H d (.xd [("thing", v)]))
/-- in a body: the parameters are bound, the first is no path, its refusal is awaited -/
structure Sit (X : Cx) (E : XK) (CP CB : Addr) (ps : List Str) (σ : L2.St) (H : Hp) (v : V) : Prop where
  par : ∀ i, i < ps.length → ∃ u, σ[i]? = some (some u)
  pos : 0 < ps.length
  fst : σ[0]? = some (some v)
  np : NP X.K CP H v
  out : ∀ d, H d = none → E (.ref CB) (some d) (upd H d (.xd [("thing", v)]))
/-- what the body's names are -/
structure Scp (X : Cx) (ps : List Str) : Prop where
  at_ : ∀ (i : Nat) (x : Str), ps[i]? = some x → X.N[i]? = some x ∧ Vis X.env.scope x
/-- a global name that can be read -/
def Rd1 (X : Cx) (x : Str) : Prop := ∃ u, X.mg x = some u ∨ (X.mg x = none ∧ bootBuiltins x = some u ∧ x ≠ "__name__")
/-- plain parameters qs, no defaults -/
structure PB (fd : FuncData) (qs : List Str) : Prop where
  po : fd.params.posonlyargs = []
  ar : fd.params.args.map (·.arg) = qs
  va : fd.params.vararg = none
  ko : fd.params.kwonlyargs = []
  ka : fd.params.kwarg = none
  df : fd.defaults = .none
  nd : qs.Nodup
theorem PB.binds {fd : FuncData} {qs : List Str} (B : PB fd qs) (K : PySem.W.Frag) : Binds K fd qs [] := .all fun us l => by
  have z := bind_all fd qs [] us [] B.po (by rw [List.append_nil]; exact B.ar) B.va B.ko B.ka B.df (by rw [List.append_nil]; exact B.nd) l rfl
  rw [List.append_nil, List.append_nil] at z
  exact z
theorem PB.kw {fd : FuncData} {qs : List Str} (B : PB fd qs) {ws : List Value} (l : ws.length = qs.length) (s : Shared) : BindsTo s fd ⟨[], qs.zip ws⟩ (qs.zip ws) := .of_eq (bind_all fd [] qs [] ws B.po B.ar B.va B.ko B.ka B.df B.nd rfl l)
/-- a global def of the parameters qs that keeps spB -/
def GQ (P : Program) (w : World) (K : PySem.W.Frag) (mg : Str → Option Value) (base : Heap) (CP CB : Addr) (k : Nat) (x : Str) (qs : List Str) : Prop := ∃ (f : Addr) (fd : FuncData), mg x = some (.ref f) ∧ PySem.W.keepIn K (.ref f) = true ∧
  FnOk P w K mg base (L2.CX P w) k f fd qs (spB K CP CB qs.length) ∧ PB fd qs
/-! ### the looks -/
def okN (x : Str) : Bool := !(x == ("__debug__" : Str)) && !(x == ("__classdict__" : Str))
def glB (sc : Scope) (x : Str) : Bool := decide (sc.names.lookup x = some .globalImplicit) && okN x
/-- a parameter, a constant -/
def smp (ps : List Str) : Expr → Bool
  | .Name x _ => ps.contains x && okN x
  | .Constant .none _ _ => true
  | .Constant (.int _) _ _ => true
  | .Constant (.bool _) _ _ => true
  | .Constant (.str _) _ _ => true
  | _ => false
/-- some argument leads, all ahead of it are simple -/
def ldArgs (ps : List Str) (ld : Expr → Bool) : List Expr → Bool
  | [] => false
  | e :: es => ld e || (smp ps e && ldArgs ps ld es)
abbrev kwN (kws : List Keyword) : List Str := kws.filterMap (·.arg)
def fstK (ps : List Str) : List Keyword → Bool
  | ⟨_, .Name x _, _⟩ :: _ => decide (ps[0]? = some x)
  | _ => false
def fstP (ps : List Str) : List Expr → Bool
  | .Name x _ :: _ => decide (ps[0]? = some x)
  | _ => false
/-- the expression asks a def that refuses the first parameter, ahead of all else -/
def ld (ps : List Str) (sc : Scope) (T : Str → Option (List Str)) (G : Str → Bool) : Nat → Expr → Bool
  | 0, _ => false
  | n + 1, e => match e with
    | .Call (.Name x _) args [] _ => glB sc x && ((G x && ldArgs ps (ld ps sc T G n) args) || (decide ((T x).map List.length = some args.length) && (args.all (smp ps) && fstP ps args)))
    | .Call (.Name x _) [] (kw :: kws) _ => glB sc x && (decide (T x = some (kwN (kw :: kws))) && ((kw :: kws).all (fun k => k.arg.isSome && smp ps k.value) && fstK ps (kw :: kws)))
    | .Call (.Attribute o m _) [] [] _ => (match o with
      | .Call (.Name _ _) (_ :: _) _ _ => ld ps sc T G n o
      | _ => false)
    | .BinOp l _ _ _ => ld ps sc T G n l
    | .Subscript v _ _ => ld ps sc T G n v
    | .Tuple es _ _ => ldArgs ps (ld ps sc T G n) es
    | .ListComp _ (⟨_, it, _, _⟩ :: _) _ _ => ld ps sc T G n it
    | _ => false
def notStar : Expr → Bool
  | .Starred .. => false
  | _ => true
theorem starEach_ns {e : Expr} {es : List Expr} {env : Env} (h : notStar e = true) : starEach (e :: es) env = (false, eval e env) :: starEach es env := by
  cases e <;> first | rfl | cases h
theorem smp_ns {ps : List Str} {e : Expr} (h : smp ps e = true) : notStar e = true := by
  cases e <;> first | rfl | cases h
theorem ld_ns {ps : List Str} {sc : Scope} {T : Str → Option (List Str)} {G : Str → Bool} {n : Nat} {e : Expr} (h : ld ps sc T G n e = true) : notStar e = true := by
  cases n with
  | zero => cases h
  | succ n => cases e <;> first | rfl | cases h
section
variable {X : Cx} {E : XK} {CP CB : Addr} {ps : List Str} {pins : List (Addr × Obj)} {σ : L2.St} {H : Hp} {s : Shared} {v : V}
theorem smp_run (S : Scp X ps) (I : Inv X pins σ H s) (Z : Sit X E CP CB ps σ H v) {e : Expr} (h : smp ps e = true) {Q : Value → Shared → Prop} (fin : ∀ u x s', Inv X pins σ H s' → RelV x u → (∀ y p, e = .Name y p → ps[0]? = some y → x = v) → Q u s') :
    wpAny (model X.prog X.w) X.A (eval e X.env) Q X.xe s := by
  have go : ∀ {t : TE}, PE X e t → ∀ R : VK, t σ H R → (∀ x H', R x H' → H' = H ∧ ∀ y p, e = .Name y p → ps[0]? = some y → x = v) → wpAny (model X.prog X.w) X.A (eval e X.env) Q X.xe s := fun he R hr hR =>
    thn (he.run pins s σ H R I hr) fun u s1 ⟨x, H1, I1, r1, q⟩ => by
      obtain ⟨e1, e2⟩ := hR x H1 q
      rw [e1] at I1
      exact fin u x s1 I1 r1 e2
  cases e with
  | Name x p =>
    obtain ⟨h1, h2⟩ := Bool.and_eq_true_iff.mp (show (ps.contains x && okN x) = true from h)
    obtain ⟨h3, h4⟩ := Bool.and_eq_true_iff.mp (show (!(x == ("__debug__" : Str)) && !(x == ("__classdict__" : Str))) = true from h2)
    obtain ⟨i, hi, h0⟩ : ∃ i : Nat, ps[i]? = some x ∧ (ps[0]? = some x → i = 0) := by
      by_cases z : ps[0]? = some x
      · exact ⟨0, z, fun _ => rfl⟩
      · obtain ⟨i, hi⟩ := List.mem_iff_getElem?.mp (by simpa using h1 : x ∈ ps)
        exact ⟨i, hi, fun q => absurd q z⟩
    obtain ⟨a1, a2⟩ := S.at_ i x hi
    obtain ⟨u, hu⟩ := Z.par i (List.getElem?_eq_some_iff.mp hi).1
    refine go (pe_var a1 a2 (by simpa using h3) (by simpa using h4)) (fun x' H' => x' = u ∧ H' = H) ⟨u, hu, rfl, rfl⟩ fun x' H' ⟨q1, q2⟩ => ⟨q2, fun y p' e0 q0 => ?_⟩
    cases e0
    have z := h0 q0
    subst z
    rw [Z.fst] at hu
    cases hu
    exact q1
  | Constant c j p =>
    have any : ∀ {x : V}, PE X (.Constant c j p) (tC x) → wpAny (model X.prog X.w) X.A (eval (.Constant c j p) X.env) Q X.xe s := fun {x} he => go he (fun x' H' => x' = x ∧ H' = H) ⟨rfl, rfl⟩ fun x' H' ⟨q1, q2⟩ => ⟨q2, fun y p' e0 => by cases e0⟩
    cases c with
    | none => exact any pe_non
    | int i => exact any pe_int
    | bool b => exact any pe_bl
    | str y => exact any pe_str
    | _ => cases h
  | _ => cases h
theorem smps_run (S : Scp X ps) (Z : Sit X E CP CB ps σ H v) {pos : Pos} : ∀ {es : List Expr} {s : Shared} {Q : List Value → Shared → Prop}, Inv X pins σ H s → es.all (smp ps) = true →
    (∀ us vs s', Inv X pins σ H s' → Vals vs us → vs.length = es.length → (fstP ps es = true → ∃ r, vs = v :: r) → Q us s') → wpAny (model X.prog X.w) X.A (spliced (backTo pos (starEach es X.env))) Q X.xe s
  | [], s, Q, I, _, fin => Calls.spliced_nil (fin [] [] s I .nil rfl fun z => by cases z)
  | e :: es, s, Q, I, h, fin => by
    obtain ⟨h1, h2⟩ := Bool.and_eq_true_iff.mp (show (smp ps e && es.all (smp ps)) = true from h)
    rw [starEach_ns (smp_ns h1)]
    show wpAny _ _ (spliced ((false, eval e X.env) :: backTo pos (starEach es X.env))) _ _ s
    refine Calls.spliced_cons (smp_run S I Z h1 fun u x s1 I1 r1 q1 => ?_)
    refine smps_run S Z I1 h2 fun us vs s2 I2 r2 l2 _ => ?_
    refine fin (u :: us) (x :: vs) s2 I2 (.cons r1 r2) (congrArg Nat.succ l2) fun z => ⟨vs, ?_⟩
    cases e with
    | Name y p => rw [q1 y p rfl (of_decide_eq_true z)]
    | _ => cases z
theorem kw_len {kws : List Keyword} (h : kws.all (fun k => k.arg.isSome && smp ps k.value) = true) : (kws.filterMap (·.arg)).length = kws.length := by
  induction kws with
  | nil => rfl
  | cons k r ih =>
    obtain ⟨h1, h2⟩ := Bool.and_eq_true_iff.mp (show ((k.arg.isSome && smp ps k.value) && r.all (fun k => k.arg.isSome && smp ps k.value)) = true from h)
    obtain ⟨a, ha⟩ := Option.isSome_iff_exists.mp (Bool.and_eq_true_iff.mp h1).1
    rw [List.filterMap_cons, ha]
    exact congrArg Nat.succ (ih h2)
theorem kw_looks {env : Env} {pos : Pos} {kws : List Keyword} (h : kws.all (fun k => k.arg.isSome && smp ps k.value) = true) : (backToKw pos (keywordEach kws env)).all (·.1.isSome) = true ∧ (backToKw pos (keywordEach kws env)).filterMap (·.1) = kws.filterMap (·.arg) ∧
    ((backTo pos (starEach [] env)).any (·.1) || (backToKw pos (keywordEach kws env)).any (·.1.isNone)) = false := by
  induction kws with
  | nil => exact ⟨rfl, rfl, rfl⟩
  | cons k r ih =>
    obtain ⟨h1, h2⟩ := Bool.and_eq_true_iff.mp (show ((k.arg.isSome && smp ps k.value) && r.all (fun k => k.arg.isSome && smp ps k.value)) = true from h)
    obtain ⟨a, ha⟩ := Option.isSome_iff_exists.mp (Bool.and_eq_true_iff.mp h1).1
    obtain ⟨i1, i2, i3⟩ := ih h2
    obtain ⟨ka, kv, kp⟩ := k
    have ha : ka = some a := ha
    subst ha
    refine ⟨?_, ?_, ?_⟩
    · show (true && (backToKw pos (keywordEach r env)).all (·.1.isSome)) = true
      rw [i1]
      rfl
    · show a :: (backToKw pos (keywordEach r env)).filterMap (·.1) = a :: r.filterMap (·.arg)
      rw [i2]
    · show (false || (false || (backToKw pos (keywordEach r env)).any (·.1.isNone))) = false
      have i3 : (false || (backToKw pos (keywordEach r env)).any (·.1.isNone)) = false := i3
      rw [i3]
      rfl
theorem kws_run (S : Scp X ps) (Z : Sit X E CP CB ps σ H v) {pos : Pos} : ∀ {kws : List Keyword} {s : Shared} {Q : List Value → Shared → Prop}, Inv X pins σ H s → kws.all (fun k => k.arg.isSome && smp ps k.value) = true →
    (∀ us vs s', Inv X pins σ H s' → Vals vs us → vs.length = kws.length → (fstK ps kws = true → ∃ r, vs = v :: r) → Q us s') → wpAny (model X.prog X.w) X.A (evalAll ((backToKw pos (keywordEach kws X.env)).map (·.2))) Q X.xe s
  | [], s, Q, I, _, fin => wpAny_evalAll_nil (fin [] [] s I .nil rfl fun z => by cases z)
  | ⟨ka, e, kp⟩ :: kws, s, Q, I, h, fin => by
    obtain ⟨h1, h2⟩ := Bool.and_eq_true_iff.mp (show ((ka.isSome && smp ps e) && kws.all (fun k => k.arg.isSome && smp ps k.value)) = true from h)
    show wpAny _ _ (evalAll ((do let v ← eval e X.env; standAt pos; pure v) :: (backToKw pos (keywordEach kws X.env)).map (·.2))) _ _ s
    refine wpAny_evalAll_cons (wpAny_bind (smp_run S I Z (Bool.and_eq_true_iff.mp h1).2 fun u x s1 I1 r1 q1 => wpAny_bind (wpAny_standAt (wpAny_pure ?_))))
    refine kws_run S Z I1 h2 fun us vs s2 I2 r2 l2 _ => ?_
    refine fin (u :: us) (x :: vs) s2 I2 (.cons r1 r2) (congrArg Nat.succ l2) fun z => ⟨vs, ?_⟩
    cases e with
    | Name y p => rw [q1 y p rfl (of_decide_eq_true z)]
    | _ => cases z
/-- an expression that leads raises -/
def Rz (X : Cx) (E : XK) (CP CB : Addr) (ps : List Str) (e : Expr) : Prop := ∀ (pins : List (Addr × Obj)) (s : Shared) (σ : L2.St) (H : Hp) (v : V), Inv X pins σ H s → Sit X E CP CB ps σ H v → wpAny (model X.prog X.w) X.A (eval e X.env) (fun _ _ => False) X.xe s
theorem ldArgs_run (S : Scp X ps) {f : Expr → Bool} (hf : ∀ e, f e = true → notStar e = true ∧ Rz X E CP CB ps e) {pos : Pos} : ∀ {es : List Expr} {s : Shared}, Inv X pins σ H s → Sit X E CP CB ps σ H v → ldArgs ps f es = true →
    wpAny (model X.prog X.w) X.A (spliced (backTo pos (starEach es X.env))) (fun _ _ => False) X.xe s
  | [], _, _, _, h => by cases h
  | e :: es, s, I, Z, h => by
    cases hl : f e with
    | true =>
      obtain ⟨n1, n2⟩ := hf e hl
      rw [starEach_ns n1]
      show wpAny _ _ (spliced ((false, eval e X.env) :: backTo pos (starEach es X.env))) _ _ s
      exact Calls.spliced_cons (wpAny_mono (n2 pins s σ H v I Z) (fun _ _ z => z.elim) fun _ _ z => z)
    | false =>
      have h' : (f e || (smp ps e && ldArgs ps f es)) = true := h
      rw [hl, Bool.false_or] at h'
      obtain ⟨h1, h2⟩ := Bool.and_eq_true_iff.mp h'
      rw [starEach_ns (smp_ns h1)]
      show wpAny _ _ (spliced ((false, eval e X.env) :: backTo pos (starEach es X.env))) _ _ s
      exact Calls.spliced_cons (smp_run S I Z h1 fun u x s1 I1 r1 q1 => wpAny_mono (ldArgs_run S hf I1 Z h2) (fun _ _ z => z.elim) fun _ _ z => z)
theorem ldArgs_cons {f : Expr → Bool} (hf : ∀ e, f e = true → notStar e = true ∧ Rz X E CP CB ps e) {es : List Expr} (h : ldArgs ps f es = true) : ∃ e r, es = e :: r ∧ starEach (e :: r) X.env = (false, eval e X.env) :: starEach r X.env := by
  cases es with
  | nil => cases h
  | cons e r =>
    refine ⟨e, r, rfl, ?_⟩
    cases hl : f e with
    | true => exact starEach_ns (hf e hl).1
    | false =>
      have h' : (f e || (smp ps e && ldArgs ps f r)) = true := h
      rw [hl, Bool.false_or] at h'
      exact starEach_ns (smp_ns (Bool.and_eq_true_iff.mp h').1)
theorem cw_raise {M : Model} {A : Around} {E : Value → Shared → Prop} {Q : Value → Shared → Prop} {s : Shared} {pos : Pos} {f : Value} {e : Expr} {r : List Expr} {env : Env} (hs : starEach (e :: r) env = (false, eval e env) :: starEach r env)
    (h : wpAny M A (spliced (backTo pos (starEach (e :: r) env))) (fun _ _ => False) E s) : wpAny M A (callWith pos f [] (backTo pos (starEach (e :: r) env)) []) Q E s := by
  rw [hs] at h ⊢
  unfold callWith
  refine wpAny_bind (wpAny_holding (wpAny_mono (Q := fun _ _ => False) ?_ (fun _ _ z => z.elim) fun _ _ z => z))
  exact Calls.evalArgs_plain (wpAny_mono h (fun _ _ z => z.elim) fun _ _ z => z)
/-- what the walk of the looks leans on -/
structure Kit (X : Cx) (E : XK) (CP CB : Addr) (k : Nat) (T : Str → Option (List Str)) (G : Str → Bool) : Prop where
  room : Room k X.A
  psx : Passes (L2.CX X.prog X.w) X E
  T : ∀ x qs, T x = some qs → GQ X.prog X.w X.K X.mg X.base CP CB k x qs
  G : ∀ x, G x = true → Rd1 X x
theorem ld_run {k : Nat} {T : Str → Option (List Str)} {G : Str → Bool} (S : Scp X ps) (B : Kit X E CP CB k T G) : ∀ (n : Nat) (e : Expr), ld ps X.env.scope T G n e = true → Rz X E CP CB ps e
  | 0, _, h => by cases h
  | n + 1, e, h => by
    intro pins s σ H v I Z
    have hf : ∀ e, ld ps X.env.scope T G n e = true → notStar e = true ∧ Rz X E CP CB ps e := fun e he => ⟨ld_ns he, ld_run S B n e he⟩
    cases e with
    | Call f args kws pos =>
      cases f with
      | Name x p =>
        cases kws with
        | cons kw kws =>
          cases args with
          | cons => cases h
          | nil =>
            obtain ⟨h1, h2⟩ := Bool.and_eq_true_iff.mp (show (glB X.env.scope x && (decide (T x = some (kwN (kw :: kws))) && ((kw :: kws).all (fun k => k.arg.isSome && smp ps k.value) && fstK ps (kw :: kws)))) = true from h)
            obtain ⟨g1, g2⟩ := Bool.and_eq_true_iff.mp (show (decide (X.env.scope.names.lookup x = some .globalImplicit) && okN x) = true from h1)
            have hg : Gl X x := (of_decide_eq_true g1 : X.env.scope.names.lookup x = some .globalImplicit)
            obtain ⟨g3, _⟩ := Bool.and_eq_true_iff.mp (show (!(x == ("__debug__" : Str)) && !(x == ("__classdict__" : Str))) = true from g2)
            have hdb : (x == ("__debug__" : Str)) = false := by simpa using g3
            obtain ⟨h3, h4⟩ := Bool.and_eq_true_iff.mp h2
            obtain ⟨h5, h6⟩ := Bool.and_eq_true_iff.mp h4
            obtain ⟨f, fd, q1, q2, F, pb⟩ := B.T x _ (of_decide_eq_true h3)
            obtain ⟨k1, k2, k3⟩ := kw_looks (env := X.env) (pos := pos) h5
            refine wpAny_Call_Name_kw (ld_glob I hg q1 ?_ hdb)
            refine PySem.W.callWith_KW0 (h₀ := X.base) I.ok.mod.kin q2 k1 (kws_run S Z I h5 fun ws vs s' I' r' l' z => ⟨I'.kIn, ?_⟩) k3
            rw [k2]
            obtain ⟨rest, ev⟩ := z h6
            have lw : ws.length = (kwN (kw :: kws)).length := by
              rw [← r'.length, l']
              exact (kw_len h5).symm
            refine wpAny_call (codeAny_mono (F.run X.A X.stack s' H ⟨[], (kwN (kw :: kws)).zip ws⟩ ws vs (fun _ _ => False) E B.room I'.env0 (pb.kw lw s') r' ⟨r'.length.trans lw, v, rest, ev, Z.np, Z.out⟩) fun r s2 hq => ?_)
            cases r with
            | error e => exact B.psx pins σ H s' e s2 I' hq
            | ok fl =>
              cases fl with
              | ret u =>
                obtain ⟨_, _, _, _, _, _, _, z⟩ := hq
                exact z.elim
              | next => exact False.elim hq
              | brk => exact False.elim hq
              | cont => exact False.elim hq
        | nil =>
          obtain ⟨h1, h2⟩ := Bool.and_eq_true_iff.mp (show (glB X.env.scope x && ((G x && ldArgs ps (ld ps X.env.scope T G n) args) || (decide ((T x).map List.length = some args.length) && (args.all (smp ps) && fstP ps args)))) = true from h)
          obtain ⟨g1, g2⟩ := Bool.and_eq_true_iff.mp (show (decide (X.env.scope.names.lookup x = some .globalImplicit) && okN x) = true from h1)
          have hg : Gl X x := (of_decide_eq_true g1 : X.env.scope.names.lookup x = some .globalImplicit)
          obtain ⟨g3, _⟩ := Bool.and_eq_true_iff.mp (show (!(x == ("__debug__" : Str)) && !(x == ("__classdict__" : Str))) = true from g2)
          have hdb : (x == ("__debug__" : Str)) = false := by simpa using g3
          rcases Bool.or_eq_true_iff.mp h2 with h3 | h3
          · obtain ⟨h4, h5⟩ := Bool.and_eq_true_iff.mp h3
            obtain ⟨u, hu⟩ := B.G x h4
            obtain ⟨e0, r, rfl, hs⟩ := ldArgs_cons (X := X) (E := E) (CP := CP) (CB := CB) hf h5
            refine wpAny_Call_Name_kw ?_
            have body := cw_raise (M := model X.prog X.w) (A := X.A) (E := X.xe) (Q := fun _ _ => False) (f := u) hs (ldArgs_run (pos := pos) S hf I Z h5)
            rcases hu with hu | ⟨hu1, hu2, hu3⟩
            · exact ld_glob I hg hu body hdb
            · exact ld_blt I hg hu1 hu2 body hu3 hdb
          · obtain ⟨h4, h5⟩ := Bool.and_eq_true_iff.mp h3
            obtain ⟨h6, h7⟩ := Bool.and_eq_true_iff.mp h5
            obtain ⟨qs, q0, q3⟩ := Option.map_eq_some_iff.mp (of_decide_eq_true h4)
            obtain ⟨f, fd, q1, q2, F, pb⟩ := B.T x _ q0
            cases args with
            | nil => cases h7
            | cons e0 r =>
              have hs : starEach (e0 :: r) X.env = (false, eval e0 X.env) :: starEach r X.env := starEach_ns (smp_ns (Bool.and_eq_true_iff.mp (show (smp ps e0 && r.all (smp ps)) = true from h6)).1)
              have hpl : ∀ r : List Expr, r.all (smp ps) = true → (backTo pos (starEach r X.env)).any (·.1) = false := by
                intro r
                induction r with
                | nil => intro _; rfl
                | cons a r ih =>
                  intro hh
                  obtain ⟨a1, a2⟩ := Bool.and_eq_true_iff.mp (show (smp ps a && r.all (smp ps)) = true from hh)
                  rw [starEach_ns (smp_ns a1)]
                  show (false || (backTo pos (starEach r X.env)).any (·.1)) = false
                  rw [ih a2]
                  rfl
              refine wpAny_Call_Name_kw (ld_glob I hg q1 ?_ hdb)
              refine PySem.W.callWith_K (h₀ := X.base) I.ok.mod.kin q2 (smps_run S Z I h6 fun us vs s' I' r' l' z => ⟨I'.kIn, ?_⟩) hs (hpl r (Bool.and_eq_true_iff.mp (show (smp ps e0 && r.all (smp ps)) = true from h6)).2)
              obtain ⟨rest, ev⟩ := z h7
              refine thn (run_fn (Q := fun _ _ => False) F B.room (pb.binds _) .nil B.psx I' r' ⟨by rw [List.append_nil, l', q3], v, rest, by rw [List.append_nil, ev], Z.np, Z.out⟩) fun _ _ ⟨_, _, _, _, z⟩ => z
      | Attribute o m ap =>
        cases args with
        | cons => cases h
        | nil =>
          cases kws with
          | cons => cases h
          | nil =>
            cases o with
            | Call g as ks p =>
              cases g with
              | Name y py =>
                cases as with
                | nil => cases h
                | cons a as =>
                  have h' : ld ps X.env.scope T G n (.Call (.Name y py) (a :: as) ks p) = true := h
                  show wpAny _ _ (attributeBase (.Call (.Name y py) (a :: as) ks p) m X.env (eval (.Call (.Name y py) (a :: as) ks p) X.env) >>= _) _ _ _
                  refine wpAny_bind ?_
                  have e0 : attributeBase (.Call (.Name y py) (a :: as) ks p) m X.env (eval (.Call (.Name y py) (a :: as) ks p) X.env) = eval (.Call (.Name y py) (a :: as) ks p) X.env := by rfl
                  rw [e0]
                  exact wpAny_mono (ld_run S B n _ h' pins s σ H v I Z) (fun _ _ z => z.elim) fun _ _ z => z
              | _ => cases h
            | _ => cases h
      | _ => cases h
    | BinOp l op r pos => exact wpAny_BinOp (wpAny_mono (ld_run S B n l h pins s σ H v I Z) (fun _ _ z => z.elim) fun _ _ z => z)
    | Subscript a sl pos =>
      show wpAny _ _ (eval a X.env >>= _) _ _ _
      exact wpAny_bind (wpAny_mono (ld_run S B n a h pins s σ H v I Z) (fun _ _ z => z.elim) fun _ _ z => z)
    | Tuple es j pos => exact wpAny_Tuple_spliced (wpAny_mono (ldArgs_run (pos := pos) S hf I Z h) (fun _ _ z => z.elim) fun _ _ z => z)
    | ListComp el gens sc pos =>
      cases gens with
      | nil => cases h
      | cons g gs =>
        obtain ⟨tg, it, ifs, as⟩ := g
        show wpAny _ _ (comprehension (.ListComp el (⟨tg, it, ifs, as⟩ :: gs) sc pos) sc X.env _ _ _ (eval it X.env)) _ _ _
        unfold comprehension
        exact wpAny_bind (wpAny_mono (ld_run S B n it h pins s σ H v I Z) (fun _ _ z => z.elim) fun _ _ z => z)
    | _ => cases h
end
end RWk
end
section
/-! M9: such defs, whole. -/
namespace RWk
open PySem PySem.Spec PyProof.Rows L2
def noComp : Expr → Bool
  | .ListComp .. | .SetComp .. | .DictComp .. => false
  | _ => true
/-- a statement that leads -/
def ldS (f : Expr → Bool) : Stmt → Bool
  | .Expr e _ => f e && noComp e
  | .Assign [_] e _ => f e && noComp e
  | .Return (some e) _ => f e
  | .For _ it _ _ _ => f it
  | _ => false
/-- x = 1 -/
def setsOne : Stmt → Option Str
  | .Assign [.Name x _] (.Constant (.int _) _ _) _ => some x
  | _ => none
theorem setsOne_ok {st : Stmt} {x : Str} (h : setsOne st = some x) : ∃ p1 i j p2 p3, st = .Assign [.Name x p1] (.Constant (.int i) j p2) p3 := by
  unfold setsOne at h
  split at h
  · cases h
    exact ⟨_, _, _, _, _, rfl⟩
  · cases h
def ldB2 (f : Expr → Bool) (sc : Scope) (ps : List Str) : Option Str → List Stmt → Bool
  | some x, st2 :: _ => decide (sc.names.lookup x = some .local) && (!ps.contains x && ldS f st2)
  | _, _ => false
def ldB (f : Expr → Bool) (sc : Scope) (ps : List Str) : List Stmt → Bool
  | [] => false
  | st :: rest => ldS f st || ldB2 f sc ps (setsOne st) rest
def ldN2 (ps : List Str) : Option Str → List Str
  | some x => ps ++ [x]
  | none => ps
/-- the names that a walk of such a body keeps -/
def ldN (ps : List Str) : List Stmt → List Str
  | st :: _ => ldN2 ps (setsOne st)
  | [] => ps
section
variable {X : Cx} {E : XK} {CP CB : Addr} {ps : List Str}
def RzB (X : Cx) (E : XK) (CP CB : Addr) (ps : List Str) (b : List Stmt) : Prop := ∀ (pins : List (Addr × Obj)) (s : Shared) (σ : L2.St) (H : Hp) (v : V), Inv X pins σ H s → Sit X E CP CB ps σ H v → wpAny (model X.prog X.w) X.A (execs b X.env) (fun _ _ => False) X.xe s
theorem ldS_run {f : Expr → Bool} (hf : ∀ e, f e = true → Rz X E CP CB ps e) {st : Stmt} (h : ldS f st = true) {pins : List (Addr × Obj)} {s : Shared} {σ : L2.St} {H : Hp} {v : V} (I : Inv X pins σ H s) (Z : Sit X E CP CB ps σ H v) :
    wpAny (model X.prog X.w) X.A (exec st X.env) (fun _ _ => False) X.xe s := by
  have go : ∀ {e : Expr}, f e = true → ∀ {Q : Value → Shared → Prop}, wpAny (model X.prog X.w) X.A (eval e X.env) Q X.xe s := @fun e he Q => wpAny_mono (hf _ he pins s σ H v I Z) (fun _ _ z => z.elim) fun _ _ z => z
  cases st with
  | Expr e p =>
    obtain ⟨h1, h2⟩ := Bool.and_eq_true_iff.mp (show (f e && noComp e) = true from h)
    have hs : swapsWith e none p.line X.env = pure false := by cases e <;> first | rfl | cases h2
    exact wpAny_Expr_any (go h1) I.quiet hs
  | Assign ts e p =>
    cases ts with
    | nil => cases h
    | cons t ts => cases ts with
      | cons => cases h
      | nil =>
        obtain ⟨h1, h2⟩ := Bool.and_eq_true_iff.mp (show (f e && noComp e) = true from h)
        have hs : swapsWithSole [t] e p.line X.env = pure false := by cases e <;> first | rfl | cases h2
        rw [exec_Assign_arm, hs]
        refine wpAny_bind (wpAny_standAt ?_)
        show wpAny _ _ (eval e X.env >>= _) _ _ _
        exact wpAny_bind (go h1)
  | Return e p =>
    cases e with
    | none => cases h
    | some e => exact wpAny_Return_some (go h)
  | For t it b o p =>
    rw [exec_For]
    exact wpAny_bind (wpAny_standAt (wpAny_bind (go h)))
  | _ => cases h
theorem ldB_run {f : Expr → Bool} (hf : ∀ e, f e = true → Rz X E CP CB ps e) {b : List Stmt} (h : ldB f X.env.scope ps b = true) (nd : X.N.Nodup) (en : X.N = ldN ps b) : RzB X E CP CB ps b := by
  intro pins s σ H v I Z
  cases b with
  | nil => cases h
  | cons st rest =>
    cases h1 : ldS f st with
    | true => exact wpAny_execs_cons (wpAny_mono (ldS_run hf h1 I Z) (fun _ _ z => z.elim) fun _ _ z => z)
    | false =>
      have h' : (ldS f st || ldB2 f X.env.scope ps (setsOne st) rest) = true := h
      rw [h1, Bool.false_or] at h'
      cases h2 : setsOne st with
      | none =>
        rw [h2] at h'
        cases h'
      | some x =>
        cases rest with
        | nil =>
          rw [h2] at h'
          cases h'
        | cons st2 rest =>
          rw [h2] at h'
          have en2 : X.N = ldN2 ps (setsOne st) := en
          rw [h2] at en2
          obtain ⟨q1, q2⟩ := Bool.and_eq_true_iff.mp h'
          obtain ⟨q2, q3⟩ := Bool.and_eq_true_iff.mp q2
          obtain ⟨p1, i, j, p2, p3, rfl⟩ := setsOne_ok h2
          have hN : X.N[ps.length]? = some x := by
            rw [en2]
            show (ps ++ [x])[ps.length]? = some x
            simp
          have hl : X.env.scope.names.lookup x = some .local := of_decide_eq_true q1
          refine wpAny_execs_cons (wpAny_Assign_Name (wpAny_Constant_int (store_ok (v := .int i) (I.tok _) nd hN (.inl hl) ⟨_, rfl⟩ (fun s' I' => ?_) (.inr hl))) (by rfl))
          refine wpAny_execs_cons (wpAny_mono (ldS_run hf q3 I' ⟨fun i hi => ?_, Z.pos, ?_, Z.np, Z.out⟩) (fun _ _ z => z.elim) fun _ _ z => z)
          · obtain ⟨u, hu⟩ := Z.par i hi
            exact ⟨u, by rw [List.getElem?_set_ne (by omega)]; exact hu⟩
          · rw [List.getElem?_set_ne (Nat.ne_of_gt Z.pos)]
            exact Z.fst
end
/-- a scope of a def -/
def scB (N ps : List Str) (sc : Scope) : Bool :=
  decide (sc.kind = .function) && (!sc.isCoroutine && (!sc.isGenerator && (decide N.Nodup && (decide (N.take ps.length = ps) && (ps.all (fun x => decide (sc.names.lookup x = some .local) || decide (sc.names.lookup x = some .cell)) && sc.names.all fun y => !decide (y.2 = .free))))))
theorem scB_ok {N ps : List Str} {sc : Scope} (h : scB N ps sc = true) : FnScope N ps sc := by
  unfold scB at h
  simp only [Bool.and_eq_true, Bool.or_eq_true, Bool.not_eq_true', decide_eq_true_eq, decide_eq_false_iff_not, List.all_eq_true] at h
  obtain ⟨h1, h2, h3, h4, h5, h6, h7⟩ := h
  exact ⟨h1, h2, h3, h4, h5, h6, h7⟩
theorem scp_of {X : Cx} {ps : List Str} (S : FnScope X.N ps X.env.scope) : Scp X ps := ⟨fun i x hi => by
  have hl : i < ps.length := (List.getElem?_eq_some_iff.mp hi).1
  refine ⟨?_, ?_⟩
  · rw [← S.pre, List.getElem?_take_of_lt hl] at hi
    exact hi
  · rcases S.par x (List.mem_of_getElem? hi) with z | z
    · exact .inl z
    · exact .inr (.inl z)⟩
section
variable {P : Program} {w : World} {K : PySem.W.Frag} {mg : Str → Option Value} {base : Heap} {CP CB : Addr} {k : Nat} {T : Str → Option (List Str)} {G : Str → Bool} {f : Addr} {x qual : Str} {params : Arguments} {body : List Stmt} {scope : Scope} {dV kV doc pm cdv ct oc : Value} {an od : Option Addr} {osl : Array (Option Value)} {ps : List Str}
theorem start_at {N : List Str} {vs : List V} {i : Nat} (h : i < vs.length) : (L2.start N vs)[i]? = some (some vs[i]) := by
  unfold L2.start
  rw [List.getElem?_append_left (by simpa using h), List.getElem?_map, List.getElem?_eq_getElem h]
  rfl
theorem fnB (lk : K.lookup f = some ⟨oc, od, .func (PySem.W.fnOf x qual params body scope dV kV doc pm an cdv ct), osl⟩) (hcd : PySem.W.codeIn K cdv qual = true) (hs : scB (ldN ps body) ps scope = true) (hb : ldB (ld ps scope T G 8) scope ps body = true)
    (hT : ∀ y qs, T y = some qs → GQ P w K mg base CP CB k y qs)
    (hG : ∀ y, G y = true → ∃ u, mg y = some u ∨ (mg y = none ∧ bootBuiltins y = some u ∧ y ≠ "__name__")) :
    FnOk P w K mg base (L2.CX P w) (k + 1) f (PySem.W.fnOf x qual params body scope dV kV doc pm an cdv ct) ps (spB K CP CB ps.length) := by
  have S := scB_ok hs
  refine fn_of lk hcd S (fun vs H Q E h => h.1) fun A outer s H vs Q E hr ⟨hl, v, rest, ev, hnp, hout⟩ => ?_
  generalize hX : cxOf (L2.CX P w) P w K mg base (ldN ps body) qual scope f cdv A outer s H E = X
  have eN : X.N = ldN ps body := by rw [← hX]; rfl
  have eS : X.env.scope = scope := by rw [← hX]; rfl
  have B : Kit X E CP CB k T G := by
    rw [← hX]
    exact ⟨hr, passes_call (takes_of rfl rfl rfl rfl) (fun _ _ _ _ h => h), hT, hG⟩
  have S' : Scp X ps := scp_of (by rw [eN, eS]; exact S)
  have run : RzB X E CP CB ps body := ldB_run (f := ld ps scope T G 8) (fun e he => ld_run S' B 8 e (by rw [eS]; exact he)) (by rw [eS]; exact hb) (by rw [eN]; exact S.nd) eN
  refine ⟨fun _ σ H => ∃ v, Sit X E CP CB ps σ H v, ⟨fun pins s' σ' H' D I ⟨v, Z⟩ => wpAny_mono (run pins s' σ' H' v I Z) (fun _ _ z => z.elim) fun _ _ z => z⟩, v, fun i hi => ?_, ?_, ?_, ?_, hout⟩
  · exact ⟨_, start_at (by omega)⟩
  · rw [← hl, ev]
    exact Nat.zero_lt_succ _
  · rw [ev]
    exact start_at (vs := v :: rest) (Nat.zero_lt_succ _)
  · rw [← hX]
    exact hnp
end
end RWk
end
section
/-! M10: check_path: the refusal itself. -/
namespace RWk
open PySem PySem.Spec PyProof.Rows L2
/-- if not isinstance(t, c): raise b(t) -/
def chk : List Stmt → Option (Str × Str × Str)
  | [.If (.UnaryOp .Not (.Call (.Name i _) [.Name t _, .Name c _] [] _) _) [.Raise (some (.Call (.Name b _) [.Name t2 _] [] _)) none _] [] _] => if i == ("isinstance" : Str) && t2 == t then some (t, c, b) else none
  | _ => none
theorem chk_ok {body : List Stmt} {t c b : Str} (h : chk body = some (t, c, b)) : ∃ p1 p2 p3 p4 p5 p6 p7 p8 p9 p10, body = [.If (.UnaryOp .Not (.Call (.Name "isinstance" p1) [.Name t p2, .Name c p3] [] p4) p5) [.Raise (some (.Call (.Name b p6) [.Name t p7] [] p8)) none p9] [] p10] := by
  unfold chk at h
  split at h
  · split at h
    · rename_i e
      cases h
      obtain ⟨e1, e2⟩ := Bool.and_eq_true_iff.mp e
      have e1 := beq_iff_eq.mp e1
      have e2 := beq_iff_eq.mp e2
      subst e1 e2
      exact ⟨_, _, _, _, _, _, _, _, _, _, rfl⟩
    · cases h
  · cases h
section
variable {P : Program} {w : World} {K : PySem.W.Frag} {mg : Str → Option Value} {base : Heap} {CP CB fI : Addr} {k : Nat} {f : Addr} {x qual t c b : Str} {params : Arguments} {body : List Stmt} {scope : Scope} {dV kV doc pm cdv ct oc : Value} {an od : Option Addr} {osl : Array (Option Value)}
theorem fnChk (lk : K.lookup f = some ⟨oc, od, .func (PySem.W.fnOf x qual params body scope dV kV doc pm an cdv ct), osl⟩) (hcd : PySem.W.codeIn K cdv qual = true) (hs : scB [t] [t] scope = true) (hb : chk body = some (t, c, b)) (ht : okN t = true)
    (hl : ∀ y ∈ [("isinstance" : Str), c, b], glB scope y = true) (mi : mg "isinstance" = none) (mc : mg c = some (.ref CP)) (mb : mg b = some (.ref CB)) (sup : mg "super" = none) (top : (P.main.scope.names.lookup ("super" : Str)).isSome = false) (T : ErrC P.main.file K CB fI ["thing"])
    (rs : PySem.W.subIn K (.ref CB) (.type "BaseException") = some true ∧ PySem.W.typeIn K (.ref CB) = some (.type "type")) :
    FnOk P w K mg base (L2.CX P w) (k + 2) f (PySem.W.fnOf x qual params body scope dV kV doc pm an cdv ct) [t] (spB K CP CB 1) := by
  have S := scB_ok hs
  obtain ⟨p1, p2, p3, p4, p5, p6, p7, p8, p9, p10, rfl⟩ := chk_ok hb
  refine fn_of lk hcd S (fun vs H Q E h => h.1) fun A outer s H vs Q E hr ⟨hlen, v, rest, ev, ⟨ty, hty, hk⟩, hout⟩ => ?_
  have e0 : rest = [] := by
    rw [ev] at hlen
    simpa using hlen
  subst e0
  subst ev
  generalize hX : cxOf (L2.CX P w) P w K mg base [t] qual scope f cdv A outer s H E = X
  have gl : ∀ y ∈ [("isinstance" : Str), c, b], Gl X y ∧ (y == ("__debug__" : Str)) = false := fun y hy => by
    obtain ⟨g1, g2⟩ := Bool.and_eq_true_iff.mp (show (decide (scope.names.lookup y = some .globalImplicit) && okN y) = true from hl y hy)
    obtain ⟨g3, _⟩ := Bool.and_eq_true_iff.mp (show (!(y == ("__debug__" : Str)) && !(y == ("__classdict__" : Str))) = true from g2)
    refine ⟨?_, by simpa using g3⟩
    rw [← hX]
    exact (of_decide_eq_true g1 : scope.names.lookup y = some .globalImplicit)
  obtain ⟨t1, t2⟩ := Bool.and_eq_true_iff.mp (show (!(t == ("__debug__" : Str)) && !(t == ("__classdict__" : Str))) = true from ht)
  have hN : X.N[0]? = some t := by rw [← hX]; rfl
  have hV : Vis X.env.scope t := by
    rw [← hX]
    rcases S.par t List.mem_cons_self with z | z
    · exact .inl z
    · exact .inr (.inl z)
  have pv : ∀ p, PE X (.Name t p) (tVar 0) := fun p => pe_var hN hV (by simpa using t1) (by simpa using t2)
  have pc : PE X (.Name c p3) (tC (.ref CP)) := pe_glob (gl c (by simp)).1 (by rw [← hX]; exact mc) rfl (gl c (by simp)).2
  have isi : PE X (.Call (.Name "isinstance" p1) [.Name t p2, .Name c p3] [] p4) (tCB (rIsi X.K) (tCons (tVar 0) (tCons (tC (.ref CP)) tNil))) :=
    pe_callB call_isi (gl _ (by simp)).1 (by rw [← hX]; exact mi) PyProof.Rows.boot_isinstance (pa_cons (pv p2) (pa_cons pc pa_nil))
  have calm : X.calm = true := by rw [← hX]; rfl
  have tk : Takes X (fun cls d _ H => E cls d H) := by
    rw [← hX]
    exact takes_of rfl rfl rfl rfl
  have W : Wd X := by
    rw [← hX]
    exact ⟨sup, top⟩
  have dp : X.A.depth + 1 < recursionLimit := by
    rw [← hX]
    have := hr.dp
    show (A.deeper (envOfC qual scope s.heap.objs.size f cdv)).depth + 1 < recursionLimit
    omega
  have hmk := pmk_err (X := X) (C := CB) (fs := ["thing"]) (x := b) (p := p6) (pos := p8) W (by rw [← hX]; exact T) (raises_own (by rw [← hX]; exact rs.1) (by rw [← hX]; exact rs.2)) dp (gl b (by simp)).1 (by rw [← hX]; exact mb) (pa_cons (pv p7) pa_nil) (gl b (by simp)).2
  refine ⟨_, pss_one (ps_if (pt_not (pt_val isi (fun _ => by rfl))) (pss_one (ps_raise calm tk hmk)) pss_nil), ?_⟩
  subst hX
  refine ⟨v, rfl, v, .ref CP, ty, .ref CP, false, rfl, .own CP, hty, hk, false, rfl, ?_⟩
  show if (!false) = true then _ else _
  rw [if_pos (show (!false) = true from rfl)]
  exact ⟨v, rfl, rfl, List.cons_ne_nil _ _, fun dx hdx => hout dx hdx⟩
end
end RWk
end
section
/-! M11: what is no path, as it is refused: try: ask() .. except BadPath as e: return ["path", e.thing]. -/
namespace RWk
open PySem PySem.Spec PyProof.Rows L2 LamX
def metB : List Stmt → Bool
  | [.Try [.Expr (.Call (.Name a _) [] [] _) _, .Return (some (.List [.Constant (.str _) _ _] _)) _] [.ExceptHandler (some (.Name c _)) (some e) [.Return (some (.List [.Constant (.str y) _ _, .Attribute (.Name e2 _) th _] _)) _] _] [] [] _] =>
    a == ("_law_ask" : Str) && (c == ("BadPath" : Str) && (e == ("_law_e" : Str) && (y == ("path" : Str) && (e2 == ("_law_e" : Str) && th == ("thing" : Str)))))
  | _ => false
theorem metB_ok {b : List Stmt} (h : metB b = true) : ∃ p1 p2 p3 x j p4 p5 p6 p7 k p8 p9 p10 p11 p12 p13 p14, b = [.Try [.Expr (.Call (.Name "_law_ask" p1) [] [] p2) p3, .Return (some (.List [.Constant (.str x) j p4] p5)) p6]
    [.ExceptHandler (some (.Name "BadPath" p7)) (some "_law_e") [.Return (some (.List [.Constant (.str "path") k p8, .Attribute (.Name "_law_e" p9) "thing" p10] p11)) p12] p13] [] [] p14] := by
  unfold metB at h
  split at h
  · simp only [Bool.and_eq_true, beq_iff_eq] at h
    obtain ⟨rfl, rfl, rfl, rfl, rfl, rfl⟩ := h
    exact ⟨_, _, _, _, _, _, _, _, _, _, _, _, _, _, _, _, _, rfl⟩
  · cases h
/-- the lambda raises BadPath that keeps v: ["path", v] -/
def TMet (CB : Addr) : (XK → Hp → VK → Prop) → Hp → VK → Prop := fun tl H Q =>
  tl (fun cls d H' => cls = .ref CB ∧ ∃ (dd : Addr) (fs : List (Str × V)) (v : V), d = some dd ∧ H' dd = some (.xd fs) ∧ fs.lookup ("thing" : Str) = some v ∧ ∀ l, H' l = none → Q (.ref l) (upd H' l (.lst [.str "path", v]))) H (fun _ _ => False)
theorem takes_len {X : Cx} {W : WX} (tk : Takes X W) : Takes X (fun cls d σ H => σ.length = X.N.length → W cls d σ H) := fun u s' ⟨a, B, sI, pins, σ, H, cls, d, e, I, nb, up, sky, na, os, ag, w⟩ =>
  tk u s' ⟨a, B, sI, pins, σ, H, cls, d, e, I, nb, up, sky, na, os, ag, w I.len⟩
section
variable {X : Cx} {CB : Addr}
theorem met_gives {x q : Str} {sg : Scope} {g : Addr} {cdg : Value} {bg : List Stmt} (hb : metB bg = true) (hge : sg.names.lookup ("BadPath" : Str) = some .globalImplicit) (hle : sg.names.lookup ("_law_e" : Str) = some .local) (hme : X.mg "BadPath" = some (.ref CB))
    (T : XfC X.K CB) (hno : PySem.W.findIn X.K (.ref CB) "thing" = some none) (hex : PySem.W.exmOne X.K (.ref CB) (.ref CB) = some true) :
    GivesTo X ["_law_ask", "_law_e"] x sg g cdg bg "_law_ask" q (TMet CB) := by
  obtain ⟨p1, p2, p3, x0, j, p4, p5, p6, p7, k, p8, p9, p10, p11, p12, p13, p14, rfl⟩ := metB_ok hb
  intro f c' s H Q tl act hc h
  have hgl : Gl (cxOf C8.CX0 X.prog X.w X.K X.mg X.base ["_law_ask", "_law_e"] x sg g cdg X.A X.stack s H C8.E0).nox "BadPath" := hge
  refine ⟨_, pss_one (ps_try_as (X := (cxOf C8.CX0 X.prog X.w X.K X.mg X.base ["_law_ask", "_law_e"] x sg g cdg X.A X.stack s H C8.E0).nox) (c := .ref CB) (i := 1) (n := "_law_e")
      (tb := fun W D σ H => ∃ Ech : XK, (∀ cls d (σ' : L2.St) H', Ech cls d H' → σ'.length = 2 → W cls d σ' H') ∧ σ[0]? = some (some (.ref f)) ∧ H c' = some (CodeO c' q) ∧ tl Ech H (fun _ _ => False))
      (ts := fun a cls d D σ H => tXf a cls d CB "thing" (tVar 1) σ H fun v H1 => ∀ l, H1 l = none → D.rt (.ref l) (upd H1 l (.lst [.str "path", v])))
      rfl rfl (show (["_law_ask", "_law_e"] : List Str).Nodup by decide) rfl hle ⟨hgl, by decide, .inl hme⟩ takes0 (fun W pn xe tk _ => ?_) (fun a oe cls d pn hz hf => ?_)), ?_⟩
  · refine ⟨fun pins s' σ H' D I h' => ?_⟩
    obtain ⟨Ech, hW, h1, h2, h3⟩ := h'
    have hp := act _ pn xe Ech p1 p2 (takes_len tk) hW
    refine wpAny_execs_cons (wpAny_mono ((ps_expr (pos := p3) hp).run pins s' σ H' { nx := fun _ _ => False, rt := fun _ _ => False } I ⟨h1, h2, h3⟩) (fun fl s2 z => ?_) fun _ _ z => z)
    cases fl with
    | next => obtain ⟨_, _, _, z⟩ := z; exact z.elim
    | brk => obtain ⟨_, _, _, z⟩ := z; exact z.elim
    | cont => obtain ⟨_, _, _, z⟩ := z; exact z.elim
    | ret u => obtain ⟨_, _, _, _, _, z⟩ := z; exact z.elim
  · have pv : PE ((cxOf C8.CX0 X.prog X.w X.K X.mg X.base ["_law_ask", "_law_e"] x sg g cdg X.A X.stack s H C8.E0).nox.suite a ((a, oe) :: pn)) (.Name "_law_e" p9) (tVar 1) := pe_var (show (["_law_ask", "_law_e"] : List Str)[1]? = some ("_law_e" : Str) from rfl) (.inl hle)
    have px := pe_xf (X := (cxOf C8.CX0 X.prog X.w X.K X.mg X.base ["_law_ask", "_law_e"] x sg g cdg X.A X.stack s H C8.E0).nox) (C := CB) (n := "thing") (pos := p10) T hno hz hf pv
    have pl := pss_one (ps_ret (pos := p12) (pe_lst (pos := p11) (pa_cons (pe_str (x := "path") (j := k) (pos := p8)) (pa_cons px pa_nil))))
    refine ⟨fun pins s2 σ2 H2 D I h2 => pl.run pins s2 σ2 H2 D I ?_⟩
    show tXf a cls d CB "thing" (tVar 1) σ2 H2 fun v H1 => _
    obtain ⟨v, e1, e2, e3, dd, fs, y, e4, e5, e6, e7⟩ := h2
    exact ⟨v, e1, e2, e3, dd, fs, y, e4, e5, e6, (by show 2 ≤ sizeLine; rw [sizeLine_eq]; decide), e7⟩
  · refine ⟨_, fun cls d σ' H' ⟨e1, dd, fs, v, e2, e3, e4, e5⟩ hlen => ?_, rfl, hc, h⟩
    subst e1 e2
    refine ⟨true, hex, fun _ a ha => ?_, fun z => by cases z⟩
    refine ⟨.ref a, ?_, rfl, rfl, dd, fs, v, rfl, e3, e4, e5⟩
    rw [List.getElem?_set_self (by rw [hlen]; decide)]
end
end RWk
end
section
/-! M12: the defs that ask with what is no path. -/
namespace RWk
open PySem PySem.Spec PyProof.Rows L2 LamX
/-- what is known of the def that is handed the lambda -/
def MetF (K : PySem.W.Frag) (mg : Str → Option Value) : Prop := ∃ (g : Addr) (oc : Value) (od : Option Addr) (osl : Array (Option Value)) (pg : Arguments) (bg : List Stmt) (sg : Scope) (dV kV doc pm cdv ct : Value) (an : Option Addr),
  mg "_law_path_met" = some (.ref g) ∧ PySem.W.keepIn K (.ref g) = true ∧ K.lookup g = some ⟨oc, od, .func (PySem.W.fnOf "_law_path_met" "_law_path_met" pg bg sg dV kV doc pm an cdv ct), osl⟩ ∧ PySem.W.codeIn K cdv "_law_path_met" = true ∧
  PB (PySem.W.fnOf "_law_path_met" "_law_path_met" pg bg sg dV kV doc pm an cdv ct) ["_law_ask"] ∧ scB ["_law_ask", "_law_e"] ["_law_ask"] sg = true ∧ metB bg = true ∧ sg.names.lookup ("BadPath" : Str) = some .globalImplicit ∧ sg.names.lookup ("_law_e" : Str) = some .local
/-- what is known of BadPath, caught -/
structure CatF (K : PySem.W.Frag) (mg : Str → Option Value) (CB : Addr) : Prop where
  at_ : mg "BadPath" = some (.ref CB)
  xf : XfC K CB
  no : PySem.W.findIn K (.ref CB) "thing" = some none
  ex : PySem.W.exmOne K (.ref CB) (.ref CB) = some true
def noArgs (p : Arguments) : Bool := p.posonlyargs.isEmpty && (p.args.isEmpty && (p.vararg.isNone && (p.kwonlyargs.isEmpty && (p.kw_defaults.isEmpty && (p.kwarg.isNone && p.defaults.isEmpty)))))
theorem noArgs_ok {p : Arguments} (h : noArgs p = true) : p = ⟨[], [], none, [], [], none, []⟩ := by
  obtain ⟨a, b, c, d, e, f, g⟩ := p
  unfold noArgs at h
  simp only [Bool.and_eq_true, List.isEmpty_iff, Option.isNone_iff_eq_none] at h
  obtain ⟨rfl, rfl, rfl, rfl, rfl, rfl, rfl⟩ := h
  rfl
/-- the reading of the lambda's body: it refuses -/
def tRef (K : PySem.W.Frag) (CP CB : Addr) (E : XK) : TE := fun σ H _ => ∃ v, σ[0]? = some (some v) ∧ NP K CP H v ∧ ∀ d, H d = none → E (.ref CB) (some d) (upd H d (.xd [("thing", v)]))
/-- _law_path_met(lambda: ..) -/
def askI (sc : Scope) (T : Str → Option (List Str)) : Expr → Bool
  | .Call (.Name x _) [.Lambda params body scope _] [] _ => x == ("_law_path_met" : Str) && (noArgs params && (lamSB sc scope && (ld ["_law_odd"] scope T (fun _ => false) 1 body && decide (scope.names.lookup ("_law_odd" : Str) = some .free))))
  | _ => false
section
variable {X : Cx} {CP CB c Pl : Addr} {k : Nat} {T : Str → Option (List Str)} {Tb : List (Addr × Str)}
theorem pe_met (M : MetF X.K X.mg) (C : CatF X.K X.mg CB) (hT : ∀ x qs, T x = some qs → GQ X.prog X.w X.K X.mg X.base CP CB k x qs) (TB : TabB X.base X.mg c Pl) (hcode : X.env.code = .ref c) (hmT : (Pl, X.env.qual ++ "<lambda>") ∈ Tb) (hu : ∀ p ∈ Tb, p.1 = Pl → p.2 = X.env.qual ++ "<lambda>")
    (hr : Room (k + 2) X.A) (hN : X.N[0]? = some ("_law_odd" : Str)) (hg : Gl X "_law_path_met") {e : Expr} (he : askI X.env.scope T e = true) : PE X e (tLam Tb (TMet CB) (tRef X.K CP CB)) := by
  unfold askI at he
  split at he
  · rename_i x p params body scope lpos pos
    simp only [Bool.and_eq_true, beq_iff_eq, decide_eq_true_eq] at he
    obtain ⟨rfl, he1, he2, he3, he4⟩ := he
    have ea := noArgs_ok he1
    subst ea
    obtain ⟨g, oc, od, osl, pg, bg, sg, dV, kV, doc, pm, cdv, ct, an, m1, m2, m3, m4, m5, m6, m7, m8, m9⟩ := M
    have S := scB_ok m6
    refine pe_lamcall (Ng := ["_law_ask", "_law_e"]) (a := "_law_ask") (k := k) hg m1 m2 m3 m4 (m5.binds _) S rfl (by rcases S.par "_law_ask" List.mem_cons_self with z | z; exact .inl z; exact .inr (.inl z)) (met_gives m7 m8 m9 C.at_ C.xf C.no C.ex)
      TB hcode hmT hu hr (lamS_by he2) rfl (fun q cl pm cv ctv => by rfl) fun A outer s H E f c' hr2 => ?_
    generalize hY : lamCx X A outer s H E scope f c' = Y
    have B : Kit Y E CP CB k T (fun _ => false) := by
      rw [← hY]
      exact ⟨hr2, passes_call (takes_of rfl rfl rfl rfl) (fun _ _ _ _ h => h), hT, fun x z => by cases z⟩
    have S2 : Scp Y ["_law_odd"] := ⟨fun i x hi => by
      cases i with
      | zero =>
        cases hi
        rw [← hY]
        exact ⟨hN, .inr (.inr he4)⟩
      | succ i => cases hi⟩
    refine ⟨fun pins s' σ' H' Q I ⟨v, h1, h2, h3⟩ => wpAny_mono (ld_run S2 B 1 body (by rw [← hY]; exact he3) pins s' σ' H' v I ⟨fun i hi => ?_, Nat.zero_lt_one, h1, by rw [← hY]; exact h2, h3⟩) (fun _ _ z => z.elim) fun _ _ z => z⟩
    have e0 : i = 0 := by
      have hi' : i < 1 := hi
      omega
    subst e0
    exact ⟨v, h1⟩
  · cases he
/-- l.append(e), as a statement -/
def appS : Stmt → Option Expr
  | .Expr (.Call (.Attribute (.Name l _) m ap) [e] [] cp) _ => if l == ("_law_found" : Str) && (m == ("append" : Str) && (ap.endLine == cp.line)) then some e else none
  | _ => none
theorem appS_ok {st : Stmt} {e : Expr} (h : appS st = some e) : ∃ p1 ap cp p, st = .Expr (.Call (.Attribute (.Name "_law_found" p1) "append" ap) [e] [] cp) p ∧ (ap.endLine == cp.line) = true := by
  unfold appS at h
  split at h
  · split at h
    · rename_i q
      simp only [Bool.and_eq_true, beq_iff_eq] at q
      obtain ⟨rfl, rfl, q⟩ := q
      cases h
      exact ⟨_, _, _, _, rfl, beq_iff_eq.mpr q⟩
    · cases h
  · cases h
/-- the item's reading leads from J to J -/
def GoodA (v : V) (n : Nat) (t : TE) (J : Addr → List V → Hp → Prop) : Prop := ∀ (σ : L2.St) (H : Hp) (l : Addr) (xs : List V), σ[0]? = some (some v) → σ[1]? = some (some (.ref l)) → H l = some (.lst xs) → xs.length = n → J l xs H → ∀ R : VK, (∀ y H1, H1 l = some (.lst xs) → J l (xs ++ [y]) (upd H1 l (.lst (xs ++ [y]))) → R y H1) → t σ H R
/-- return l -/
def retS : Stmt → Bool
  | .Return (some (.Name l _)) _ => l == ("_law_found" : Str)
  | _ => false
theorem retS_ok {st : Stmt} (h : retS st = true) : ∃ p1 p2, st = .Return (some (.Name "_law_found" p1)) p2 := by
  unfold retS at h
  split at h
  · simp only [beq_iff_eq] at h
    subst h
    exact ⟨_, _, rfl⟩
  · cases h
/-- the rest of such a body: what it asks -/
def tApps (v : V) (J : Addr → List V → Hp → Prop) (n m : Nat) : TS := fun D σ H => ∃ (l : Addr) (xs : List V), σ[0]? = some (some v) ∧ σ[1]? = some (some (.ref l)) ∧ H l = some (.lst xs) ∧ xs.length = n ∧ m ≤ 1000 ∧ J l xs H ∧ ∀ xs' H', xs'.length = m → H' l = some (.lst xs') → J l xs' H' → D.rt (.ref l) H'
theorem apps_run {v : V} {J : Addr → List V → Hp → Prop} (hN : X.N[1]? = some ("_law_found" : Str)) (hV : Vis X.env.scope "_law_found") : ∀ {b : List Stmt} {n m : Nat}, n + b.length = m + 1 → n ≤ m →
    (∀ (i : Nat) (st : Stmt), b[i]? = some st → (i + 1 = b.length → retS st = true) ∧ (i + 1 < b.length → ∃ e t, appS st = some e ∧ notStar e = true ∧ PE X e t ∧ GoodA v (n + i) t J)) → PSs X b (tApps v J n m)
  | [], n, m, hl, hnm, h => by
    have hl : n + 0 = m + 1 := hl
    omega
  | [st], n, m, hl, hnm, h => by
    obtain ⟨h1, _⟩ := h 0 st rfl
    obtain ⟨p1, p2, rfl⟩ := retS_ok (h1 rfl)
    have hr := pss_one (ps_ret (pos := p2) (pe_var (pos := p1) hN hV))
    refine ⟨fun pins s σ H D I ⟨l, xs, e1, e2, e3, e4, e5, e6, e7⟩ => hr.run pins s σ H D I ⟨.ref l, e2, e7 xs H ?_ e3 e6⟩⟩
    have hl : n + 1 = m + 1 := hl
    omega
  | st :: st2 :: b, n, m, hl, hnm, h => by
    obtain ⟨_, h2⟩ := h 0 st rfl
    obtain ⟨e, t, q1, q2, q3, q4⟩ := h2 (by simp)
    obtain ⟨p1, ap, cp, p, rfl, q5⟩ := appS_ok q1
    have ih := apps_run (v := v) (J := J) hN hV (b := st2 :: b) (n := n + 1) (m := m) (by simp at hl ⊢; omega) (by simp at hl; omega) fun i st hi => by
      obtain ⟨a1, a2⟩ := h (i + 1) st hi
      refine ⟨fun z => a1 (by simp at z ⊢; omega), fun z => ?_⟩
      obtain ⟨e, t, b1, b2, b3, b4⟩ := a2 (by simp at z ⊢; omega)
      exact ⟨e, t, b1, b2, b3, by rw [show n + 1 + i = n + (i + 1) by omega]; exact b4⟩
    have hs : starEach [e] X.env = (false, eval e X.env) :: starEach [] X.env := starEach_ns q2
    have hst : PS X (.Expr (.Call (.Attribute (.Name "_law_found" p1) "append" ap) [e] [] cp) p) _ :=
      ps_expr (pe_bm (T := "list") PySem.F.plainAttrs_list PySem.F.slot_list_append PySem.F.type_list_append mt_append (pe_var (pos := p1) hN hV) (pa_cons q3 pa_nil hs) (by rfl) (by rw [hs]; rfl) q5 hs (by rfl)) (by rfl)
    have hh := pss_cons hst ih
    refine ⟨fun pins s σ H D I ⟨l, xs, e1, e2, e3, e4, e5, e6, e7⟩ => hh.run pins s σ H D I ?_⟩
    refine ⟨.ref l, e2, .inl ⟨rfl, xs, .inl (Rd.of e3)⟩, q4 σ H l xs e1 e2 e3 (by omega) e6 _ fun y H1 z1 z2 => ?_⟩
    refine ⟨l, xs, y, rfl, rfl, z1, by rw [sizeLine_eq]; simp at hl; omega, l, xs ++ [y], e1, e2, upd_same, by simp; omega, e5, z2, e7⟩
end
/-! ### how tables stay -/
theorem codeO_lst {c : Addr} {q : Str} {xs : List V} : CodeO c q ≠ .lst xs := fun z => by
  unfold CodeO at z
  cases z
theorem tabs_set {Tb : List (Addr × Str)} {H : Hp} {l : Addr} {xs ys : List V} (h : Tabs Tb H) (e : H l = some (.lst xs)) : Tabs Tb (upd H l (.lst ys)) := fun p hp => by
  obtain ⟨ps, h1, h2, h3⟩ := h p hp
  refine ⟨ps, by rw [upd_ne (ne_of h1 e (fun z => by cases z))]; exact h1, h2, fun pos cv hc => ?_⟩
  obtain ⟨c, e1, e2⟩ := h3 pos cv hc
  exact ⟨c, e1, by rw [upd_ne (ne_of e2 e codeO_lst)]; exact e2⟩
theorem tabs_new {Tb : List (Addr × Str)} {H : Hp} {d : Addr} {o : HO} (h : Tabs Tb H) (e : H d = none) : Tabs Tb (upd H d o) := h.ext fun b u z => by rw [upd_ne (ne_of_none z e)]; exact z
theorem extN_new {H : Hp} {d : Addr} {o : HO} (e : H d = none) : ExtN H (upd H d o) := fun b u z _ => by rw [upd_ne (ne_of_none z e)]; exact z
theorem tyOf_ext {K : PySem.W.Frag} {H H' : Hp} {x : V} {t : Value} (h : TyOf K H x t) (e : ExtN H H') : TyOf K H' x t := by
  cases h with
  | non => exact .non
  | bl => exact .bl _
  | int => exact .int _
  | str => exact .str _
  | flt => exact .flt _
  | lst a => exact .lst (e _ _ a fun _ z => by cases z)
  | frz a => exact .frz (e _ _ a fun _ z => by cases z)
  | tup a => exact .tup (e _ _ a fun _ z => by cases z)
  | dK a => exact .dK (e _ _ a fun _ z => by cases z)
  | dT a => exact .dT (e _ _ a fun _ z => by cases z)
  | ins a cl ha hn htk hm => exact .ins (e _ _ a fun _ z => by cases z) cl ha hn htk hm
theorem tyX_ext {K : PySem.W.Frag} {H H' : Hp} {x : V} {t : Value} (h : TyX K H x t) (e : ExtN H H') : TyX K H' x t := by
  cases h with
  | base b => exact .base (tyOf_ext b e)
  | byt => exact .byt _
  | set a => exact .set (e _ _ a fun _ z => by cases z)
  | kList a c => exact .kList a c
  | kTuple a c => exact .kTuple a c
  | kDict a c => exact .kDict a c
  | fTuple a => exact .fTuple (e _ _ a fun _ z => by cases z)
  | fDict a => exact .fDict (e _ _ a fun _ z => by cases z)
theorem NP.ext {K : PySem.W.Frag} {CP : Addr} {H H' : Hp} {v : V} (h : NP K CP H v) (e : ExtN H H') : NP K CP H' v := let ⟨t, a, b⟩ := h; ⟨t, tyX_ext a e, b⟩
/-! ### the def -/
/-- ["path", v] stands at each -/
def Told (v : V) (ls : List V) (H : Hp) : Prop := ∀ y ∈ ls, ∃ a, y = .ref a ∧ H a = some (.lst [.str "path", v])
/-- the promise of a def that asks m times -/
def spAsk (K : PySem.W.Frag) (CP : Addr) (Tb : List (Addr × Str)) (m : Nat) : Sp := fun vs H Q _ => ∃ v, vs = [v] ∧ NP K CP H v ∧ Tabs Tb H ∧ ∀ l ls H', ExtN H H' → H l = none → Tabs Tb H' → ls.length = m → H' l = some (.lst ls) → Told v ls H' → (∀ y ∈ ls, y ≠ .ref l) → Q (.ref l) H'
def askJ (v : V) (H0 : Hp) (Tb : List (Addr × Str)) : Addr → List V → Hp → Prop := fun l xs H => H0 l = none ∧ ExtN H0 H ∧ Tabs Tb H ∧ Told v xs H ∧ ∀ y ∈ xs, y ≠ .ref l
/-- found = [] -/
def nilS : Stmt → Bool
  | .Assign [.Name l _] (.List [] _) _ => l == ("_law_found" : Str)
  | _ => false
theorem nilS_ok {st : Stmt} (h : nilS st = true) : ∃ p1 p2 p3, st = .Assign [.Name "_law_found" p1] (.List [] p2) p3 := by
  unfold nilS at h
  split at h
  · simp only [beq_iff_eq] at h
    subst h
    exact ⟨_, _, _, rfl⟩
  · cases h
/-- all items, then the return -/
def itemsB (f : Expr → Bool) : List Stmt → Bool
  | [] => false
  | [st] => retS st
  | st :: r => (match appS st with
    | some e => notStar e && f e
    | none => false) && itemsB f r
theorem itemsB_at {f : Expr → Bool} : ∀ {b : List Stmt}, itemsB f b = true → b ≠ [] ∧ ∀ (i : Nat) (st : Stmt), b[i]? = some st → (i + 1 = b.length → retS st = true) ∧ (i + 1 < b.length → ∃ e, appS st = some e ∧ notStar e = true ∧ f e = true)
  | [], h => by cases h
  | [st], h => ⟨List.cons_ne_nil _ _, fun i st' hi => by
    cases i with
    | zero =>
      cases hi
      exact ⟨fun _ => h, fun z => by simp at z⟩
    | succ i => cases hi⟩
  | st :: st2 :: r, h => ⟨List.cons_ne_nil _ _, fun i st' hi => by
    obtain ⟨h1, h2⟩ := Bool.and_eq_true_iff.mp (show ((match appS st with
      | some e => notStar e && f e
      | none => false) && itemsB f (st2 :: r)) = true from h)
    cases i with
    | zero =>
      cases hi
      refine ⟨fun z => by simp at z, fun _ => ?_⟩
      cases q : appS st with
      | none =>
        rw [q] at h1
        cases h1
      | some e =>
        rw [q] at h1
        exact ⟨e, rfl, Bool.and_eq_true_iff.mp h1⟩
    | succ i =>
      obtain ⟨a1, a2⟩ := (itemsB_at h2).2 i st' hi
      exact ⟨fun z => a1 (by simp at z ⊢; omega), fun z => a2 (by simp at z ⊢; omega)⟩⟩
section
variable {P : Program} {w : World} {K : PySem.W.Frag} {mg : Str → Option Value} {base : Heap} {CP CB c Pl : Addr} {k : Nat} {T : Str → Option (List Str)} {Tb : List (Addr × Str)} {f : Addr} {x : Str} {params : Arguments} {body : List Stmt} {scope : Scope} {dV kV doc pm ct oc : Value} {an od : Option Addr} {osl : Array (Option Value)}
theorem fnAsk {CX : CXT} (lk : K.lookup f = some ⟨oc, od, .func (PySem.W.fnOf x x params (st0 :: body) scope dV kV doc pm an (.ref c) ct), osl⟩) (hcd : PySem.W.codeIn K (.ref c) x = true) (hs : scB ["_law_odd", "_law_found"] ["_law_odd"] scope = true)
    (h0 : nilS st0 = true) (hb : itemsB (askI scope T) body = true) (few : body.length ≤ 900) (hl : scope.names.lookup ("_law_found" : Str) = some .local) (hg : scope.names.lookup ("_law_path_met" : Str) = some .globalImplicit)
    (M : MetF K mg) (C : CatF K mg CB) (hT : ∀ x qs, T x = some qs → GQ P w K mg base CP CB k x qs) (TB : TabB base mg c Pl) (hmT : (Pl, x ++ ".<locals>." ++ "<lambda>") ∈ Tb) (hu : ∀ p ∈ Tb, p.1 = Pl → p.2 = x ++ ".<locals>." ++ "<lambda>") :
    FnOk P w K mg base CX (k + 3) f (PySem.W.fnOf x x params (st0 :: body) scope dV kV doc pm an (.ref c) ct) ["_law_odd"] (spAsk K CP Tb (body.length - 1)) := by
  have S := scB_ok hs
  refine fn_of lk hcd S (fun vs H Q E ⟨v, ev, _⟩ => by rw [ev]; rfl) fun A outer s H vs Q E hr ⟨v, ev, hnp, htb, hq⟩ => ?_
  subst ev
  generalize hX : cxOf CX P w K mg base ["_law_odd", "_law_found"] x scope f (.ref c) A outer s H E = X
  have n0 : X.N[0]? = some ("_law_odd" : Str) := by rw [← hX]; rfl
  have n1 : X.N[1]? = some ("_law_found" : Str) := by rw [← hX]; rfl
  have v1 : Vis X.env.scope "_law_found" := by rw [← hX]; exact .inl hl
  obtain ⟨p1, p2, p3, rfl⟩ := nilS_ok h0
  obtain ⟨hb1, hb2⟩ := itemsB_at hb
  have run : PSs X body (tApps v (askJ v H Tb) 0 (body.length - 1)) := by
    refine apps_run n1 v1 (n := 0) (m := body.length - 1) (by cases body with | nil => exact absurd rfl hb1 | cons a b => simp) (Nat.zero_le _) fun i st hi => ?_
    obtain ⟨a1, a2⟩ := hb2 i st hi
    refine ⟨a1, fun z => ?_⟩
    obtain ⟨e, b1, b2, b3⟩ := a2 z
    have pm := pe_met (X := X) (CP := CP) (CB := CB) (k := k) (T := T) (Tb := Tb) (c := c) (Pl := Pl) (by rw [← hX]; exact M) (by rw [← hX]; exact C) (by rw [← hX]; exact hT) (by rw [← hX]; exact TB) (by rw [← hX]; rfl) (by rw [← hX]; exact hmT) (by rw [← hX]; exact hu) (by rw [← hX]; exact hr) n0
      (by rw [← hX]; exact hg) (e := e) (by rw [← hX]; exact b3)
    refine ⟨e, _, b1, b2, pm, fun σ H1 l xs e1 e2 e3 e4 ⟨j1, j2, j3, j4, j5⟩ R hR => ⟨j3, fun H2 x1 x2 => ⟨v, e1, ?_, fun d hd => ⟨rfl, d, _, v, rfl, upd_same, by simp [List.lookup], fun l2 hl2 => ?_⟩⟩⟩⟩
    · rw [← hX]
      exact hnp.ext (j2.trans x1)
    · have e3' : H2 l = some (.lst xs) := x1 _ _ e3 fun _ z => by cases z
      have nl : l ≠ d := ne_of_none e3' hd
      have e4' : upd H2 d (.xd [("thing", v)]) l = some (.lst xs) := by rw [upd_ne nl]; exact e3'
      have nl2 : l ≠ l2 := ne_of_none e4' hl2
      have e5' : upd (upd H2 d (.xd [("thing", v)])) l2 (.lst [.str "path", v]) l = some (.lst xs) := by rw [upd_ne nl2]; exact e4'
      have t1 : Tabs Tb (upd (upd H2 d (.xd [("thing", v)])) l2 (.lst [.str "path", v])) := tabs_new (tabs_new x2 hd) hl2
      have x3 : ExtN H1 (upd (upd H2 d (.xd [("thing", v)])) l2 (.lst [.str "path", v])) := (x1.trans (extN_new hd)).trans (extN_new hl2)
      refine hR _ _ e5' ⟨j1, fun b o z nt => ?_, tabs_set t1 e5', fun y hy => ?_, fun y hy => ?_⟩
      · rw [upd_ne (fun q => by rw [q, j1] at z; cases z)]
        exact x3 b o (j2 b o z nt) nt
      · rcases List.mem_append.mp hy with hy | hy
        · obtain ⟨a, y1, y2⟩ := j4 y hy
          refine ⟨a, y1, ?_⟩
          rw [upd_ne (fun q => j5 y hy (by rw [y1, q]))]
          exact x3 _ _ y2 fun _ z => by cases z
        · rw [List.mem_singleton.mp hy]
          exact ⟨l2, rfl, by rw [upd_ne (Ne.symm nl2), upd_same]⟩
      · rcases List.mem_append.mp hy with hy | hy
        · exact j5 y hy
        · rw [List.mem_singleton.mp hy]
          intro q
          cases q
          exact nl2 rfl
  have first : PS X (.Assign [.Name "_law_found" p1] (.List [] p2) p3) (tAsg (tLst tNil) (gName 1)) := ps_set (i := 1) (by rw [← hX]; exact S.nd) n1 (by rw [← hX]; exact .inl hl) (pe_lst pa_nil) (by rfl) (by rw [← hX]; exact .inl rfl)
  refine ⟨_, pss_cons first run, Nat.zero_le _, fun l hl0 => ⟨l, [], rfl, rfl, upd_same, rfl, by omega, ⟨hl0, extN_new hl0, tabs_new htb hl0, (fun y hy => nomatch hy), (fun y hy => nomatch hy)⟩, fun xs' H' l' h1 ⟨j1, j2, j3, j4, j5⟩ => hq l xs' H' j2 j1 j3 l' h1 j4 j5⟩⟩
end
end RWk
end
section
/-! M13: repr(a) == repr(b) and a == b. -/
namespace RWk
open PySem PySem.Spec PyProof.Rows L2
mutual
/-- v shows as the data d -/
inductive Shw (H : Hp) : V → PyData → Prop
  | non : Shw H .non .none
  | bl (b : Bool) : Shw H (.bl b) (.bool b)
  | int (i : Int) : Shw H (.int i) (.int i)
  | str (x : Str) : Shw H (.str x) (.str x)
  | lst {a : Addr} {xs : List V} {ds : List PyData} : H a = some (.lst xs) → ShwAll H xs ds → Shw H (.ref a) (.list ds)
  | tup {a : Addr} {xs : List V} {ds : List PyData} : H a = some (.tup xs) → ShwAll H xs ds → Shw H (.ref a) (.tuple ds)
  | dic {a : Addr} {x : Str} {i : Int} : H a = some (.dK [(.inr x, .int i)]) → Shw H (.ref a) (.dict [(.str x, .int i)])
inductive ShwAll (H : Hp) : List V → List PyData → Prop
  | nil : ShwAll H [] []
  | cons {v : V} {vs : List V} {d : PyData} {ds : List PyData} : Shw H v d → ShwAll H vs ds → ShwAll H (v :: vs) (d :: ds)
end
section
variable {X : Cx} {pins : List (Addr × Obj)} {σ : L2.St} {H : Hp} {s : Shared}
theorem no_sys (hK : (X.K.lookup sysModules).isSome = true) (I : Inv X pins σ H s) {a : Addr} {o : HO} (h : H a = some o) : sysModules ≠ a := fun z => by
  obtain ⟨ob, e⟩ := Option.isSome_iff_exists.mp hK
  have n := (I.bs sysModules ob (I.ok.mod.kin _ _ e)).2
  rw [z, h] at n
  cases n
mutual
theorem Shw.reads (hK : (X.K.lookup sysModules).isSome = true) (I : Inv X pins σ H s) : ∀ (d : PyData) (v : V) (u : Value), Shw H v d → RelV v u → ∃ as, Reads s.heap u d as ∧ sysModules ∉ as
  | .none, _, _, h, r => by
    cases h
    cases r
    exact ⟨_, Reads.none, by simp⟩
  | .bool b, _, _, h, r => by
    cases h
    cases r
    exact ⟨_, Reads.bool b, by simp⟩
  | .int i, _, _, h, r => by
    cases h
    obtain ⟨t, rfl⟩ := r
    exact ⟨_, Reads.int i t, by simp⟩
  | .str x, _, _, h, r => by
    cases h
    obtain ⟨t, rfl⟩ := r
    exact ⟨_, Reads.str x t, by simp⟩
  | .list ds, _, _, h, r => by
    cases h with
    | lst hs ha =>
      cases r
      obtain ⟨_, its, n, rv, e⟩ := (show ObjOk X.prog X.w H s.heap _ (.lst _) from I.hok _ _ hs)
      obtain ⟨as, hr, hn⟩ := Shw.readsAll hK I ds _ its ha rv
      refine ⟨_, Reads.list e rfl rfl hr, ?_⟩
      rw [List.mem_cons, not_or]
      exact ⟨no_sys hK I hs, hn⟩
  | .tuple ds, _, _, h, r => by
    cases h with
    | tup hs ha =>
      cases r
      obtain ⟨_, its, rv, o, ho, hc, n, hd⟩ := (show ObjOk X.prog X.w H s.heap _ (.tup _) from I.hok _ _ hs)
      obtain ⟨as, hr, hn⟩ := Shw.readsAll hK I ds _ its ha rv
      exact ⟨_, Reads.tuple ho hc hd hr, hn⟩
  | .dict kvs, _, _, h, r => by
    cases h with
    | @dic a x i hs =>
      cases r
      obtain ⟨_, _, vs, rv, o, es, ep, ho, hx, hd, hk, hp, _⟩ := (show ObjOk X.prog X.w H s.heap _ (.dK _) from I.hok _ _ hs)
      cases rv with
      | @cons _ q _ _ r1 r2 =>
        cases r2
        obtain ⟨k1, v1⟩ := q
        obtain ⟨e1, e2⟩ := r1
        have e1 : Sum.inr x = k1 := e1
        subst e1
        obtain ⟨t, e2⟩ := e2
        have e2 : v1 = .int i t := e2
        subst e2
        generalize hl : es.toList = l at hp
        cases hp with
        | @cons e0 _ es' _ k1 k2 k3 =>
          cases k3
          rcases keyIs_shape (show keyIs (.inr x) e0.key = true from k1) with ⟨_, _, z, _⟩ | ⟨y, tk, z, ek⟩
          · cases z
          · cases z
            have k2 : e0.val = .int i t := k2
            refine ⟨a :: ([] ++ []) ++ ([] ++ []), Reads.dict ho hx.1 hd (kvs := [(.str x, .int i)]) ?_ ?_, ?_⟩
            · rw [hl]
              show ReadsAll s.heap [e0.key] [.str x] ([] ++ [])
              rw [ek]
              exact ReadsAll.cons (Reads.str x tk) ReadsAll.nil
            · rw [hl]
              show ReadsAll s.heap [e0.val] [.int i] ([] ++ [])
              rw [k2]
              exact ReadsAll.cons (Reads.int i t) ReadsAll.nil
            · simp
              exact no_sys hK I hs
theorem Shw.readsAll (hK : (X.K.lookup sysModules).isSome = true) (I : Inv X pins σ H s) : ∀ (ds : List PyData) (vs : List V) (us : List Value), ShwAll H vs ds → Vals vs us → ∃ as, ReadsAll s.heap us ds as ∧ sysModules ∉ as
  | [], _, _, h, r => by
    cases h
    cases r
    exact ⟨_, ReadsAll.nil, by simp⟩
  | d :: ds, _, _, h, r => by
    cases h with
    | cons h1 h2 =>
      cases r with
      | cons r1 r2 =>
        obtain ⟨as, q1, n1⟩ := Shw.reads hK I d _ _ h1 r1
        obtain ⟨bs, q2, n2⟩ := Shw.readsAll hK I ds _ _ h2 r2
        refine ⟨_, ReadsAll.cons q1 q2, ?_⟩
        rw [List.mem_append, not_or]
        exact ⟨n1, n2⟩
end
end
/-! ### defs that need a clear guard -/
structure FnG (P : Program) (w : World) (K : PySem.W.Frag) (mg : Str → Option Value) (base : Heap) (CX : CXT) (k : Nat) (f : Addr) (fd : FuncData) (ps : List Str) (sp : Sp) : Prop where
  len : ∀ vs H Q E, sp vs H Q E → vs.length = ps.length
  run : ∀ (A : Around) (outer : List Env) (s : Shared) (H : Hp) (args : Args) (us : List Value) (vs : List V) (Q : VK) (E : XK), Room k A → A.guards = some [] → Env0 P w K mg base A outer s H → BindsTo s fd args (ps.zip us) → Vals vs us → sp vs H Q E →
    codeAny (model P w) A (.call (.ref f) args) (CR CX outer P w H s Q E) s
theorem FnG.of {P : Program} {w : World} {K : PySem.W.Frag} {mg : Str → Option Value} {base : Heap} {CX : CXT} {k : Nat} {f : Addr} {fd : FuncData} {ps : List Str} {sp : Sp} (F : FnOk P w K mg base CX k f fd ps sp) : FnG P w K mg base CX k f fd ps sp :=
  ⟨F.len, fun A outer s H args us vs Q E hr _ => F.run A outer s H args us vs Q E hr⟩
theorem FnG.mono {P : Program} {w : World} {K : PySem.W.Frag} {mg : Str → Option Value} {base : Heap} {CX : CXT} {j k : Nat} {f : Addr} {fd : FuncData} {ps : List Str} {sp : Sp} (F : FnG P w K mg base CX j f fd ps sp) (h : j ≤ k) : FnG P w K mg base CX k f fd ps sp :=
  ⟨F.len, fun A outer s H args us vs Q E hr => F.run A outer s H args us vs Q E (hr.mono h)⟩
theorem fn_ofG {CX : CXT} {P : Program} {w : World} {K : PySem.W.Frag} {mg : Str → Option Value} {base : Heap} {k : Nat} {f : Addr} {name qual : Str} {params : Arguments} {body : List Stmt} {scope : Scope} {dV kV doc pm cdv ct oc : Value} {an od : Option Addr}
    {osl : Array (Option Value)} {N ps : List Str} {sp : Sp} (lk : K.lookup f = some ⟨oc, od, .func (PySem.W.fnOf name qual params body scope dV kV doc pm an cdv ct), osl⟩) (hcd : PySem.W.codeIn K cdv qual = true) (S : FnScope N ps scope)
    (len : ∀ vs H Q E, sp vs H Q E → vs.length = ps.length)
    (hbody : ∀ (A : Around) (outer : List Env) (s : Shared) (H : Hp) (vs : List V) (Q : VK) (E : XK), Room k (A.deeper (envOfC qual scope s.heap.objs.size f cdv)) → (A.deeper (envOfC qual scope s.heap.objs.size f cdv)).guards = some [] → sp vs H Q E →
      ∃ t, PSs (cxOf CX P w K mg base N qual scope f cdv A outer s H E) body t ∧ t { nx := fun _ H' => Q .non H', rt := Q } (L2.start N vs) H) :
    FnG P w K mg base CX (k + 1) f (PySem.W.fnOf name qual params body scope dV kV doc pm an cdv ct) ps sp :=
  ⟨len, fun A outer s H args us vs Q E hr hg e0 hb r hsp => LamX.run_ofS lk hcd S hr e0 hb r (len _ _ _ _ hsp) fun hr' => hbody A outer s H vs Q E hr' hg hsp⟩
section
variable {X : Cx} {CX : CXT} {k : Nat} {f : Addr} {fd : FuncData} {ps : List Str} {sp : Sp} {E : XK} {x : Str} {p pos : Pos} {e : Expr} {es : List Expr} {t : TA}
theorem pe_callG (F : FnG X.prog X.w X.K X.mg X.base CX k f fd ps sp) (hr : Room k X.A) (hgd : X.A.guards = some []) (hg : Gl X x) (hm : X.mg x = some (.ref f)) (hk : PySem.W.keepIn X.K (.ref f) = true) (hb : Binds X.K fd ps []) (hx : Passes CX X E)
    (ha : PA X (e :: es) t) (hdb : (x == ("__debug__" : Str)) = false := by decide) (he : starEach (e :: es) X.env = (false, eval e X.env) :: starEach es X.env := by rfl) (hpl : (backTo pos (starEach es X.env)).any (·.1) = false := by rfl) :
    PE X (.Call (.Name x p) (e :: es) [] pos) (tCall sp [] E t) := by
  refine ⟨fun pins s σ H Q I h => ?_⟩
  refine wpAny_Call_Name_kw (ld_glob I hg hm ?_ hdb)
  refine PySem.W.callWith_K (h₀ := X.base) I.ok.mod.kin hk (thn (ha.run pos pins s σ H _ I h) fun us s1 ⟨vs, H1, I1, r, q⟩ => ⟨I1.kIn, ?_⟩) he hpl
  have q' : sp vs H1 Q E := by
    have z : sp (vs ++ []) H1 Q E := q
    rw [List.append_nil] at z
    exact z
  have hl : us.length = ps.length := by rw [← r.length]; exact F.len _ _ _ _ q'
  have b := hb s1 us I1.kIn (by rw [List.append_nil]; exact hl)
  rw [List.append_nil] at b
  refine wpAny_call (codeAny_mono (F.run X.A X.stack s1 H1 ⟨us, []⟩ us vs Q E hr hgd I1.env0 b r q') fun r s' hq => ?_)
  cases r with
  | error e => exact hx pins σ H1 s1 e s' I1 hq
  | ok fl =>
    cases fl with
    | ret u => exact I1.after hq
    | next => exact False.elim hq
    | brk => exact False.elim hq
    | cont => exact False.elim hq
theorem pe_callG0 (F : FnG X.prog X.w X.K X.mg X.base CX k f fd [] sp) (hr : Room k X.A) (hgd : X.A.guards = some []) (hg : Gl X x) (hm : X.mg x = some (.ref f)) (hk : PySem.W.keepIn X.K (.ref f) = true) (hb : Binds X.K fd [] []) (hx : Passes CX X E)
    (hdb : (x == ("__debug__" : Str)) = false := by decide) : PE X (.Call (.Name x p) [] [] pos) (fun σ H Q => sp [] H Q E) := by
  refine ⟨fun pins s σ H Q I h => ?_⟩
  refine wpAny_Call_Name_kw (ld_glob I hg hm ?_ hdb)
  refine PySem.W.callWith_K0 I.kIn hk ?_
  refine wpAny_call (codeAny_mono (F.run X.A X.stack s H ⟨[], []⟩ [] [] Q E hr hgd I.env0 (hb s [] I.kIn rfl) .nil h) fun r s' hq => ?_)
  cases r with
  | error e => exact hx pins σ H s e s' I hq
  | ok fl =>
    cases fl with
    | ret u => exact I.after hq
    | next => exact False.elim hq
    | brk => exact False.elim hq
    | cont => exact False.elim hq
/-- repr(x), x data of ours -/
def rRepr : List V → Hp → VK → Prop := fun xs H Q => ∃ (a : Addr) (d : PyData), xs = [.ref a] ∧ Shw H (.ref a) d ∧ d.showable = true ∧ d.shown.length ≤ sizeLine ∧ d.depth ≤ 40 ∧ Q (.str d.shown) H
theorem call_repr (hK : (X.K.lookup sysModules).isSome = true) (hgd : X.A.guards = some []) (hu : X.A.units + 64 < cLine) : CallR X (.builtin "repr") rRepr := by
  intro pins s σ H xs us Q I r h
  obtain ⟨a, d, rfl, hd, h1, h2, h3, q⟩ := h
  obtain ⟨u, rfl, ru⟩ := r.one
  obtain ⟨as, hr, hn⟩ := Shw.reads hK I d _ u hd ru
  cases (show u = Value.ref a from ru)
  exact repr_of_reads' hr h1 (fun _ => hn) hgd (by omega) (fun _ _ z => z) (fun h' u tk k => ⟨.str d.shown, H, I.kept (t' := tk) k, ⟨u, rfl⟩, q⟩) h2
end
/-- the two show alike and are equal -/
def Alike (K : PySem.W.Frag) (H : Hp) (a b : Addr) : Prop := (∃ d : PyData, Shw H (.ref a) d ∧ Shw H (.ref b) d ∧ d.showable = true ∧ d.shown.length ≤ sizeLine ∧ d.depth ≤ 40) ∧ ∃ n, n ≤ 60 ∧ EqR K H (EqV K H n) (.ref a) (.ref b)
def spSame (K : PySem.W.Frag) : Sp := fun vs H Q _ => ∃ a b, vs = [.ref a, .ref b] ∧ Alike K H a b ∧ Q (.bl true) H
/-- return repr(a) == repr(b) and a == b -/
def sameB : List Stmt → Bool
  | [.Return (some (.BoolOp .And [.Compare (.Call (.Name r _) [.Name a _] [] _) [.Eq] [.Call (.Name r2 _) [.Name b _] [] _] _, .Compare (.Name a2 _) [.Eq] [.Name b2 _] _] _)) _] =>
    r == ("repr" : Str) && (r2 == ("repr" : Str) && (a == ("_law_found" : Str) && (a2 == ("_law_found" : Str) && (b == ("_law_due" : Str) && b2 == ("_law_due" : Str)))))
  | _ => false
theorem sameB_ok {b : List Stmt} (h : sameB b = true) : ∃ p1 p2 p3 p4 p5 p6 p7 p8 p9 p10 p11 p12, b = [.Return (some (.BoolOp .And [.Compare (.Call (.Name "repr" p1) [.Name "_law_found" p2] [] p3) [.Eq] [.Call (.Name "repr" p4) [.Name "_law_due" p5] [] p6] p7,
    .Compare (.Name "_law_found" p8) [.Eq] [.Name "_law_due" p9] p10] p11)) p12] := by
  unfold sameB at h
  split at h
  · simp only [Bool.and_eq_true, beq_iff_eq] at h
    obtain ⟨rfl, rfl, rfl, rfl, rfl, rfl⟩ := h
    exact ⟨_, _, _, _, _, _, _, _, _, _, _, _, rfl⟩
  · cases h
section
variable {P : Program} {w : World} {K : PySem.W.Frag} {mg : Str → Option Value} {base : Heap} {k : Nat} {f : Addr} {x : Str} {params : Arguments} {body : List Stmt} {scope : Scope} {dV kV doc pm cdv ct oc : Value} {an od : Option Addr} {osl : Array (Option Value)}
theorem fnSame {CX : CXT} (lk : K.lookup f = some ⟨oc, od, .func (PySem.W.fnOf x x params body scope dV kV doc pm an cdv ct), osl⟩) (hcd : PySem.W.codeIn K cdv x = true) (hs : scB ["_law_found", "_law_due"] ["_law_found", "_law_due"] scope = true) (hb : sameB body = true)
    (hg : scope.names.lookup ("repr" : Str) = some .globalImplicit) (hm : mg "repr" = none) (hK : (K.lookup sysModules).isSome = true) : FnG P w K mg base CX (k + 1) f (PySem.W.fnOf x x params body scope dV kV doc pm an cdv ct) ["_law_found", "_law_due"] (spSame K) := by
  have S := scB_ok hs
  obtain ⟨p1, p2, p3, p4, p5, p6, p7, p8, p9, p10, p11, p12, rfl⟩ := sameB_ok hb
  refine fn_ofG lk hcd S (fun vs H Q E ⟨a, b, ev, _⟩ => by rw [ev]; rfl) fun A outer s H vs Q E hr hgd ⟨a, b, ev, ⟨⟨d, d1, d2, d3, d4, d5⟩, n, n1, n2⟩, hq⟩ => ?_
  subst ev
  generalize hX : cxOf CX P w K mg base ["_law_found", "_law_due"] x scope f cdv A outer s H E = X
  have vis : ∀ y ∈ [("_law_found" : Str), "_law_due"], Vis X.env.scope y := fun y hy => by
    rw [← hX]
    rcases S.par y hy with z | z
    · exact .inl z
    · exact .inr (.inl z)
  have pf : ∀ p, PE X (.Name "_law_found" p) (tVar 0) := fun p => pe_var (by rw [← hX]; rfl) (vis _ (by simp))
  have pd : ∀ p, PE X (.Name "_law_due" p) (tVar 1) := fun p => pe_var (by rw [← hX]; rfl) (vis _ (by simp))
  have hr1 : CallR X (.builtin "repr") rRepr := call_repr (by rw [← hX]; exact hK) (by rw [← hX]; exact hgd) (by rw [← hX]; exact hr.units)
  have hgl : Gl X "repr" := by rw [← hX]; exact hg
  have hmg : X.mg "repr" = none := by rw [← hX]; exact hm
  have c1 := pe_callB (p := p1) (pos := p3) hr1 hgl hmg bootS_repr (pa_cons (pf p2) pa_nil)
  have c2 := pe_callB (p := p4) (pos := p6) hr1 hgl hmg bootS_repr (pa_cons (pd p5) pa_nil)
  have q1 := pe_cmpR (pos := p7) op_eq c1 c2 (nomark _)
  have q2 := pe_cmpR (pos := p10) (op_eqV (X := X) (by rw [← hX]; exact hr.units)) (pf p8) (pd p9) (nomark _)
  refine ⟨_, pss_one (ps_ret (pe_and q1 (pe_one q2))), ?_⟩
  subst hX
  refine ⟨.ref a, rfl, a, d, rfl, d1, d3, d4, d5, .ref b, rfl, b, d, rfl, d2, d3, d4, d5, rfl, true, by simp, .ref a, rfl, .ref b, rfl, n, n1, n2, hq⟩
end
end RWk
end
section
/-! M14: of which classes an error is. -/
namespace RWk
open PySem PySem.Spec PyProof.Rows L2
/-- the class D is among those that isinstance knows, for an error of the class at C -/
def KitF (K : PySem.W.Frag) (mg : Str → Option Value) (C : Addr) (c : Str) (D : Addr) : Prop := mg c = some (.ref D) ∧ PySem.W.kitOne K (.ref C) (.ref D) = some (decide (D = C))
/-- isinstance(_law_e, c) -/
def isiE : Expr → Option Str
  | .Call (.Name i _) [.Name e _, .Name c _] [] _ => if i == ("isinstance" : Str) && e == ("_law_e" : Str) then some c else none
  | _ => none
theorem isiE_ok {e : Expr} {c : Str} (h : isiE e = some c) : ∃ p1 p2 p3 p4, e = .Call (.Name "isinstance" p1) [.Name "_law_e" p2, .Name c p3] [] p4 := by
  unfold isiE at h
  split at h
  · split at h
    · rename_i q
      simp only [Bool.and_eq_true, beq_iff_eq] at q
      obtain ⟨rfl, rfl⟩ := q
      cases h
      exact ⟨_, _, _, _, rfl⟩
    · cases h
  · cases h
def isisE : List Expr → Option (List Str)
  | [] => some []
  | e :: r => match isiE e, isisE r with
    | some c, some cs => some (c :: cs)
    | _, _ => none
/-- found = found + [isinstance(..), ..] -/
def kndS : Stmt → Option (List Str)
  | .Assign [.Name f _] (.BinOp (.Name f2 _) .Add (.List es _) _) _ => if f == ("_law_found" : Str) && f2 == ("_law_found" : Str) then isisE es else none
  | _ => none
theorem kndS_ok {st : Stmt} {cs : List Str} (h : kndS st = some cs) : ∃ p1 p2 es p3 p4 p5, st = .Assign [.Name "_law_found" p1] (.BinOp (.Name "_law_found" p2) .Add (.List es p3) p4) p5 ∧ isisE es = some cs := by
  unfold kndS at h
  split at h
  · split at h
    · rename_i q
      simp only [Bool.and_eq_true, beq_iff_eq] at q
      obtain ⟨rfl, rfl⟩ := q
      exact ⟨_, _, _, _, _, _, rfl, h⟩
    · cases h
  · cases h
def kndsB : List Stmt → Option (List Str)
  | [] => none
  | [st] => if retS st then some [] else none
  | st :: r => match kndS st, kndsB r with
    | some cs, some ds => some (cs ++ ds)
    | _, _ => none
theorem paired_split {α β : Type} {R : α → β → Prop} : ∀ {a b : List α} {D : List β}, Paired R (a ++ b) D → ∃ D1 D2, D = D1 ++ D2 ∧ Paired R a D1 ∧ Paired R b D2
  | [], _, D, h => ⟨[], D, rfl, .nil, h⟩
  | _ :: _, _, _, .cons r t => by
    obtain ⟨D1, D2, e1, e2, e3⟩ := paired_split t
    rw [e1]
    exact ⟨_ :: D1, D2, rfl, .cons r e2, e3⟩
/-- the answers -/
def kis (C : Addr) (Ds : List Addr) : List V := Ds.map fun D => .bl (decide (D = C))
section
variable {X : Cx} {C e : Addr} {fl : List (Str × V)}
/-- what the walk knows of e -/
structure KS (X : Cx) (C e : Addr) (fl : List (Str × V)) (σ : L2.St) (H : Hp) : Prop where
  at_ : σ[0]? = some (some (.ref e))
  er : ErAt H e C fl
def tIsis (X : Cx) (C : Addr) (cs : List Str) (Ds : List Addr) : TA := fun σ H Q => ∃ e fl, KS X C e fl σ H ∧ Q (kis C Ds) H
theorem pa_isis (hx : ExcC X.K C) (hN : X.N[0]? = some ("_law_e" : Str)) (hV : Vis X.env.scope "_law_e") (hg : Gl X "isinstance") (hm : X.mg "isinstance" = none) : ∀ {es : List Expr} {cs : List Str} {Ds : List Addr}, isisE es = some cs → Paired (KitF X.K X.mg C) cs Ds → (∀ c ∈ cs, Gl X c ∧ (c == ("__debug__" : Str)) = false) →
    PA X es (tIsis X C cs Ds)
  | [], cs, Ds, h, hp, hc => by
    cases h
    cases hp
    exact ⟨fun pos pins s σ H Q I ⟨e, fl, _, q⟩ => Calls.spliced_nil ⟨[], H, I, .nil, q⟩⟩
  | e :: r, cs, Ds, h, hp, hc => by
    have h' : (match isiE e, isisE r with
      | some c, some cs => some (c :: cs)
      | _, _ => none) = some cs := h
    cases q1 : isiE e with
    | none =>
      rw [q1] at h'
      cases h'
    | some c =>
      cases q2 : isisE r with
      | none =>
        rw [q1, q2] at h'
        cases h'
      | some cs' =>
        rw [q1, q2] at h'
        cases h'
        cases hp with
        | @cons _ D _ Ds' k1 k2 =>
          obtain ⟨p1, p2, p3, p4, rfl⟩ := isiE_ok q1
          obtain ⟨m1, m2⟩ := k1
          obtain ⟨g1, g2⟩ := hc c List.mem_cons_self
          have ih := pa_isis hx hN hV hg hm q2 k2 fun c hc' => hc c (List.mem_cons_of_mem _ hc')
          have he := pe_callB (p := p1) (pos := p4) (call_isX (X := X)) hg hm boot_isinstance (pa_cons (pe_var (pos := p2) hN hV) (pa_cons (pe_glob (pos := p3) g1 m1 (v := .ref D) rfl g2) pa_nil))
          have hh := pa_cons he ih (by rfl)
          refine ⟨fun pos pins s σ H Q I ⟨e0, fl, ks, q⟩ => hh.run pos pins s σ H Q I ?_⟩
          exact ⟨.ref e0, ks.at_, e0, C, fl, .ref D, .ref D, decide (D = C), rfl, ks.er, hx, fun u hu => hu, m2, e0, fl, ks, q⟩
/-- the rest of such a body -/
def tKnds (X : Cx) (C e : Addr) (fl : List (Str × V)) (Ds : List Addr) : TS := fun D σ H => ∃ (l : Addr) (xs : List V), KS X C e fl σ H ∧ σ.length = 2 ∧ σ[1]? = some (some (.ref l)) ∧ H l = some (.lst xs) ∧ xs.length + Ds.length ≤ 1000 ∧
  ∀ l' H', (∀ b o, H b = some o → H' b = some o) → H' l' = some (.lst (xs ++ kis C Ds)) → D.rt (.ref l') H'
theorem knds_run (hx : ExcC X.K C) (hN : X.N = ([("_law_e" : Str), "_law_found"] : List Str)) (hV : Vis X.env.scope "_law_e") (hl : X.env.scope.names.lookup ("_law_found" : Str) = some .local) (hg : Gl X "isinstance") (hm : X.mg "isinstance" = none) (hfn : X.fn "_law_found" = true) : ∀ {b : List Stmt} {cs : List Str} {Ds : List Addr}, kndsB b = some cs → Paired (KitF X.K X.mg C) cs Ds →
    (∀ c ∈ cs, Gl X c ∧ (c == ("__debug__" : Str)) = false) → PSs X b (tKnds X C e fl Ds)
  | [], cs, Ds, h, hp, hc => by cases h
  | [st], cs, Ds, h, hp, hc => by
    have h' : (if retS st then some [] else none) = some cs := h
    split at h'
    · rename_i q
      cases h'
      cases hp
      obtain ⟨p1, p2, rfl⟩ := retS_ok q
      have hr := pss_one (X := X) (ps_ret (pos := p2) (pe_var (pos := p1) (i := 1) (by rw [hN]; rfl) (.inl hl)))
      refine ⟨fun pins s σ H D I ⟨l, xs, k1, k0, k2, k3, k4, k5⟩ => hr.run pins s σ H D I ⟨.ref l, k2, k5 l H (fun _ _ z => z) ?_⟩⟩
      show H l = some (.lst (xs ++ []))
      rw [List.append_nil]
      exact k3
    · cases h'
  | st :: st2 :: b, cs, Ds, h, hp, hc => by
    have h' : (match kndS st, kndsB (st2 :: b) with
      | some cs, some ds => some (cs ++ ds)
      | _, _ => none) = some cs := h
    cases q1 : kndS st with
    | none =>
      rw [q1] at h'
      cases h'
    | some c1 =>
      cases q2 : kndsB (st2 :: b) with
      | none =>
        rw [q1, q2] at h'
        cases h'
      | some c2 =>
        rw [q1, q2] at h'
        cases h'
        obtain ⟨D1, D2, rfl, hp1, hp2⟩ := paired_split hp
        obtain ⟨p1, p2, es, p3, p4, p5, rfl, q3⟩ := kndS_ok q1
        have ih := knds_run hx hN hV hl hg hm hfn q2 hp2 fun c hc' => hc c (List.mem_append_right _ hc')
        have hpa := pa_isis hx (by rw [hN]; rfl) hV hg hm q3 hp1 fun c hc' => hc c (List.mem_append_left _ hc')
        have hst := ps_set (X := X) (i := 1) (pos := p5) (pos' := p1) (by rw [hN]; decide) (by rw [hN]; rfl) (.inl hl) (pe_op (pos := p4) op_cat (pe_var (pos := p2) (i := 1) (by rw [hN]; rfl) (.inl hl)) (pe_lst (pos := p3) hpa)) (by rfl) (.inl hfn)
        have hh := pss_cons hst ih
        refine ⟨fun pins s σ H D I ⟨l, xs, k1, k0, k2, k3, k4, k5⟩ => hh.run pins s σ H D I ?_⟩
        rw [List.length_append] at k4
        have lk : (kis C D1).length = D1.length := by simp [kis]
        refine ⟨.ref l, k2, e, fl, k1, by rw [lk, sizeLine_eq]; omega, fun p hp0 => ?_⟩
        have a1 : upd H p (.lst (kis C D1)) l = some (.lst xs) := by rw [upd_ne (ne_of_none k3 hp0)]; exact k3
        refine ⟨l, p, xs, kis C D1, rfl, rfl, a1, upd_same, by rw [lk, sizeLine_eq]; omega, fun p' hp' => ?_⟩
        have ext : ∀ b o, H b = some o → upd (upd H p (.lst (kis C D1))) p' (.lst (xs ++ kis C D1)) b = some o := fun b o z => by
          have z1 : upd H p (.lst (kis C D1)) b = some o := by rw [upd_ne (ne_of_none z hp0)]; exact z
          rw [upd_ne (ne_of_none z1 hp')]
          exact z1
        refine ⟨p', xs ++ kis C D1, ⟨?_, ?_⟩, by simpa using k0, ?_, upd_same, by rw [List.length_append, lk]; omega, fun l' H' x1 x2 => k5 l' H' (fun b o z => x1 b o (ext b o z)) ?_⟩
        · rw [List.getElem?_set_ne (by decide)]
          exact k1.at_
        · obtain ⟨dx, y1, y2⟩ := k1.er
          exact ⟨dx, ext _ _ y1, fun z => ext _ _ (y2 z)⟩
        · rw [List.getElem?_set_self (by rw [k0]; decide)]
        · rw [x2, List.append_assoc]
          simp [kis]
end
def spKnd (C0 : List Addr) (ok : Addr → Prop) : Sp := fun vs H Q _ => ∃ (e C : Addr) (fl : List (Str × V)), vs = [.ref e] ∧ ok C ∧ ErAt H e C fl ∧ ∀ l' H', (∀ b o, H b = some o → H' b = some o) → H' l' = some (.lst (kis C C0)) → Q (.ref l') H'
section
variable {P : Program} {w : World} {K : PySem.W.Frag} {mg : Str → Option Value} {base : Heap} {k : Nat} {f : Addr} {x : Str} {params : Arguments} {st0 : Stmt} {body : List Stmt} {scope : Scope} {dV kV doc pm cdv ct oc : Value} {an od : Option Addr} {osl : Array (Option Value)} {cs : List Str} {Ds : List Addr} {ok : Addr → Prop}
theorem fnKnd {CX : CXT} (lk : K.lookup f = some ⟨oc, od, .func (PySem.W.fnOf x x params (st0 :: body) scope dV kV doc pm an cdv ct), osl⟩) (hcd : PySem.W.codeIn K cdv x = true) (hs : scB ["_law_e", "_law_found"] ["_law_e"] scope = true) (h0 : nilS st0 = true) (hb : kndsB body = some cs)
    (hl : scope.names.lookup ("_law_found" : Str) = some .local) (hg : ∀ c ∈ ("isinstance" : Str) :: cs, glB scope c = true) (hm : mg "isinstance" = none) (few : Ds.length ≤ 900) (hok : ∀ C, ok C → ExcC K C ∧ Paired (KitF K mg C) cs Ds) :
    FnOk P w K mg base CX (k + 1) f (PySem.W.fnOf x x params (st0 :: body) scope dV kV doc pm an cdv ct) ["_law_e"] (spKnd Ds ok) := by
  have S := scB_ok hs
  refine fn_of lk hcd S (fun vs H Q E ⟨e, C, fl, ev, _⟩ => by rw [ev]; rfl) fun A outer s H vs Q E hr ⟨e, C, fl, ev, h1, h2, h3⟩ => ?_
  subst ev
  generalize hX : cxOf CX P w K mg base ["_law_e", "_law_found"] x scope f cdv A outer s H E = X
  obtain ⟨p1, p2, p3, rfl⟩ := nilS_ok h0
  have gl : ∀ y ∈ ("isinstance" : Str) :: cs, Gl X y ∧ (y == ("__debug__" : Str)) = false := fun y hy => by
    obtain ⟨g1, g2⟩ := Bool.and_eq_true_iff.mp (show (decide (scope.names.lookup y = some .globalImplicit) && okN y) = true from hg y hy)
    obtain ⟨g3, _⟩ := Bool.and_eq_true_iff.mp (show (!(y == ("__debug__" : Str)) && !(y == ("__classdict__" : Str))) = true from g2)
    refine ⟨?_, by simpa using g3⟩
    rw [← hX]
    exact (of_decide_eq_true g1 : scope.names.lookup y = some .globalImplicit)
  obtain ⟨hx, hp⟩ := hok C h1
  have run : PSs X body (tKnds X C e fl Ds) := knds_run (by rw [← hX]; exact hx) (by rw [← hX]; rfl) (by
      rw [← hX]
      rcases S.par "_law_e" List.mem_cons_self with z | z
      · exact .inl z
      · exact .inr (.inl z)) (by rw [← hX]; exact hl) (gl _ List.mem_cons_self).1 (by rw [← hX]; exact hm) (by rw [← hX]; rfl) hb (by rw [← hX]; exact hp) fun c hc => gl c (List.mem_cons_of_mem _ hc)
  have first : PS X (.Assign [.Name "_law_found" p1] (.List [] p2) p3) (tAsg (tLst tNil) (gName 1)) := ps_set (i := 1) (by rw [← hX]; exact S.nd) (by rw [← hX]; rfl) (by rw [← hX]; exact .inl hl) (pe_lst pa_nil) (by rfl) (by rw [← hX]; exact .inl rfl)
  refine ⟨_, pss_cons first run, Nat.zero_le _, fun l hl0 => ⟨l, [], ⟨rfl, ?_⟩, rfl, rfl, upd_same, by simp; omega, fun l' H' y1 y2 => h3 l' H' (fun b o z => y1 b o (by rw [upd_ne (ne_of_none z hl0)]; exact z)) (by rw [y2]; rfl)⟩⟩
  obtain ⟨dx, y1, y2⟩ := h2
  exact ⟨dx, by rw [upd_ne (ne_of_none y1 hl0)]; exact y1, fun z => by rw [upd_ne (ne_of_none (y2 z) hl0)]; exact y2 z⟩
end
end RWk
end
section
/-! M15: a lambda of one parameter as a value: made, kept, called. -/
namespace RWk
open PySem PySem.Spec PyProof.Rows L2 LamX
/-- the function object of a lambda that captures nothing -/
def LamO (f c' : Addr) (q : Str) (params : Arguments) (body : Expr) (scope : Scope) : HO := .ext fun h => ∃ pm ctv, h.get? f = some (PySem.W.kla_obj "<lambda>" q params body scope [] pm c' ctv)
theorem lamO_lst {f c' : Addr} {q : Str} {params : Arguments} {body : Expr} {scope : Scope} {xs : List V} : LamO f c' q params body scope ≠ .lst xs := fun z => by
  unfold LamO at z
  cases z
theorem lamO_tbl {f c' : Addr} {q : Str} {params : Arguments} {body : Expr} {scope : Scope} {ps : Array Value} : LamO f c' q params body scope ≠ .tbl ps := fun z => by
  unfold LamO at z
  cases z
/-- a lambda tracked at f -/
def LamAt (H : Hp) (f : Addr) (q : Str) (params : Arguments) (body : Expr) (scope : Scope) : Prop := ∃ c', H f = some (LamO f c' q params body scope) ∧ H c' = some (CodeO c' q)
theorem LamAt.ext {H H' : Hp} {f : Addr} {q : Str} {params : Arguments} {body : Expr} {scope : Scope} (h : LamAt H f q params body scope) (e : ExtN H H') : LamAt H' f q params body scope := by
  obtain ⟨c', h1, h2⟩ := h
  exact ⟨c', e _ _ h1 fun _ => lamO_tbl, e _ _ h2 codeO_ne⟩
theorem clo_none {cells : List (Str × Addr)} : ∀ {names : List (Str × NameKind)} {acc : List (Str × Addr)}, (∀ y ∈ names, y.2 ≠ .free) → cloFrom cells names acc = acc
  | [], _, _ => rfl
  | (n, k) :: r, acc, h => by
    unfold cloFrom
    have hk : (k == .free) = false := by
      have := h (n, k) List.mem_cons_self
      cases k <;> first | rfl | exact absurd rfl this
    rw [hk, if_neg Bool.false_ne_true]
    exact clo_none fun y hy => h y (List.mem_cons_of_mem _ hy)
/-- nothing of the makers' is captured -/
def tLamV (Tb : List (Addr × Str)) (q : Str) (params : Arguments) (body : Expr) (scope : Scope) : TE := fun σ H Q => Tabs Tb H ∧ ∀ f H1, ExtN H H1 → Tabs Tb H1 → H f = none → LamAt H1 f q params body scope → Q (.ref f) H1
section
variable {X : Cx} {c Pl : Addr} {Tb : List (Addr × Str)} {params : Arguments} {body : Expr} {scope : Scope} {pos : Pos}
theorem pe_lamV (TB : TabB X.base X.mg c Pl) (hcode : X.env.code = .ref c) (hm : (Pl, X.env.qual ++ "<lambda>") ∈ Tb) (hu : ∀ p ∈ Tb, p.1 = Pl → p.2 = X.env.qual ++ "<lambda>") (hdef : defaultsOf params X.env = ([], [])) (hnf : ∀ y ∈ scope.names, y.2 ≠ .free) :
    PE X (.Lambda params body scope pos) (tLamV Tb (X.env.qual ++ "<lambda>") params body scope) := by
  refine ⟨fun pins s σ H Q I ⟨hT, h⟩ => ?_⟩
  obtain ⟨ps, hP, ht, ha⟩ := hT _ hm
  have hcl : closureFor scope X.env = pure [] := by
    have z := closure_ok (env := X.env) (scope := scope) fun y hy e => absurd e (hnf y hy)
    rw [clo_none hnf] at z
    exact z
  refine PySem.W.kla_eval hdef ?_
  have bP : s.heap.BuiltinsAt X.mg Pl := TB.bm.keeps I.bk
  have hP' : s.heap.get? Pl = some { cls := .none, data := .fields ps } := I.hok Pl _ hP
  -- the function object is laid and tracked
  have fin : ∀ {H1 : Hp} {h' : Heap} {tk : Nat} {c' : Addr} {pm ctv : Value}, Inv X pins σ H1 { s with heap := h', toks := tk } → ExtN H H1 → Tabs Tb H1 → H h'.objs.size = none → H1 c' = some (CodeO c' (X.env.qual ++ "<lambda>")) →
      EP X pins σ Q (.ref h'.objs.size) { s with heap := h'.push (PySem.W.kla_obj "<lambda>" (X.env.qual ++ "<lambda>") params body scope [] pm c' ctv), toks := tk } := fun {H1 h' tk c' pm ctv} I1 eN T1 nf hco => by
    have fr : H1 h'.objs.size = none := I1.hok.fresh (Nat.le_refl _)
    have I2 : Inv X pins σ (upd H1 h'.objs.size (LamO h'.objs.size c' (X.env.qual ++ "<lambda>") params body scope)) { s with heap := h'.push (PySem.W.kla_obj "<lambda>" (X.env.qual ++ "<lambda>") params body scope [] pm c' ctv), toks := tk } :=
      I1.laid (t' := tk) (fun b u e => Heap.get?_push_of_some _ e) (Nat.le_refl _) ⟨⟨pm, ctv, Heap.get?_push_size _ rfl⟩, ⟨_, Heap.get?_push_size _ rfl⟩, fun h1 h2 ⟨a, b, z⟩ k => ⟨a, b, k _ z⟩⟩
    exact ⟨.ref h'.objs.size, _, I2, rfl, h _ _ (eN.trans (extN_new fr)) (tabs_new T1 fr) nf ⟨c', upd_same, by rw [upd_ne (ne_of_none hco fr)]; exact hco⟩⟩
  cases hc : codeAmong pos ps.toList with
  | none =>
    refine PySem.W.kla_makeFunction (mg := X.mg) (c := c) (P := Pl) (ps := ps) hcl I.ok.glob (I.mod.glob.keeps I.bk) hcode (TB.code.keeps I.bk) hP' ht hc TB.gP bP fun c' ctv h' tk hx hge hlt hrec htb => ?_
    obtain ⟨c2, oc, vs, t, e2, hoc, hd, hv⟩ := hrec
    cases e2
    have hsz : s.heap.objs.size ≤ h'.objs.size := Nat.le_trans hge (Nat.le_of_lt hlt)
    have nC : H c' = none := I.hok.fresh hge
    have I1 := inv_table (t' := tk) (more := #[rawInt pos.line, rawInt pos.col, .ref c']) (h' := h') I hP hx htb hge ⟨oc, vs, t, hoc, hd, hv⟩
    have hE : ExtN H (upd (upd H Pl (.tbl (ps ++ #[rawInt pos.line, rawInt pos.col, .ref c']))) c' (CodeO c' (X.env.qual ++ "<lambda>"))) := fun b o e n => by
      rw [upd_ne (ne_of_none e nC), upd_ne (fun z => n ps (Option.some.inj (e.symm.trans (by rw [z]; exact hP))))]
      exact e
    have eL : (ps ++ #[rawInt pos.line, rawInt pos.col, .ref c']).toList = ps.toList ++ [rawInt pos.line, rawInt pos.col, .ref c'] := by simp
    refine fin I1 hE (fun p hp => ?_) (I.hok.fresh hsz) upd_same
    by_cases hb : p.1 = Pl
    · rw [hu p hp hb, hb]
      refine ⟨_, by rw [upd_ne (ne_of_none hP nC), upd_same], by rw [eL]; exact PySem.TriplesOk_snoc _ _ _ _ ht, fun p' cv hcv => ?_⟩
      rw [eL] at hcv
      rcases among_app _ ht hcv with z | z
      · obtain ⟨c0, e1, e2⟩ := ha p' cv z
        exact ⟨c0, e1, hE _ _ e2 codeO_ne⟩
      · exact ⟨c', z, upd_same⟩
    · obtain ⟨ps', a1, a2, a3⟩ := hT p hp
      refine ⟨ps', by rw [upd_ne (ne_of_none a1 nC), upd_ne hb]; exact a1, a2, fun p' cv hcv => ?_⟩
      obtain ⟨c0, e1, e2⟩ := a3 p' cv hcv
      exact ⟨c0, e1, hE _ _ e2 codeO_ne⟩
  | some cv =>
    obtain ⟨c', e, hco⟩ := ha pos cv hc
    subst e
    refine PySem.W.kla_makeFunctionHit (mg := X.mg) (c := c) (P := Pl) (ps := ps) hcl I.ok.glob (I.mod.glob.keeps I.bk) hcode (TB.code.keeps I.bk) hP' ht hc bP fun ctv h' tk hx hsz => ?_
    exact fin (I.kept (t' := tk) hx) (ExtN.refl H) hT (I.hok.fresh hsz) hco
end
/-! ### such a lambda, called -/
section
variable {P : Program} {w : World} {K : PySem.W.Frag} {mg : Str → Option Value} {base : Heap} {CX : CXT} {k : Nat} {f c' : Addr} {qual : Str} {params : Arguments} {body : Expr} {scope : Scope} {pm ctv : Value} {N ps : List Str}
theorem run_lam {A : Around} {outer : List Env} {s : Shared} {H : Hp} {us : List Value} {vs : List V} {Q : VK} {E : XK} (ho : s.heap.get? f = some (PySem.W.kla_obj "<lambda>" qual params body scope [] pm c' ctv)) (hc : s.heap.CodeRec (.ref c') qual) (S : FnScope N ps scope) (hr : Room (k + 1) A) (e0 : Env0 P w K mg base A outer s H)
    (hb : bindArgs (PySem.W.kla_fn "<lambda>" qual params body scope [] pm (.ref c') ctv) ⟨us, []⟩ = pure (ps.zip us)) (r : Vals vs us) (hl : vs.length = ps.length)
    (hbody : Room k (A.deeper (envOfC qual scope s.heap.objs.size f (.ref c'))) → ∃ t, PE (cxOf CX P w K mg base N qual scope f (.ref c') A outer s H E) body t ∧ t (L2.start N vs) H Q) :
    codeAny (model P w) A (.call (.ref f) ⟨us, []⟩) (CR CX outer P w H s Q E) s := by
  have lim : s.heap.NoLimit := e0.mod.nolimit.keeps fun b o e => (e0.bs b o e).1
  have hkind : ∀ y ∈ ps.zip us, scope.names.lookup y.1 = some .local ∨ (scope.names.lookup y.1 = some .cell ∧ ((cellsFrom (s.heap.objs.size + 1) scope.names []).lookup y.1).isSome = true) := fun ⟨n, v⟩ hy => by
    rcases S.par n (List.of_mem_zip hy).1 with q | q
    · exact .inl q
    · exact .inr ⟨q, PySem.W.cellsFrom_some _ _ _ (.inl q)⟩
  refine PySem.W.kla_callFunE hr.depth ho rfl S.co S.gen rfl hc ?_
  rw [hb]
  refine wpAny_pure (wpAny_newFunctionEnv_cells S.kind hkind fun env he s1 x => ?_)
  subst he
  refine ⟨lim.keeps x.toInCall.keep, ?_⟩
  obtain ⟨t, ht, hq⟩ := hbody (hr.deeper _)
  have I : Inv (cxOf CX P w K mg base N qual scope f (.ref c') A outer s H E) [] (L2.start N vs) H s1 := inv_start S hr.hd e0 hl r x
  show codeAny _ _ (.expr body (envOfC qual scope s.heap.objs.size f (.ref c'))) _ _
  refine PySem.W.kla_codeExpr (wpAny_mono (ht.run [] s1 (L2.start N vs) H Q I hq) (fun u s' hs => ?_) fun e s' hs => hs)
  obtain ⟨v, H', J, rv, q⟩ := hs
  exact ⟨v, H', J.os, J.bare, J.base, J.hok, rv, q⟩
end
section
variable {X : Cx} {k i : Nat} {a : Str} {p pos : Pos} {e : Expr} {te : TE}
/-- a(e), a the lambda that stands at the slot i -/
theorem pe_lamC {q : Str} {params : Arguments} {body : Expr} {scope : Scope} {N : List Str} {y : Str} {tb : TE} (hN : X.N[i]? = some a) (hV : Vis X.env.scope a) (he : PE X e te) (hs : starEach [e] X.env = (false, eval e X.env) :: starEach [] X.env) (hr : Room (k + 1) X.A)
    (S : FnScope N [y] scope) (hpar : params = ⟨[], params.args, none, [], [], none, []⟩ ∧ params.args.map (·.arg) = [y])
    (hbody : ∀ (f c' : Addr) (s : Shared) (H : Hp), PE (cxOf C8.CX0 X.prog X.w X.K X.mg X.base N q scope f (.ref c') X.A X.stack s H C8.E0) body tb) (hd : (a == ("__debug__" : Str)) = false := by decide) (hcd : (a == ("__classdict__" : Str)) = false := by decide) :
    PE X (.Call (.Name a p) [e] [] pos) (fun σ H Q => ∃ f, σ[i]? = some (some (.ref f)) ∧ te σ H fun x H1 => LamAt H1 f q params body scope ∧ tb (L2.start N [x]) H1 Q) := by
  refine ⟨fun pins s σ H Q I ⟨f, hf, h⟩ => ?_⟩
  refine wpAny_Call_Name_kw (thn ((pe_var (pos := p) (i := i) hN hV hd hcd).run pins s σ H (fun v H1 => v = .ref f ∧ H1 = H) I ⟨.ref f, hf, rfl, rfl⟩) fun u s1 ⟨v, H1, I1, r1, q1⟩ => ?_)
  obtain ⟨ev, eH⟩ := q1
  subst ev
  rw [eH] at I1
  obtain rfl : u = Value.ref f := r1
  rw [hs]
  refine PySem.W.callWith_of (P := PySem.W.FnAt f) (by rfl) PySem.W.keeps_F (Calls.evalArgs_plain (Calls.spliced_cons (thn (he.run pins s1 σ H _ I1 h) fun u s2 ⟨x, H2, I2, r2, ⟨c', l1, l2⟩, q2⟩ => Calls.spliced_nil ?_)))
  have x1 : ObjOk X.prog X.w H2 s2.heap f (.ext fun h => ∃ pm ctv, h.get? f = some (PySem.W.kla_obj "<lambda>" q params body scope [] pm c' ctv)) := I2.hok f _ l1
  obtain ⟨⟨pm, ctv, ho⟩, _⟩ := x1
  have x2 : ObjOk X.prog X.w H2 s2.heap c' (.ext fun h => ∃ (oc : Obj) (vs : Array Value) (t : Tok), h.get? c' = some oc ∧ oc.data = .fields vs ∧ vs[1]? = some (.str q t)) := I2.hok c' _ l2
  obtain ⟨⟨oc, vs, t, hoc, hdc, hvc⟩, _⟩ := x2
  have rc : codeAny (model X.prog X.w) X.A (.call (.ref f) ⟨[u], []⟩) (CR C8.CX0 X.stack X.prog X.w H2 s2 Q C8.E0) s2 := by
    refine run_lam (N := N) (ps := [y]) (vs := [x]) ho ⟨c', oc, vs, t, rfl, hoc, hdc, hvc⟩ S hr I2.env0 ?_ (.cons r2 .nil) rfl fun _ => ⟨tb, hbody f c' s2 H2, q2⟩
    obtain ⟨hp1, hp2⟩ := hpar
    have z := bind_all (PySem.W.kla_fn "<lambda>" q params body scope [] pm (.ref c') ctv) [y] [] [u] [] (by show params.posonlyargs = []; rw [hp1]) (by rw [List.append_nil]; exact hp2) (by show params.vararg = none; rw [hp1]) (by show params.kwonlyargs = []; rw [hp1]) (by show params.kwarg = none; rw [hp1]) rfl (by simp) rfl rfl
    simpa using z
  have hc := wpAny_call (Q := EP X pins σ Q) (E := X.xe) (codeAny_mono rc fun r s' hq => by
    cases r with
    | error e => exact (show False from hq).elim
    | ok fl =>
      cases fl with
      | ret u => exact I2.after hq
      | next => exact False.elim hq
      | brk => exact False.elim hq
      | cont => exact False.elim hq)
  exact ⟨⟨_, _, _, _, ho⟩, hc⟩
end
end RWk
end
section
/-! M16: errors made by place and by name, with what they have to keep. -/
namespace RWk
open PySem PySem.Spec PyProof.Rows L2 LamX
abbrev Ext (H H' : Hp) : Prop := ∀ b o, H b = some o → H' b = some o
theorem PE.imp {X : Cx} {e : Expr} {t t' : TE} (h : PE X e t) (i : ∀ σ H Q, t' σ H Q → t σ H Q) : PE X e t' := ⟨fun pins s σ H Q I q => h.run pins s σ H Q I (i σ H Q q)⟩
theorem ext_new {H : Hp} {d : Addr} {o : HO} (e : H d = none) : Ext H (upd H d o) := fun b u z => by rw [upd_ne (ne_of_none z e)]; exact z
/-- the thing itself, or a new list of it -/
def XV (nl : Addr → Prop) (H : Hp) (x : V) : Bool → V → Prop
  | false, v => v = x
  | true, v => ∃ a, v = .ref a ∧ nl a ∧ H a = some (.lst [x])
theorem XV.ext {nl nl' : Addr → Prop} {H H' : Hp} {x : V} {b : Bool} {v : V} (h : XV nl H x b v) (n : ∀ a, nl a → nl' a) (e : ∀ a, nl a → ∀ xs, H a = some (.lst xs) → H' a = some (.lst xs)) : XV nl' H' x b v := by
  cases b with
  | false => exact h
  | true =>
    obtain ⟨a, h1, h2, h3⟩ := h
    exact ⟨a, h1, n a h2, e a h2 _ h3⟩
theorem xvs_ext {nl nl' : Addr → Prop} {H H' : Hp} {x : V} {bs : List Bool} {vs : List V} (h : Paired (XV nl H x) bs vs) (n : ∀ a, nl a → nl' a) (e : ∀ a, nl a → ∀ xs, H a = some (.lst xs) → H' a = some (.lst xs)) : Paired (XV nl' H' x) bs vs := Paired.mapP h fun _ _ z => z.ext n e
/-- x, or [x] -/
def xE : Bool → Expr → Bool
  | false, .Name y _ => y == ("_law_x" : Str)
  | true, .List [.Name y _] _ => y == ("_law_x" : Str)
  | _, _ => false
def xEs : List Bool → List Expr → Bool
  | [], [] => true
  | b :: bs, e :: es => xE b e && xEs bs es
  | _, _ => false
def xKs : List Str → List Bool → List Keyword → Bool
  | [], [], [] => true
  | f :: fs, b :: bs, k :: ks => decide (k.arg = some f) && (xE b k.value && xKs fs bs ks)
  | _, _, _ => false
theorem xE_lst {e : Expr} (h : xE true e = true) : ∃ p1 p2, e = .List [.Name "_law_x" p1] p2 := by
  cases e with
  | List es p => cases es with
    | nil => cases h
    | cons a r => cases r with
      | cons => cases a <;> cases h
      | nil => cases a with
        | Name y q =>
          obtain rfl : y = ("_law_x" : Str) := by simpa [xE] using h
          exact ⟨_, _, rfl⟩
        | _ => cases h
  | _ => cases h
theorem xE_ns {b : Bool} {e : Expr} (h : xE b e = true) : notStar e = true := by
  cases b <;> cases e <;> first | rfl | cases h
def tXs (bs : List Bool) : TA := fun σ H Q => ∃ x, σ[0]? = some (some x) ∧ ∀ vs H', Ext H H' → Paired (XV (fun a => H a = none) H' x) bs vs → Q vs H'
def tX (b : Bool) : TE := fun σ H Q => ∃ x, σ[0]? = some (some x) ∧ ∀ v H', Ext H H' → XV (fun a => H a = none) H' x b v → Q v H'
section
variable {X : Cx}
theorem pe_x (hN : X.N[0]? = some ("_law_x" : Str)) (hV : Vis X.env.scope "_law_x") {b : Bool} {e : Expr} (h : xE b e = true) : PE X e (tX b) := by
  cases b with
  | false =>
    cases e with
    | Name y p =>
      obtain rfl : y = ("_law_x" : Str) := by simpa [xE] using h
      exact PE.imp (pe_var hN hV) fun σ H Q ⟨x, h1, h2⟩ => ⟨x, h1, h2 x H (fun _ _ z => z) rfl⟩
    | _ => cases h
  | true =>
    obtain ⟨p1, p2, rfl⟩ := xE_lst h
    refine PE.imp (pe_lst (pos := p2) (pa_cons (pe_var (pos := p1) hN hV) pa_nil)) fun σ H Q ⟨x, h1, h2⟩ => ⟨x, h1, by show 1 ≤ sizeLine; rw [sizeLine_eq]; decide, fun p hp => ?_⟩
    exact h2 _ _ (ext_new hp) ⟨p, rfl, hp, upd_same⟩
theorem xs_step {bs : List Bool} {b : Bool} {σ : L2.St} {H : Hp} {x : V} {Q : List V → Hp → Prop} (h0 : σ[0]? = some (some x)) (h : ∀ vs H', Ext H H' → Paired (XV (fun a => H a = none) H' x) (b :: bs) vs → Q vs H') :
    tX b σ H fun v H1 => tXs bs σ H1 fun vs H2 => Q (v :: vs) H2 :=
  ⟨x, h0, fun v H1 e1 q1 => ⟨x, h0, fun vs H2 e2 q2 => h (v :: vs) H2 (fun c o z => e2 c o (e1 c o z)) (.cons (q1.ext (fun _ z => z) fun a _ xs z => e2 a _ z) (xvs_ext q2 (fun a z => by
    cases q : H a with
    | none => rfl
    | some o =>
      have z2 := e1 a o q
      have z : H1 a = none := z
      rw [z] at z2
      cases z2) fun a _ xs z => z))⟩⟩
theorem pa_xs (hN : X.N[0]? = some ("_law_x" : Str)) (hV : Vis X.env.scope "_law_x") : ∀ {bs : List Bool} {es : List Expr}, xEs bs es = true → PA X es (tXs bs)
  | [], [], _ => ⟨fun pos pins s σ H Q I ⟨x, h0, h⟩ => Calls.spliced_nil ⟨[], H, I, .nil, h [] H (fun _ _ z => z) .nil⟩⟩
  | b :: bs, e :: es, h => by
    obtain ⟨h1, h2⟩ := Bool.and_eq_true_iff.mp (show (xE b e && xEs bs es) = true from h)
    have hh := pa_cons (pe_x hN hV h1) (pa_xs hN hV h2) (starEach_ns (xE_ns h1))
    exact ⟨fun pos pins s σ H Q I ⟨x, h0, h⟩ => hh.run pos pins s σ H Q I (xs_step h0 h)⟩
  | [], _ :: _, h => by cases h
  | _ :: _, [], h => by cases h
theorem pk_xs (hN : X.N[0]? = some ("_law_x" : Str)) (hV : Vis X.env.scope "_law_x") : ∀ {fs : List Str} {bs : List Bool} {ks : List Keyword}, xKs fs bs ks = true → PK X ks (tXs bs)
  | [], [], [], _ => ⟨fun pos pins s σ H Q I ⟨x, h0, h⟩ => wpAny_evalAll_nil ⟨[], H, I, .nil, h [] H (fun _ _ z => z) .nil⟩⟩
  | f :: fs, b :: bs, ⟨ka, e, kp⟩ :: ks, h => by
    obtain ⟨h1, h2⟩ := Bool.and_eq_true_iff.mp (show (decide (ka = some f) && (xE b e && xKs fs bs ks)) = true from h)
    obtain ⟨h3, h4⟩ := Bool.and_eq_true_iff.mp h2
    have hh := pk_cons (nm := ka) (kpos := kp) (pe_x hN hV h3) (pk_xs hN hV h4)
    exact ⟨fun pos pins s σ H Q I ⟨x, h0, h⟩ => hh.run pos pins s σ H Q I (xs_step h0 h)⟩
  | [], [], _ :: _, h => by cases h
  | [], _ :: _, _, h => by cases h
  | _ :: _, [], _, h => by cases h
  | _ :: _, _ :: _, [], h => by cases h
theorem xKs_names {env : Env} {pos : Pos} : ∀ {fs : List Str} {bs : List Bool} {ks : List Keyword}, xKs fs bs ks = true → (backToKw pos (keywordEach ks env)).all (·.1.isSome) = true ∧ (backToKw pos (keywordEach ks env)).filterMap (·.1) = fs ∧
    ((backTo pos (starEach [] env)).any (·.1) || (backToKw pos (keywordEach ks env)).any (·.1.isNone)) = false
  | [], [], [], _ => ⟨rfl, rfl, rfl⟩
  | f :: fs, b :: bs, ⟨ka, e, kp⟩ :: ks, h => by
    obtain ⟨h1, h2⟩ := Bool.and_eq_true_iff.mp (show (decide (ka = some f) && (xE b e && xKs fs bs ks)) = true from h)
    have ha : ka = some f := of_decide_eq_true h1
    subst ha
    obtain ⟨i1, i2, i3⟩ := xKs_names (env := env) (pos := pos) (Bool.and_eq_true_iff.mp h2).2
    refine ⟨?_, ?_, ?_⟩
    · show (true && (backToKw pos (keywordEach ks env)).all (·.1.isSome)) = true
      rw [i1]
      rfl
    · show f :: (backToKw pos (keywordEach ks env)).filterMap (·.1) = f :: fs
      rw [i2]
    · show (false || (false || (backToKw pos (keywordEach ks env)).any (·.1.isNone))) = false
      have i3 : (false || (backToKw pos (keywordEach ks env)).any (·.1.isNone)) = false := i3
      rw [i3]
      rfl
  | [], [], _ :: _, h => by cases h
  | [], _ :: _, _, h => by cases h
  | _ :: _, [], _, h => by cases h
  | _ :: _, _ :: _, [], h => by cases h
/-- a new error of the class at C that keeps the things -/
def tMk (C : Addr) (fs : List Str) (bs : List Bool) : TE := fun σ H Q => ∃ x, σ[0]? = some (some x) ∧ ∀ e vs H', Ext H H' → H e = none → ErAt H' e C (flOf fs vs) → Paired (XV (fun a => H a = none) H' x) bs vs → Q (.ref e) H'
theorem tMk_of {C : Addr} {fs : List Str} {bs : List Bool} (l : bs.length = fs.length) {σ : L2.St} {H : Hp} {Q : VK} (h : tMk C fs bs σ H Q) : tErr C fs (tXs bs) σ H Q := by
  obtain ⟨x, h0, h⟩ := h
  refine ⟨x, h0, fun vs H' e1 q1 => ⟨by rw [← Paired.length q1]; exact l, fun e dx n1 n2 ne => ?_⟩⟩
  have up : Ext H' (erU H' e C dx (flOf fs vs)) := fun b o z => erU_old n1 n2 z
  refine h e vs _ (fun b o z => up b o (e1 b o z)) ?_ (erU_at ne) (xvs_ext q1 (fun _ z => z) fun a _ xs z => up a _ z)
  cases q : H e with
  | none => rfl
  | some o =>
    have z := e1 e o q
    rw [n1] at z
    cases z
/-- C(x, ..), C(f = x, ..) -/
def mkE (c : Str) (fs : List Str) (bs : List Bool) : Expr → Bool
  | .Call (.Name y _) args [] _ => y == c && xEs bs args
  | .Call (.Name y _) [] ks _ => y == c && xKs fs bs ks
  | _ => false
theorem pe_mk {C fI : Addr} {c : Str} {fs : List Str} {bs : List Bool} (W : Wd X) (T : ErrC X.prog.main.file X.K C fI fs) (deep : X.A.depth + 1 < recursionLimit) (hg : Gl X c) (hm : X.mg c = some (.ref C)) (hdb : (c == ("__debug__" : Str)) = false) (l : bs.length = fs.length)
    (hN : X.N[0]? = some ("_law_x" : Str)) (hV : Vis X.env.scope "_law_x") {e : Expr} (h : mkE c fs bs e = true) : PE X e (tMk C fs bs) := by
  unfold mkE at h
  split at h
  · rename_i y p args pos
    obtain ⟨h1, h2⟩ := Bool.and_eq_true_iff.mp h
    obtain rfl : y = c := by simpa using h1
    cases args with
    | nil =>
      cases bs with
      | cons => cases h2
      | nil =>
        have e0 : fs = [] := List.length_eq_zero_iff.mp l.symm
        subst e0
        refine PE.imp (pe_err0 W T deep hg hm hdb) fun σ H Q q => ?_
        obtain ⟨_, h0, hh⟩ := q
        refine ⟨rfl, fun e dx n1 n2 ne => hh e [] _ (fun b o z => erU_old n1 n2 z) n1 (erU_at ne) .nil⟩
    | cons e0 es =>
      have hns : ∀ {bs : List Bool} {es : List Expr}, xEs bs es = true → (backTo pos (starEach es X.env)).any (·.1) = false := by
        intro bs es
        induction es generalizing bs with
        | nil => intro _; rfl
        | cons a r ih =>
          intro hh
          cases bs with
          | nil => cases hh
          | cons b bs =>
            obtain ⟨a1, a2⟩ := Bool.and_eq_true_iff.mp (show (xE b a && xEs bs r) = true from hh)
            rw [starEach_ns (xE_ns a1)]
            show (false || (backTo pos (starEach r X.env)).any (·.1)) = false
            rw [ih a2]
            rfl
      cases bs with
      | nil => cases h2
      | cons b bs =>
        obtain ⟨a1, a2⟩ := Bool.and_eq_true_iff.mp (show (xE b e0 && xEs bs es) = true from h2)
        exact PE.imp (pe_errP W T deep hg hm (pa_xs hN hV h2) hdb (starEach_ns (xE_ns a1)) (hns a2)) fun σ H Q q => tMk_of l q
  · rename_i y p ks pos _
    obtain ⟨h1, h2⟩ := Bool.and_eq_true_iff.mp h
    obtain rfl : y = c := by simpa using h1
    obtain ⟨k1, k2, k3⟩ := xKs_names (env := X.env) (pos := pos) h2
    exact PE.imp (pe_errK W T deep hg hm (pk_xs hN hV h2) hdb k2 k1 k3) fun σ H Q q => tMk_of l q
  · cases h
end
end RWk
end
section
/-! M17: the defs that make the errors. -/
namespace RWk
open PySem PySem.Spec PyProof.Rows L2 LamX
def kd (fs : List Str) : List Bool := [false, true].take fs.length
theorem kd_len {fs : List Str} (h : fs.length ≤ 2) : (kd fs).length = fs.length := by
  unfold kd
  rw [List.length_take]
  exact Nat.min_eq_left h
/-- [e.f, ..] -/
def attrsB : List Str → List Expr → Bool
  | [], [] => true
  | f :: fs, .Attribute (.Name y _) g _ :: es => y == ("_law_e" : Str) && (g == f && attrsB fs es)
  | _, _ => false
/-- lambda e: [e.f, ..] -/
def lamX (fs : List Str) (params : Arguments) (lb : Expr) (lsc : Scope) : Bool :=
  (params.posonlyargs.isEmpty && (params.vararg.isNone && (params.kwonlyargs.isEmpty && (params.kw_defaults.isEmpty && (params.kwarg.isNone && params.defaults.isEmpty))))) && (decide (params.args.map (·.arg) = [("_law_e" : Str)]) &&
    ((match lb with
      | .List es _ => attrsB fs es
      | _ => false) && scB ["_law_e"] ["_law_e"] lsc))
def madeE (c : Str) (fs : List Str) : Expr → Bool
  | .Tuple [a, b, .Lambda params lb lsc _, .List ds _] _ _ => (mkE c fs (kd fs) a && notStar a) && ((mkE c fs (kd fs) b && notStar b) && (lamX fs params lb lsc && xEs (kd fs) ds))
  | _ => false
theorem madeE_ok {c : Str} {fs : List Str} {e : Expr} (h : madeE c fs e = true) : ∃ a b params lb lsc p1 ds p2 k p3, e = .Tuple [a, b, .Lambda params lb lsc p1, .List ds p2] k p3 ∧ (mkE c fs (kd fs) a = true ∧ notStar a = true) ∧ (mkE c fs (kd fs) b = true ∧ notStar b = true) ∧ lamX fs params lb lsc = true ∧ xEs (kd fs) ds = true := by
  unfold madeE at h
  split at h
  · simp only [Bool.and_eq_true] at h
    obtain ⟨h1, h2, h3, h4⟩ := h
    exact ⟨_, _, _, _, _, _, _, _, _, _, rfl, h1, h2, h3, h4⟩
  · cases h
/-- one such: the two errors, the lambda, what is due -/
def MadeIt (nl : Addr → Prop) (H : Hp) (x : V) (C : Addr) (fs : List Str) (v : V) : Prop := ∃ (T ea eb f du : Addr) (va vb vd : List V) (q : Str) (params : Arguments) (lb : Expr) (lsc : Scope), v = .ref T ∧ H T = some (.tup [.ref ea, .ref eb, .ref f, .ref du]) ∧
  ErAt H ea C (flOf fs va) ∧ Paired (XV nl H x) (kd fs) va ∧ ErAt H eb C (flOf fs vb) ∧ Paired (XV nl H x) (kd fs) vb ∧ LamAt H f q params lb lsc ∧ lamX fs params lb lsc = true ∧ nl du ∧ H du = some (.lst vd) ∧ Paired (XV nl H x) (kd fs) vd
/-- all but the list at l and the tables stay -/
def ExtL (l : Addr) (H H' : Hp) : Prop := ∀ b o, H b = some o → (∀ ps, o ≠ .tbl ps) → b ≠ l → H' b = some o
theorem erO_lst {e C dx : Addr} {fl : List (Str × V)} {xs : List V} : erO e C dx fl ≠ .lst xs := fun z => by
  have z' : HO.ext _ = HO.lst xs := z
  cases z'
theorem erO_tbl {e C dx : Addr} {fl : List (Str × V)} {xs : Array Value} : erO e C dx fl ≠ .tbl xs := fun z => by
  have z' : HO.ext _ = HO.tbl xs := z
  cases z'
theorem exd_lst {dx : Addr} {fl : List (Str × V)} {xs : List V} : exd dx fl ≠ .lst xs := fun z => by
  have z' : HO.ext _ = HO.lst xs := z
  cases z'
theorem exd_tbl {dx : Addr} {fl : List (Str × V)} {xs : Array Value} : exd dx fl ≠ .tbl xs := fun z => by
  have z' : HO.ext _ = HO.tbl xs := z
  cases z'
theorem ErAt.extN {H H' : Hp} {e C : Addr} {fl : List (Str × V)} (h : ErAt H e C fl) (x : ExtN H H') : ErAt H' e C fl := by
  obtain ⟨dx, h1, h2⟩ := h
  exact ⟨dx, x _ _ h1 fun _ => erO_tbl, fun z => x _ _ (h2 z) fun _ => exd_tbl⟩
theorem ErAt.extL {l : Addr} {H H' : Hp} {e C : Addr} {fl : List (Str × V)} {xs : List V} (h : ErAt H e C fl) (hl : H l = some (.lst xs)) (x : ExtL l H H') : ErAt H' e C fl := by
  obtain ⟨dx, h1, h2⟩ := h
  exact ⟨dx, x _ _ h1 (fun _ => erO_tbl) (ne_of h1 hl erO_lst), fun z => x _ _ (h2 z) (fun _ => exd_tbl) (ne_of (h2 z) hl exd_lst)⟩
theorem LamAt.extL {l : Addr} {H H' : Hp} {f : Addr} {q : Str} {params : Arguments} {body : Expr} {scope : Scope} {xs : List V} (h : LamAt H f q params body scope) (hl : H l = some (.lst xs)) (x : ExtL l H H') : LamAt H' f q params body scope := by
  obtain ⟨c', h1, h2⟩ := h
  exact ⟨c', x _ _ h1 (fun _ => lamO_tbl) (ne_of h1 hl lamO_lst), x _ _ h2 codeO_ne (ne_of h2 hl codeO_lst)⟩
theorem MadeIt.extL {l : Addr} {H H' : Hp} {x : V} {C : Addr} {fs : List Str} {v : V} {xs : List V} (h : MadeIt (· ≠ l) H x C fs v) (hl : H l = some (.lst xs)) (e : ExtL l H H') : MadeIt (· ≠ l) H' x C fs v := by
  obtain ⟨T, ea, eb, f, du, va, vb, vd, q, params, lb, lsc, h1, h2, h3, h4, h5, h6, h7, h8, h9, h10, h11⟩ := h
  have xe : ∀ a, a ≠ l → ∀ xs, H a = some (.lst xs) → H' a = some (.lst xs) := fun a n xs z => e _ _ z (fun _ y => by cases y) n
  exact ⟨T, ea, eb, f, du, va, vb, vd, q, params, lb, lsc, h1, e _ _ h2 (fun _ y => by cases y) (ne_of h2 hl fun y => by cases y), h3.extL hl e, xvs_ext h4 (fun _ z => z) xe, h5.extL hl e, xvs_ext h6 (fun _ z => z) xe, h7.extL hl e, h8, h9, xe _ h9 _ h10, xvs_ext h11 (fun _ z => z) xe⟩
theorem MadeIt.extN {nl nl' : Addr → Prop} {H H' : Hp} {x : V} {C : Addr} {fs : List Str} {v : V} (h : MadeIt nl H x C fs v) (n : ∀ a, nl a → nl' a) (e : ExtN H H') : MadeIt nl' H' x C fs v := by
  obtain ⟨T, ea, eb, f, du, va, vb, vd, q, params, lb, lsc, h1, h2, h3, h4, h5, h6, h7, h8, h9, h10, h11⟩ := h
  have xe : ∀ a, nl a → ∀ xs, H a = some (.lst xs) → H' a = some (.lst xs) := fun a _ xs z => e _ _ z (fun _ y => by cases y)
  exact ⟨T, ea, eb, f, du, va, vb, vd, q, params, lb, lsc, h1, e _ _ h2 (fun _ y => by cases y), h3.extN e, xvs_ext h4 n xe, h5.extN e, xvs_ext h6 n xe, h7.ext e, h8, n _ h9, e _ _ h10 (fun _ y => by cases y), xvs_ext h11 n xe⟩
/-- the reading of an item -/
def tItem (Tb : List (Addr × Str)) (C : Addr) (fs : List Str) : TE := fun σ H Q => ∃ x, σ[0]? = some (some x) ∧ Tabs Tb H ∧ ∀ v H', ExtN H H' → Tabs Tb H' → MadeIt (Fr0 H) H' x C fs v → Q v H'
theorem none_of_ext {H H' : Hp} {a : Addr} (e : Ext H H') (h : H' a = none) : H a = none := by
  cases q : H a with
  | none => rfl
  | some o =>
    have z := e a o q
    rw [h] at z
    cases z
section
variable {X : Cx} {c Pl : Addr} {Tb : List (Addr × Str)}
theorem pe_item {C fI : Addr} {cn : Str} {fs : List Str} (W : Wd X) (T : ErrC X.prog.main.file X.K C fI fs) (deep : X.A.depth + 1 < recursionLimit) (hg : Gl X cn) (hm : X.mg cn = some (.ref C)) (hdb : (cn == ("__debug__" : Str)) = false)
    (hN : X.N[0]? = some ("_law_x" : Str)) (hV : Vis X.env.scope "_law_x") (TB : TabB X.base X.mg c Pl) (hcode : X.env.code = .ref c) (hmT : (Pl, X.env.qual ++ "<lambda>") ∈ Tb) (hu : ∀ p ∈ Tb, p.1 = Pl → p.2 = X.env.qual ++ "<lambda>") {e : Expr} (h : madeE cn fs e = true) : PE X e (tItem Tb C fs) := by
  obtain ⟨a, b, params, lb, lsc, p1, ds, p2, k, p3, rfl, ⟨a1, a2⟩, ⟨b1, b2⟩, l1, d1⟩ := madeE_ok h
  have hlen := kd_len T.few
  have l2 := l1
  unfold lamX at l2
  obtain ⟨l3, l4⟩ := Bool.and_eq_true_iff.mp l2
  obtain ⟨l5, l6⟩ := Bool.and_eq_true_iff.mp l4
  obtain ⟨l7, l8⟩ := Bool.and_eq_true_iff.mp l6
  have S := scB_ok l8
  simp only [Bool.and_eq_true, List.isEmpty_iff, Option.isNone_iff_eq_none] at l3
  obtain ⟨m1, m2, m3, m4, m5, m6⟩ := l3
  have hdef : defaultsOf params X.env = ([], []) := by
    obtain ⟨x1, x2, x3, x4, x5, x6, x7⟩ := params
    simp only at m4 m6
    subst m4 m6
    rfl
  have ma := pe_mk W T deep hg hm hdb hlen hN hV a1
  have mb := pe_mk W T deep hg hm hdb hlen hN hV b1
  have ml := pe_lamV (pos := p1) (body := lb) (scope := lsc) TB hcode hmT hu hdef fun y hy => S.nofree y hy
  have md := pe_lst (pos := p2) (pa_xs hN hV d1)
  have hh := pe_tup (x1 := k) (pos := p3) (pa_cons ma (pa_cons mb (pa_cons ml (pa_cons md pa_nil (by rfl)) (by rfl)) (starEach_ns b2)) (starEach_ns a2))
  refine PE.imp hh fun σ H Q ⟨x, h0, t0, hq⟩ => ⟨x, h0, fun ea va H1 e1 n1 er1 xv1 => ⟨x, h0, fun eb vb H2 e2 n2 er2 xv2 => ?_⟩⟩
  have t2 : Tabs Tb H2 := (t0.ext e1).ext e2
  refine ⟨t2, fun f H3 e3 t3 n3 lam3 => ⟨x, h0, fun vd H4 e4 xv4 => ⟨?_, fun du hdu => ⟨?_, fun p hp => ?_⟩⟩⟩⟩
  · rw [← Paired.length xv4, hlen, sizeLine_eq]
    have := T.few
    omega
  · show 4 ≤ sizeLine
    rw [sizeLine_eq]
    decide
  · have e5 : Ext H4 (upd H4 du (.lst vd)) := ext_new hdu
    have e6 : Ext (upd H4 du (.lst vd)) (upd (upd H4 du (.lst vd)) p (.tup [.ref ea, .ref eb, .ref f, .ref du])) := ext_new hp
    have x46 : Ext H4 (upd (upd H4 du (.lst vd)) p (.tup [.ref ea, .ref eb, .ref f, .ref du])) := fun b o z => e6 b o (e5 b o z)
    have x26 : ExtN H2 (upd (upd H4 du (.lst vd)) p (.tup [.ref ea, .ref eb, .ref f, .ref du])) := e3.trans (ExtN.of fun b o z => x46 b o (e4 b o z))
    have x16 : ExtN H1 (upd (upd H4 du (.lst vd)) p (.tup [.ref ea, .ref eb, .ref f, .ref du])) := (ExtN.of e2).trans x26
    have x06 : ExtN H (upd (upd H4 du (.lst vd)) p (.tup [.ref ea, .ref eb, .ref f, .ref du])) := (ExtN.of e1).trans x16
    have up : ∀ {a : Addr} {xs : List V} {G : Hp}, ExtN G (upd (upd H4 du (.lst vd)) p (.tup [.ref ea, .ref eb, .ref f, .ref du])) → G a = some (.lst xs) → upd (upd H4 du (.lst vd)) p (.tup [.ref ea, .ref eb, .ref f, .ref du]) a = some (.lst xs) := fun x z => x _ _ z fun _ y => by cases y
    have f3 : ∀ a, H3 a = none → Fr0 H a := fun a z o q => by
      cases o with
      | tbl ps => exact ⟨ps, rfl⟩
      | _ =>
        have y := ((ExtN.of e1).trans ((ExtN.of e2).trans e3)) a _ q fun ps w => by cases w
        rw [z] at y
        cases y
    refine hq (.ref p) _ x06 ((t3.ext e4).ext x46) ⟨p, ea, eb, f, du, va, vb, vd, _, params, lb, lsc, rfl, upd_same, er1.extN x16, xvs_ext xv1 (fun _ z => fr0_none z) fun a _ xs z => up x16 z, er2.extN x26, xvs_ext xv2 (fun a z => fr0_none (none_of_ext e1 z)) fun a _ xs z => up x26 z,
      lam3.ext (ExtN.of fun b o z => x46 b o (e4 b o z)), l1, f3 du (none_of_ext e4 hdu), ?_, ?_⟩
    · rw [upd_ne (ne_of_none upd_same hp)]
      exact upd_same
    · exact xvs_ext xv4 (fun a z => f3 a z) fun a _ xs z => x46 _ _ z
end
/-! ### the def -/
abbrev Spc := Str × List Str
def itemsMB : List Spc → List Stmt → Bool
  | [], [st] => retS st
  | (c, fs) :: r, st :: b => (match appS st with
    | some e => notStar e && madeE c fs e
    | none => false) && itemsMB r b
  | _, _ => false
theorem itemsMB_at : ∀ {sp : List Spc} {b : List Stmt}, itemsMB sp b = true → b.length = sp.length + 1 ∧ ∀ (i : Nat) (st : Stmt), b[i]? = some st → (i + 1 = b.length → retS st = true) ∧ (i + 1 < b.length → ∃ e c fs, sp[i]? = some (c, fs) ∧ appS st = some e ∧ notStar e = true ∧ madeE c fs e = true)
  | [], [], h => by cases h
  | [], [st], h => ⟨rfl, fun i st' hi => by
    cases i with
    | zero =>
      cases hi
      exact ⟨fun _ => h, fun z => by simp at z⟩
    | succ i => cases hi⟩
  | [], _ :: _ :: _, h => by cases h
  | _ :: _, [], h => by cases h
  | (c, fs) :: r, st :: b, h => by
    obtain ⟨h1, h2⟩ := Bool.and_eq_true_iff.mp (show ((match appS st with
      | some e => notStar e && madeE c fs e
      | none => false) && itemsMB r b) = true from h)
    obtain ⟨l, ih⟩ := itemsMB_at h2
    refine ⟨by simp [l], fun i st' hi => ?_⟩
    cases i with
    | zero =>
      cases hi
      refine ⟨fun z => by simp [l] at z, fun _ => ?_⟩
      cases q : appS st with
      | none =>
        rw [q] at h1
        cases h1
      | some e =>
        rw [q] at h1
        obtain ⟨x1, x2⟩ := Bool.and_eq_true_iff.mp h1
        exact ⟨e, c, fs, rfl, rfl, x1, x2⟩
    | succ i =>
      obtain ⟨a1, a2⟩ := ih i st' hi
      refine ⟨fun z => a1 (by simp at z ⊢; omega), fun z => ?_⟩
      obtain ⟨e, c, fs, y1, y2⟩ := a2 (by simp at z ⊢; omega)
      exact ⟨e, c, fs, y1, y2⟩
/-- the class of a spec -/
def SpcF (main : Str) (K : PySem.W.Frag) (mg : Str → Option Value) (p : Spc) (C : Addr) : Prop := mg p.1 = some (.ref C) ∧ ∃ fI, ErrC main K C fI p.2
/-- the items so far -/
def Items (nl : Addr → Prop) (H : Hp) (x : V) (sp : List Spc) (Cs : List Addr) (vs : List V) : Prop := ∀ (i : Nat) (v : V), vs[i]? = some v → ∃ c fs C, sp[i]? = some (c, fs) ∧ Cs[i]? = some C ∧ MadeIt nl H x C fs v
def spMade (Tb : List (Addr × Str)) (sp : List Spc) (Cs : List Addr) : Sp := fun vs H Q _ => ∃ x, vs = [x] ∧ Tabs Tb H ∧ ∀ l ls H', ExtN H H' → H l = none → Tabs Tb H' → ls.length = sp.length → H' l = some (.lst ls) → Items (· ≠ l) H' x sp Cs ls → Q (.ref l) H'
def madeJ (x : V) (H0 : Hp) (Tb : List (Addr × Str)) (sp : List Spc) (Cs : List Addr) : Addr → List V → Hp → Prop := fun l xs H => H0 l = none ∧ ExtN H0 H ∧ Tabs Tb H ∧ Items (· ≠ l) H x sp Cs xs
section
variable {P : Program} {w : World} {K : PySem.W.Frag} {mg : Str → Option Value} {base : Heap} {c Pl : Addr} {k : Nat} {Tb : List (Addr × Str)} {f : Addr} {x : Str} {params : Arguments} {body : List Stmt} {st0 : Stmt} {scope : Scope} {dV kV doc pm ct oc : Value} {an od : Option Addr} {osl : Array (Option Value)} {sp : List Spc} {Cs : List Addr}
theorem fnMade {CX : CXT} (lk : K.lookup f = some ⟨oc, od, .func (PySem.W.fnOf x x params (st0 :: body) scope dV kV doc pm an (.ref c) ct), osl⟩) (hcd : PySem.W.codeIn K (.ref c) x = true) (hs : scB ["_law_x", "_law_found"] ["_law_x"] scope = true)
    (h0 : nilS st0 = true) (hb : itemsMB sp body = true) (few : sp.length ≤ 900) (hl : scope.names.lookup ("_law_found" : Str) = some .local) (hg : ∀ p ∈ sp, glB scope p.1 = true) (hC : Paired (SpcF P.main.file K mg) sp Cs)
    (sup : mg "super" = none) (top : (P.main.scope.names.lookup ("super" : Str)).isSome = false) (TB : TabB base mg c Pl) (hmT : (Pl, x ++ ".<locals>." ++ "<lambda>") ∈ Tb) (hu : ∀ p ∈ Tb, p.1 = Pl → p.2 = x ++ ".<locals>." ++ "<lambda>") :
    FnOk P w K mg base CX (k + 2) f (PySem.W.fnOf x x params (st0 :: body) scope dV kV doc pm an (.ref c) ct) ["_law_x"] (spMade Tb sp Cs) := by
  have S := scB_ok hs
  refine fn_of lk hcd S (fun vs H Q E ⟨v, ev, _⟩ => by rw [ev]; rfl) fun A outer s H vs Q E hr ⟨v, ev, htb, hq⟩ => ?_
  subst ev
  generalize hX : cxOf CX P w K mg base ["_law_x", "_law_found"] x scope f (.ref c) A outer s H E = X
  have n0 : X.N[0]? = some ("_law_x" : Str) := by rw [← hX]; rfl
  have n1 : X.N[1]? = some ("_law_found" : Str) := by rw [← hX]; rfl
  have v0 : Vis X.env.scope "_law_x" := by
    rw [← hX]
    rcases S.par "_law_x" List.mem_cons_self with z | z
    · exact .inl z
    · exact .inr (.inl z)
  have v1 : Vis X.env.scope "_law_found" := by rw [← hX]; exact .inl hl
  obtain ⟨p1, p2, p3, rfl⟩ := nilS_ok h0
  obtain ⟨hb1, hb2⟩ := itemsMB_at hb
  have at_ : ∀ {sp : List Spc} {Cs : List Addr} {i : Nat} {p : Spc}, Paired (SpcF P.main.file K mg) sp Cs → sp[i]? = some p → ∃ C, Cs[i]? = some C ∧ SpcF P.main.file K mg p C := by
    intro sp Cs i p h
    induction h generalizing i with
    | nil => intro z; simp at z
    | cons r _ ih =>
      intro z
      cases i with
      | zero =>
        cases z
        exact ⟨_, rfl, r⟩
      | succ i => exact ih (by simpa using z)
  have run : PSs X body (tApps v (madeJ v H Tb sp Cs) 0 sp.length) := by
    refine apps_run n1 v1 (n := 0) (m := sp.length) (by omega) (Nat.zero_le _) fun i st hi => ?_
    obtain ⟨a1, a2⟩ := hb2 i st hi
    refine ⟨a1, fun z => ?_⟩
    obtain ⟨e, cn, fs, b0, b1, b2, b3⟩ := a2 z
    obtain ⟨C, hC1, hm, fI, T⟩ := at_ hC b0
    obtain ⟨g1, g2⟩ := Bool.and_eq_true_iff.mp (show (decide (scope.names.lookup cn = some .globalImplicit) && okN cn) = true from hg (cn, fs) (List.mem_of_getElem? b0))
    obtain ⟨g3, _⟩ := Bool.and_eq_true_iff.mp (show (!(cn == ("__debug__" : Str)) && !(cn == ("__classdict__" : Str))) = true from g2)
    have dp : X.A.depth + 1 < recursionLimit := by
      rw [← hX]
      have := hr.dp
      show (A.deeper (envOfC x scope s.heap.objs.size f (.ref c))).depth + 1 < recursionLimit
      omega
    have pi := pe_item (X := X) (c := c) (Pl := Pl) (Tb := Tb) (C := C) (fI := fI) (cn := cn) (fs := fs) (by rw [← hX]; exact ⟨sup, top⟩) (by rw [← hX]; exact T) dp (by rw [← hX]; exact (of_decide_eq_true g1 : scope.names.lookup cn = some .globalImplicit)) (by rw [← hX]; exact hm) (by simpa using g3) n0 v0
      (by rw [← hX]; exact TB) (by rw [← hX]; rfl) (by rw [← hX]; exact hmT) (by rw [← hX]; exact hu) b3
    refine ⟨e, _, b1, b2, pi, fun σ H1 l xs e1 e2 e3 e4 ⟨j1, j2, j3, j4⟩ R hR => ⟨v, e1, j3, fun y H2 x1 x2 mi => ?_⟩⟩
    have e5 : H2 l = some (.lst xs) := x1 _ _ e3 fun _ z => by cases z
    have el : ExtL l H2 (upd H2 l (.lst (xs ++ [y]))) := fun b o z _ n => by rw [upd_ne n]; exact z
    refine hR y H2 e5 ⟨j1, fun b o z nt => ?_, tabs_set x2 e5, fun j v' hj => ?_⟩
    · rw [upd_ne (fun q => by rw [q, j1] at z; cases z)]
      exact x1 b o (j2 b o z nt) nt
    · by_cases hjl : j < xs.length
      · rw [List.getElem?_append_left hjl] at hj
        obtain ⟨c0, fs0, C0, y1, y2, y3⟩ := j4 j v' hj
        exact ⟨c0, fs0, C0, y1, y2, (y3.extN (fun _ z => z) x1).extL e5 el⟩
      · have hj' : j = xs.length := by
          have := (List.getElem?_eq_some_iff.mp hj).1
          simp at this
          omega
        subst hj'
        rw [List.getElem?_append_right (Nat.le_refl _)] at hj
        simp at hj
        subst hj
        refine ⟨cn, fs, C, by rw [e4]; simpa using b0, by rw [e4]; simpa using hC1, (mi.extN (fun a z => ?_) (ExtN.refl H2)).extL e5 el⟩
        intro q
        rw [q] at z
        obtain ⟨ps, w⟩ := z _ e3
        cases w
  have first : PS X (.Assign [.Name "_law_found" p1] (.List [] p2) p3) (tAsg (tLst tNil) (gName 1)) := ps_set (i := 1) (by rw [← hX]; exact S.nd) n1 (by rw [← hX]; exact .inl hl) (pe_lst pa_nil) (by rfl) (by rw [← hX]; exact .inl rfl)
  refine ⟨_, pss_cons first run, Nat.zero_le _, fun l hl0 => ⟨l, [], rfl, rfl, upd_same, rfl, by omega, ⟨hl0, extN_new hl0, tabs_new htb hl0, fun i v' hi => by simp at hi⟩, fun xs' H' l' h1 ⟨j1, j2, j3, j4⟩ => hq l xs' H' j2 j1 j3 l' h1 j4⟩⟩
end
end RWk
end
section
/-! M18: whether an error is of its own class alone. -/
namespace RWk
open PySem PySem.Spec PyProof.Rows L2 LamX
/-- f(e) with a name -/
def call1 : Expr → Option (Str × Str)
  | .Call (.Name f _) [.Name a _] [] _ => some (f, a)
  | _ => none
theorem call1_ok {e : Expr} {f a : Str} (h : call1 e = some (f, a)) : ∃ p1 p2 p3, e = .Call (.Name f p1) [.Name a p2] [] p3 := by
  unfold call1 at h
  split at h
  · cases h
    exact ⟨_, _, _, rfl⟩
  · cases h
/-- [k == at for k in range(n)] -/
def lcEq : Expr → Option (Int × Scope)
  | .ListComp (.Compare (.Name k _) [.Eq] [.Name a _] _) [⟨.Name k2 _, .Call (.Name r _) [.Constant (.int n) _ _] [] _, [], 0⟩] sc _ => if k == ("_law_k" : Str) && (k2 == ("_law_k" : Str) && (a == ("_law_at" : Str) && r == ("range" : Str))) then some (n, sc) else none
  | _ => none
theorem lcEq_ok {e : Expr} {n : Int} {sc : Scope} (h : lcEq e = some (n, sc)) : ∃ p1 p2 p3 p4 p5 j p6 p7 p8, e = .ListComp (.Compare (.Name "_law_k" p1) [.Eq] [.Name "_law_at" p2] p3) [⟨.Name "_law_k" p4, .Call (.Name "range" p5) [.Constant (.int n) j p6] [] p7, [], 0⟩] sc p8 := by
  unfold lcEq at h
  split at h
  · split at h
    · rename_i q
      simp only [Bool.and_eq_true, beq_iff_eq] at q
      obtain ⟨rfl, rfl, rfl, rfl⟩ := q
      cases h
      exact ⟨_, _, _, _, _, _, _, _, _, rfl⟩
    · cases h
  · cases h
def ownP : List Stmt → Option (Expr × Expr × Expr × Expr × Expr × Expr)
  | [.If (.BoolOp .Or [.UnaryOp .Not e1 _, .UnaryOp .Not e2 _, e3] _) [.Return (some (.Constant (.bool false) _ _)) _] [] _, .Return (some (.Compare (.BinOp e4 .Add e5 _) [.Eq] [e6] _)) _] => some (e1, e2, e3, e4, e5, e6)
  | _ => none
theorem ownP_ok {b : List Stmt} {e1 e2 e3 e4 e5 e6 : Expr} (h : ownP b = some (e1, e2, e3, e4, e5, e6)) : ∃ p1 p2 p3 j p4 p5 p6 p7 p8 p9, b = [.If (.BoolOp .Or [.UnaryOp .Not e1 p1, .UnaryOp .Not e2 p2, e3] p3) [.Return (some (.Constant (.bool false) j p4)) p5] [] p6, .Return (some (.Compare (.BinOp e4 .Add e5 p7) [.Eq] [e6] p8)) p9] := by
  unfold ownP at h
  split at h
  · cases h
    exact ⟨_, _, _, _, _, _, _, _, _, _, rfl⟩
  · cases h
/-- the scope of a comprehension -/
def blkB (N : List Str) (sc scope : Scope) (own : List (Str × Nat)) : Bool :=
  decide (scope.kind = .function) && (scope.names.all (fun y => decide (scope.names.lookup y.1 = some y.2)) && (own.all (fun p => decide (N[p.2]? = some p.1)) && (scope.names.all (fun y => !decide (y.2 = .free) || (decide (sc.names.lookup y.1 = some .cell) || decide (sc.names.lookup y.1 = some .free))) &&
    scope.names.all fun y => !(decide (y.2 = .local) || decide (y.2 = .cell)) || (decide (y.1 ∈ own.map (·.1)) || decide (y.1 ∉ N)))))
theorem blkB_ok {N : List Str} {sc scope : Scope} {own : List (Str × Nat)} (h : blkB N sc scope own = true) : BlkOk N sc scope own := by
  unfold blkB at h
  simp only [Bool.and_eq_true, Bool.or_eq_true, Bool.not_eq_true', decide_eq_true_eq, decide_eq_false_iff_not, List.all_eq_true, Bool.or_eq_false_iff] at h
  obtain ⟨h1, h2, h3, h4, h5⟩ := h
  exact ⟨h1, h2, h3, fun y hy e => (h4 y hy).resolve_left fun z => z e, fun y hy e => (h5 y hy).resolve_left fun z => e.elim z.1 z.2⟩
/-- what isinstance says of an error of the class at C -/
structure OwnF (K : PySem.W.Frag) (W C : Addr) : Prop where
  x : ExcC K C
  w : PySem.W.kitOne K (.ref C) (.ref W) = some true
  v : PySem.W.kitOne K (.ref C) (.type "ValueError") = some true
  l : PySem.W.kitOne K (.ref C) (.type "LookupError") = some false
def spOwn (A : List Addr) : Sp := fun vs H Q _ => ∃ (e C : Addr) (fl : List (Str × V)) (n : Nat), vs = [.ref e, .int n] ∧ A[n]? = some C ∧ ErAt H e C fl ∧ ∀ H', Ext H H' → Q (.bl true) H'
theorem kis_at {A : List Addr} {C : Addr} {n : Nat} (nd : A.Nodup) (h : A[n]? = some C) : kis C A = (List.range A.length).map fun k => V.bl (decide (V.int (0 + (k : Nat)) = V.int (n : Nat))) := by
  refine List.ext_getElem? fun i => ?_
  unfold kis
  rw [List.getElem?_map, List.getElem?_map]
  by_cases hi : i < A.length
  · rw [List.getElem?_eq_getElem hi, List.getElem?_eq_getElem (by simpa using hi), Option.map_some, Option.map_some, List.getElem_range]
    have e : (A[i] = C) ↔ (V.int (0 + (i : Nat)) = V.int (n : Nat)) := by
      obtain ⟨hn, hC⟩ := List.getElem?_eq_some_iff.mp h
      constructor
      · intro z
        have : i = n := (List.getElem_inj nd).mp (z.trans hC.symm)
        subst this
        simp
      · intro z
        have z' : (0 : Int) + (i : Nat) = (n : Nat) := V.int.inj z
        have : i = n := by omega
        subst this
        exact hC
    rw [decide_eq_decide.mpr e]
  · rw [List.getElem?_eq_none (by omega), List.getElem?_eq_none (by simp; omega)]
    rfl
theorem eqs_self {K : PySem.W.Frag} {H : Hp} : ∀ {xs : List V}, (∀ x ∈ xs, flatB x = true) → Paired (EqV K H 1) xs xs
  | [], _ => .nil
  | x :: xs, h => .cons (.inl ⟨rfl, h x List.mem_cons_self⟩) (eqs_self fun y hy => h y (List.mem_cons_of_mem _ hy))
theorem relabel_free {env : Env} : ∀ {names : List (Str × NameKind)} {x : Str}, names.lookup x = some .free →
    (names.map fun (n, k) => if (k == NameKind.free && env.scope.kind == .function && env.kindOf n == some .cell) then (n, NameKind.cell) else (n, k)).lookup x = some .cell ∨
    (names.map fun (n, k) => if (k == NameKind.free && env.scope.kind == .function && env.kindOf n == some .cell) then (n, NameKind.cell) else (n, k)).lookup x = some .free
  | [], _, h => by simp at h
  | (n, k) :: r, x, h => by
    rw [List.map_cons]
    by_cases z : x = n
    · subst z
      simp [List.lookup] at h
      subst h
      dsimp only
      split
      · exact .inl (by simp [List.lookup])
      · exact .inr (by simp [List.lookup])
    · have e : (x == n) = false := by simpa using z
      have h' : r.lookup x = some .free := by simpa [List.lookup, e] using h
      have ih := relabel_free (env := env) h'
      dsimp only
      split <;> simpa [List.lookup, e] using ih
theorem vis_blk_free {X : Cx} {s : Shared} {H : Hp} {sc : Scope} {cl : List (Str × Addr)} {C : Addr} {fp : List Addr} {x : Str} (h : sc.names.lookup x = some .free) : Vis (X.blk s H sc (compEnvC sc cl C X.env) fp).env.scope x := .inr (relabel_free h)
theorem loc_blk {X : Cx} {s : Shared} {H : Hp} {sc : Scope} {cl : List (Str × Addr)} {C : Addr} {fp : List Addr} {x : Str} (h : sc.names.lookup x = some .local) : (X.blk s H sc (compEnvC sc cl C X.env) fp).env.scope.names.lookup x = some .local := lookup_relabel_local h
section
variable {X : Cx}
theorem pe_lcEq (hc : X.calm = true) (hN : X.N = ([("_law_e" : Str), "_law_at", "_law_k"] : List Str)) (hg : Gl X "range") (hm : X.mg "range" = none) {e : Expr} {n : Int} {sc : Scope} (h : lcEq e = some (n, sc)) (hb : blkB X.N X.env.scope sc [("_law_k", 2)] = true)
    (v1 : sc.names.lookup ("_law_at" : Str) = some .free) (v2 : sc.names.lookup ("_law_k" : Str) = some .local) (b1 : 0 ≤ n) (b2 : n < 900) :
    PE X e (fun σ H Q => ∃ at_ : Nat, σ.length = 3 ∧ σ[1]? = some (some (.int at_)) ∧ ∀ D H', H D = none → Ext H H' → H' D = some (.lst ((List.range n.toNat).map fun k => V.bl (decide (V.int (0 + (k : Nat)) = V.int (at_ : Nat))))) → Q (.ref D) H') := by
  obtain ⟨p1, p2, p3, p4, p5, j, p6, p7, p8, rfl⟩ := lcEq_ok h
  have nd : X.N.Nodup := by rw [hN]; decide
  have hh := pe_lc (X := X) (pos := p8) (scope := sc) (own := [("_law_k", 2)]) (g := gName 2) (tt := tYes) (te := tOp rEq (tVar 2) (tVar 1)) hc nd
    (pi_range1 (tg := .Name "_law_k" p4) (p := p5) (pos := p7) hg hm (pa_cons (pe_int (i := n) (j := j) (pos := p6)) pa_nil)) (blkB_ok hb) (fun s H C cl fp => pg_name (X := X.blk s H sc (compEnvC sc cl C X.env) fp) nd (by show X.N[2]? = _; rw [hN]; rfl) (.inl (loc_blk v2)) (.inr (loc_blk v2)))
    (fun s H C cl fp => pts_nil) (fun s H C cl fp => pe_cmpR (X := X.blk s H sc (compEnvC sc cl C X.env) fp) (pos := p3) op_eq (pe_var (pos := p1) (i := 2) (by show X.N[2]? = _; rw [hN]; rfl) (.inl (loc_blk v2))) (pe_var (pos := p2) (i := 1) (by show X.N[1]? = _; rw [hN]; rfl) (vis_blk_free v1)) (nomark _))
  refine PE.imp hh fun σ H Q ⟨at_, h1, h2, hq⟩ => ?_
  refine ⟨n, rfl, by omega, by omega, fun D hD => ?_⟩
  refine ⟨fun i m H' => H' D = some (.lst ((List.range i).map fun k => V.bl (decide (V.int (0 + (k : Nat)) = V.int (at_ : Nat))))) ∧ Ext H H' ∧ i + m = n.toNat, ⟨n.toNat, upd_same, ext_new hD, by simp⟩, fun i m H' ⟨w1, w2, w3⟩ => ?_⟩
  by_cases hi : i < n.toNat
  · refine .inr ⟨hi, fun H'' => H'' D = some (.lst ((List.range (i + 1)).map fun k => V.bl (decide (V.int (0 + (k : Nat)) = V.int (at_ : Nat))))) ∧ Ext H H'', fun H'' ⟨x1, x2⟩ => ⟨m - 1, by omega, x1, x2, by omega⟩, fun x H'' ⟨e1, e2⟩ => ?_⟩
    subst e1 e2
    have l2 : (wipe σ [2]).length = 3 := by rw [wipe_length, h1]
    refine ⟨?_, V.int (0 + (i : Nat)), by rw [List.getElem?_set_self (by show 2 < (wipe σ [2]).length; rw [l2]; decide)], V.int at_, ?_, rfl, _, w1, by simp [sizeLine_eq]; omega, ?_, ?_⟩
    · show (((σ.set 2 none).set 2 _).set 2 none) = σ.set 2 none
      rw [List.set_set, List.set_set]
    · rw [List.getElem?_set_ne (by decide)]
      show (σ.set 2 none)[1]? = _
      rw [List.getElem?_set_ne (by decide)]
      exact h2
    · rw [upd_same, List.range_succ, List.map_append]
      rfl
    · intro b o z
      have := w2 b o z
      rw [upd_ne (ne_of_none z hD)]
      exact this
  · refine .inl ⟨by show n.toNat ≤ i; omega, ?_⟩
    have e0 : i = n.toNat := by omega
    subst e0
    exact hq D H' hD w2 w1
end
section
variable {P : Program} {w : World} {K : PySem.W.Frag} {mg : Str → Option Value} {base : Heap} {k : Nat} {f fa fb W : Addr} {x : Str} {params : Arguments} {body : List Stmt} {scope sc : Scope} {dV kV doc pm cdv ct oc : Value} {an od : Option Addr} {osl : Array (Option Value)} {A1 A2 : List Addr} {e1 e2 e3 e4 e5 e6 : Expr} {na nb : Str} {fda fdb : FuncData} {ok : Addr → Prop}
theorem fnOwn {CX : CXT} (lk : K.lookup f = some ⟨oc, od, .func (PySem.W.fnOf x x params body scope dV kV doc pm an cdv ct), osl⟩) (hcd : PySem.W.codeIn K cdv x = true) (hs : scB ["_law_e", "_law_at", "_law_k"] ["_law_e", "_law_at"] scope = true) (hb : ownP body = some (e1, e2, e3, e4, e5, e6))
    (q1 : isiE e1 = some ("WalkError" : Str)) (q2 : isiE e2 = some ("ValueError" : Str)) (q3 : isiE e3 = some ("LookupError" : Str)) (q4 : call1 e4 = some (na, ("_law_e" : Str))) (q5 : call1 e5 = some (nb, ("_law_e" : Str))) (q6 : lcEq e6 = some (((A1 ++ A2).length : Int), sc))
    (hbk : blkB ["_law_e", "_law_at", "_law_k"] scope sc [("_law_k", 2)] = true) (v1 : sc.names.lookup ("_law_at" : Str) = some .free) (v2 : sc.names.lookup ("_law_k" : Str) = some .local) (hg : ∀ c ∈ [("isinstance" : Str), "WalkError", "ValueError", "LookupError", "range", na, nb], glB scope c = true)
    (mi : mg "isinstance" = none) (mw : mg "WalkError" = some (.ref W)) (mv : mg "ValueError" = none) (ml : mg "LookupError" = none) (mr : mg "range" = none) (ma : mg na = some (.ref fa)) (mb : mg nb = some (.ref fb)) (ka : PySem.W.keepIn K (.ref fa) = true) (kb : PySem.W.keepIn K (.ref fb) = true)
    (Fa : FnOk P w K mg base C8.CX0 k fa fda ["_law_e"] (spKnd A1 ok)) (Fb : FnOk P w K mg base C8.CX0 k fb fdb ["_law_e"] (spKnd A2 ok)) (Pa : PB fda ["_law_e"]) (Pb : PB fdb ["_law_e"]) (nd : (A1 ++ A2).Nodup) (few : (A1 ++ A2).length < 900) (hok : ∀ C ∈ A1 ++ A2, ok C ∧ OwnF K W C) :
    FnOk P w K mg base CX (k + 1) f (PySem.W.fnOf x x params body scope dV kV doc pm an cdv ct) ["_law_e", "_law_at"] (spOwn (A1 ++ A2)) := by
  have S := scB_ok hs
  refine fn_of lk hcd S (fun vs H Q E ⟨e, C, fl, n, ev, _⟩ => by rw [ev]; rfl) fun A outer s H vs Q E hr ⟨e, C, fl, n, ev, hA, hE, hq⟩ => ?_
  subst ev
  obtain ⟨p1, p2, p3, j, p4, p5, p6, p7, p8, p9, rfl⟩ := ownP_ok hb
  generalize hX : cxOf CX P w K mg base ["_law_e", "_law_at", "_law_k"] x scope f cdv A outer s H E = X
  have gl : ∀ y ∈ [("isinstance" : Str), "WalkError", "ValueError", "LookupError", "range", na, nb], Gl X y ∧ (y == ("__debug__" : Str)) = false := fun y hy => by
    obtain ⟨g1, g2⟩ := Bool.and_eq_true_iff.mp (show (decide (scope.names.lookup y = some .globalImplicit) && okN y) = true from hg y hy)
    obtain ⟨g3, _⟩ := Bool.and_eq_true_iff.mp (show (!(y == ("__debug__" : Str)) && !(y == ("__classdict__" : Str))) = true from g2)
    refine ⟨?_, by simpa using g3⟩
    rw [← hX]
    exact (of_decide_eq_true g1 : scope.names.lookup y = some .globalImplicit)
  have eN : X.N = ([("_law_e" : Str), "_law_at", "_law_k"] : List Str) := by rw [← hX]; rfl
  have ve : Vis X.env.scope "_law_e" := by
    rw [← hX]
    rcases S.par "_law_e" List.mem_cons_self with z | z
    · exact .inl z
    · exact .inr (.inl z)
  have pv : ∀ p, PE X (.Name "_law_e" p) (tVar 0) := fun p => pe_var (by rw [eN]; rfl) ve
  obtain ⟨okC, F⟩ := hok C (List.mem_of_getElem? hA)
  have F' : OwnF X.K W C := by rw [← hX]; exact F
  have isi : ∀ {ex : Expr} {c : Str} {cv : V} {cu : Value} {b : Bool}, isiE ex = some c → PE X (.Name c default) (tC cv) → (∀ p, PE X (.Name c p) (tC cv)) → (∀ u, RelV cv u → u = cu) → PySem.W.kitOne X.K (.ref C) cu = some b →
      PT X ex (fun σ H Q => σ[0]? = some (some (.ref e)) ∧ ErAt H e C fl ∧ Q b H) := fun {ex c cv cu b} hi _ hp hcv hk => by
    obtain ⟨a1, a2, a3, a4, rfl⟩ := isiE_ok hi
    have ht := pt_val (pe_callB (p := a1) (pos := a4) (call_isX (X := X)) (gl _ (by simp)).1 (by rw [← hX]; exact mi) boot_isinstance (pa_cons (pv a2) (pa_cons (hp a3) pa_nil))) (fun _ => by rfl)
    exact ⟨fun pins s σ H Q I ⟨h1, h2, h3⟩ => ht.run pins s σ H Q I ⟨.ref e, h1, e, C, fl, cv, cu, b, rfl, h2, F'.x, hcv, hk, b, rfl, h3⟩⟩
  have pw : ∀ p, PE X (.Name "WalkError" p) (tC (.ref W)) := fun p => pe_glob (gl _ (by simp)).1 (by rw [← hX]; exact mw) rfl
  have pval : ∀ p, PE X (.Name "ValueError" p) (tC (.ty "ValueError")) := fun p => pe_bltn (gl _ (by simp)).1 (by rw [← hX]; exact mv) PyProof.Rows.Boot.«ValueError» rfl
  have plk : ∀ p, PE X (.Name "LookupError" p) (tC (.ty "LookupError")) := fun p => pe_bltn (gl _ (by simp)).1 (by rw [← hX]; exact ml) PyProof.Rows.Boot.«LookupError» rfl
  have t1 := isi q1 (pw default) pw (fun u hu => hu) F'.w
  have t2 := isi q2 (pval default) pval (fun u hu => hu) F'.v
  have t3 := isi q3 (plk default) plk (fun u hu => hu) F'.l
  have hif := ps_if (X := X) (pos := p6) (pw_or (pos := p3) (pt_not (pos := p1) t1) (pw_or (pt_not (pos := p2) t2) (pw_or1 t3))).pt (pss_one (ps_ret (pos := p5) (pe_bl (b := false) (j := j) (pos := p4)))) pss_nil
  obtain ⟨a1, a2, a3, rfl⟩ := call1_ok q4
  obtain ⟨b1, b2, b3, rfl⟩ := call1_ok q5
  have room : Room k X.A := by rw [← hX]; exact hr
  have ca := pe_call (X := X) (p := a1) (pos := a3) (E := C8.E0) (by rw [← hX]; exact Fa) room (gl na (by simp)).1 (by rw [← hX]; exact ma) (by rw [← hX]; exact ka) (Pa.binds _) .nil C8.pass0 (pa_cons (pv a2) pa_nil) (gl na (by simp)).2
  have cb := pe_call (X := X) (p := b1) (pos := b3) (E := C8.E0) (by rw [← hX]; exact Fb) room (gl nb (by simp)).1 (by rw [← hX]; exact mb) (by rw [← hX]; exact kb) (Pb.binds _) .nil C8.pass0 (pa_cons (pv b2) pa_nil) (gl nb (by simp)).2
  have lc := pe_lcEq (X := X) (by rw [← hX]; rfl) eN (gl "range" (by simp)).1 (by rw [← hX]; exact mr) q6 (by rw [eN, ← hX]; exact hbk) v1 v2 (by omega) (by omega)
  have hret := pss_one (ps_ret (pos := p9) (pe_cmpR (pos := p8) (op_eqV (X := X) (by rw [← hX]; exact hr.units)) (pe_op (pos := p7) op_cat ca cb) lc (nomark _)))
  have hh := pss_cons hif hret
  refine ⟨_, hh, ?_⟩
  subst hX
  refine ⟨rfl, hE, ?_⟩
  show if (!true) = true then _ else _
  rw [if_neg (by decide)]
  refine ⟨rfl, hE, ?_⟩
  show if (!true) = true then _ else _
  rw [if_neg (by decide)]
  refine ⟨rfl, hE, ?_⟩
  show if false = true then _ else _
  rw [if_neg (by decide)]
  refine ⟨.ref e, rfl, e, C, fl, rfl, okC, hE, fun l1 H1 x1 y1 => ⟨.ref e, rfl, e, C, fl, rfl, okC, hE.extN (ExtN.of x1), fun l2 H2 x2 y2 => ?_⟩⟩
  have lk1 : (kis C A1).length = A1.length := by simp [kis]
  have lk2 : (kis C A2).length = A2.length := by simp [kis]
  rw [List.length_append] at few
  refine ⟨l1, l2, _, _, rfl, rfl, x2 _ _ y1, y2, by rw [lk1, lk2, sizeLine_eq]; omega, fun p hp => ?_⟩
  refine ⟨n, rfl, rfl, fun D H3 hD x3 y3 => ?_⟩
  have e3 : upd H2 p (.lst (kis C A1 ++ kis C A2)) p = some (.lst (kis C A1 ++ kis C A2)) := upd_same
  have ek : kis C A1 ++ kis C A2 = kis C (A1 ++ A2) := by simp [kis]
  rw [Int.toNat_natCast, ← kis_at nd hA] at y3
  refine ⟨1, by decide, .inl ⟨p, D, _, _, rfl, rfl, .inl (Rd.of (x3 _ _ e3)), .inl (Rd.of y3), ?_⟩, hq H3 fun b o z => x3 b o ?_⟩
  · rw [ek]
    exact eqs_self fun y hy => by
      obtain ⟨_, _, rfl⟩ := List.mem_map.mp hy
      rfl
  · rw [upd_ne (ne_of_none (x2 b o (x1 b o z)) hp)]
    exact x2 b o (x1 b o z)
end
end RWk
end
section
/-! M19: what an error keeps, asked by the lambda that was made with it. -/
namespace RWk
open PySem PySem.Spec PyProof.Rows L2 LamX
/-- what the fields' reading asks of the class -/
structure FldF (K : PySem.W.Frag) (C : Addr) (fs : List Str) : Prop where
  x : XfC K C
  no : ∀ f ∈ fs, PySem.W.findIn K (.ref C) f = some none
def tAts (K : PySem.W.Frag) (fs : List Str) : TA := fun σ H Q => ∃ (ea C : Addr) (fl : List (Str × V)) (vs : List V), σ[0]? = some (some (.ref ea)) ∧ ErAt H ea C fl ∧ FldF K C fs ∧ Paired (fun f v => fl.lookup f = some v) fs vs ∧ Q vs H
theorem attrsB_cons {f : Str} {fs : List Str} {e : Expr} {es : List Expr} (h : attrsB (f :: fs) (e :: es) = true) : ∃ p1 p2, e = .Attribute (.Name "_law_e" p1) f p2 ∧ attrsB fs es = true := by
  cases e with
  | Attribute o g p => cases o with
    | Name y q =>
      simp only [attrsB, Bool.and_eq_true, beq_iff_eq] at h
      obtain ⟨rfl, rfl, h⟩ := h
      exact ⟨_, _, rfl, h⟩
    | _ => cases h
  | _ => cases h
theorem pa_ats {Y : Cx} (hN : Y.N[0]? = some ("_law_e" : Str)) (hV : Vis Y.env.scope "_law_e") : ∀ {fs : List Str} {es : List Expr}, attrsB fs es = true → PA Y es (tAts Y.K fs)
  | [], [], _ => ⟨fun pos pins s σ H Q I ⟨ea, C, fl, vs, h1, h2, h3, h4, h5⟩ => by
    cases h4
    exact Calls.spliced_nil ⟨[], H, I, .nil, h5⟩⟩
  | f :: fs, e :: es, h => by
    obtain ⟨p1, p2, rfl, h2⟩ := attrsB_cons h
    have hh := pa_cons (pe_ef (n := f) (pos := p2) (pe_var (pos := p1) hN hV) (by rfl)) (pa_ats hN hV h2) (by rfl)
    refine ⟨fun pos pins s σ H Q I ⟨ea, C, fl, vs, h1, h2, h3, h4, h5⟩ => hh.run pos pins s σ H Q I ?_⟩
    cases h4 with
    | cons r t => exact ⟨.ref ea, h1, ea, C, fl, _, rfl, h2, h3.x, h3.no f List.mem_cons_self, r, ea, C, fl, _, h1, h2, ⟨h3.x, fun g hg => h3.no g (List.mem_cons_of_mem _ hg)⟩, t, h5⟩
  | [], e :: _, h => by cases h
  | _ :: _, [], h => by cases h
def tFld (K : PySem.W.Frag) (i : Nat) (te : TE) : TE := fun σ H Q => ∃ f, σ[i]? = some (some (.ref f)) ∧ te σ H fun x H1 => ∃ (q : Str) (params : Arguments) (lb : Expr) (lsc : Scope) (fs : List Str) (ea C : Addr) (fl : List (Str × V)) (vs : List V), LamAt H1 f q params lb lsc ∧ lamX fs params lb lsc = true ∧ x = .ref ea ∧ ErAt H1 ea C fl ∧ FldF K C fs ∧
  Paired (fun f v => fl.lookup f = some v) fs vs ∧ vs.length ≤ 10 ∧ ∀ l, H1 l = none → Q (.ref l) (upd H1 l (.lst vs))
section
variable {X : Cx} {k i : Nat} {a : Str} {p pos : Pos} {e : Expr} {te : TE}
theorem pe_fld (hN : X.N[i]? = some a) (hV : Vis X.env.scope a) (he : PE X e te) (hs : starEach [e] X.env = (false, eval e X.env) :: starEach [] X.env) (hr : Room (k + 1) X.A) (hd : (a == ("__debug__" : Str)) = false := by decide) (hcd : (a == ("__classdict__" : Str)) = false := by decide) :
    PE X (.Call (.Name a p) [e] [] pos) (tFld X.K i te) := by
  refine ⟨fun pins s σ H Q I ⟨f, hf, h⟩ => ?_⟩
  refine wpAny_Call_Name_kw (thn ((pe_var (pos := p) (i := i) hN hV hd hcd).run pins s σ H (fun v H1 => v = .ref f ∧ H1 = H) I ⟨.ref f, hf, rfl, rfl⟩) fun u s1 ⟨v, H1, I1, r1, q1⟩ => ?_)
  obtain ⟨ev, eH⟩ := q1
  subst ev
  rw [eH] at I1
  obtain rfl : u = Value.ref f := r1
  rw [hs]
  refine PySem.W.callWith_of (P := PySem.W.FnAt f) (by rfl) PySem.W.keeps_F (Calls.evalArgs_plain (Calls.spliced_cons (thn (he.run pins s1 σ H _ I1 h) fun u s2 ⟨x, H2, I2, r2, q, params, lb, lsc, fs, ea, C, fl, vs, ⟨c', l1, l2⟩, hl, ex, hE, hF, hp, hlen, hq⟩ => Calls.spliced_nil ?_)))
  have x1 : ObjOk X.prog X.w H2 s2.heap f (.ext fun h => ∃ pm ctv, h.get? f = some (PySem.W.kla_obj "<lambda>" q params lb lsc [] pm c' ctv)) := I2.hok f _ l1
  obtain ⟨⟨pm, ctv, ho⟩, _⟩ := x1
  have x2 : ObjOk X.prog X.w H2 s2.heap c' (.ext fun h => ∃ (oc : Obj) (vs : Array Value) (t : Tok), h.get? c' = some oc ∧ oc.data = .fields vs ∧ vs[1]? = some (.str q t)) := I2.hok c' _ l2
  obtain ⟨⟨oc, ws, t, hoc, hdc, hvc⟩, _⟩ := x2
  subst ex
  unfold lamX at hl
  obtain ⟨a1, a2⟩ := Bool.and_eq_true_iff.mp hl
  obtain ⟨a3, a4⟩ := Bool.and_eq_true_iff.mp a2
  obtain ⟨a5, a6⟩ := Bool.and_eq_true_iff.mp a4
  have S := scB_ok a6
  simp only [Bool.and_eq_true, List.isEmpty_iff, Option.isNone_iff_eq_none] at a1
  obtain ⟨m1, m2, m3, m4, m5, m6⟩ := a1
  cases lb with
  | List es lpos =>
    have rc : codeAny (model X.prog X.w) X.A (.call (.ref f) ⟨[u], []⟩) (CR C8.CX0 X.stack X.prog X.w H2 s2 Q C8.E0) s2 := by
      refine run_lam (N := ["_law_e"]) (ps := ["_law_e"]) (vs := [.ref ea]) ho ⟨c', oc, ws, t, rfl, hoc, hdc, hvc⟩ S hr I2.env0 ?_ (.cons r2 .nil) rfl fun _ => ?_
      · have z := bind_all (PySem.W.kla_fn "<lambda>" q params (.List es lpos) lsc [] pm (.ref c') ctv) ["_law_e"] [] [u] [] m1 (by rw [List.append_nil]; exact of_decide_eq_true a3) m2 m3 m5 rfl (by simp) rfl rfl
        simpa using z
      · generalize hY : cxOf C8.CX0 X.prog X.w X.K X.mg X.base ["_law_e"] q lsc f (.ref c') X.A X.stack s2 H2 C8.E0 = Y
        have vY : Vis Y.env.scope "_law_e" := by
          rw [← hY]
          rcases S.par "_law_e" List.mem_cons_self with z | z
          · exact .inl z
          · exact .inr (.inl z)
        have hb := pe_lst (pos := lpos) (pa_ats (Y := Y) (fs := fs) (es := es) (by rw [← hY]; rfl) vY a5)
        refine ⟨_, hb, ea, C, fl, vs, rfl, hE, by rw [← hY]; exact hF, hp, by rw [sizeLine_eq]; omega, hq⟩
    have hc := wpAny_call (Q := EP X pins σ Q) (E := X.xe) (codeAny_mono rc fun r s' hq => by
      cases r with
      | error e => exact (show False from hq).elim
      | ok fl =>
        cases fl with
        | ret u => exact I2.after hq
        | next => exact False.elim hq
        | brk => exact False.elim hq
        | cont => exact False.elim hq)
    exact ⟨⟨_, _, _, _, ho⟩, hc⟩
  | _ => cases a5
end
/-! ### the two lists are alike -/
/-- x as data, small -/
def Dat (H : Hp) (x : V) (d : PyData) : Prop := Shw H x d ∧ d.showable = true ∧ d.shown.length ≤ 1000 ∧ d.depth ≤ 8
/-- x against itself -/
def Slf (x : V) : Prop := flatB x = true ∨ ∃ a, x = .ref a
theorem slf_eq {K : PySem.W.Frag} {H : Hp} {n : Nat} {x : V} (h : Slf x) : EqV K H (n + 1) x x := by
  rcases h with h | ⟨a, rfl⟩
  · exact .inl ⟨rfl, h⟩
  · exact .inr (.inl ⟨a, rfl, rfl⟩)
/-- the data of what is kept -/
def dts (d : PyData) : List Bool → List PyData
  | [] => []
  | false :: r => d :: dts d r
  | true :: r => .list [d] :: dts d r
theorem xvs_shw {nl : Addr → Prop} {H : Hp} {x : V} {d : PyData} (hd : Shw H x d) : ∀ {bs : List Bool} {vs : List V}, Paired (XV nl H x) bs vs → ShwAll H vs (dts d bs)
  | [], _, .nil => .nil
  | false :: r, v :: vs, .cons h t => by
    have h : v = x := h
    rw [h]
    exact .cons hd (xvs_shw hd t)
  | true :: r, v :: vs, .cons h t => by
    obtain ⟨a, rfl, _, h2⟩ := h
    exact .cons (.lst h2 (.cons hd .nil)) (xvs_shw hd t)
theorem xvs_eq {nl : Addr → Prop} {K : PySem.W.Frag} {H : Hp} {x : V} (hs : Slf x) : ∀ {bs : List Bool} {vs ws : List V}, Paired (XV nl H x) bs vs → Paired (XV nl H x) bs ws → Paired (EqV K H 3) vs ws
  | [], _, _, .nil, .nil => .nil
  | false :: r, v :: vs, w :: ws, .cons h t, .cons h' t' => by
    have h : v = x := h
    have h' : w = x := h'
    rw [h, h']
    exact .cons (slf_eq hs) (xvs_eq hs t t')
  | true :: r, v :: vs, w :: ws, .cons h t, .cons h' t' => by
    obtain ⟨a, rfl, _, h2⟩ := h
    obtain ⟨b, rfl, _, h3⟩ := h'
    exact .cons (.inr (.inr (.inl ⟨a, b, [x], [x], rfl, rfl, .inl (Rd.of h2), .inl (Rd.of h3), .cons (slf_eq hs) .nil⟩))) (xvs_eq hs t t')
theorem listText_le (ts : List Str) : (listText ts).length ≤ (ts.map (·.length)).sum + 2 * ts.length + 2 := by
  have h := textFrom_len_le ts 0 "["
  have e : (listText ts).length = (textFrom 0 "[" ts).length + 1 := by
    show (textFrom 0 "[" ts ++ "]").length = _
    rw [strLen_append]
    rfl
  have e1 : ("[" : Str).length = 1 := rfl
  omega
theorem dts_ok {d : PyData} (h1 : d.showable = true) (h2 : d.shown.length ≤ 1000) (h3 : d.depth ≤ 8) : ∀ bs : List Bool, PyData.showableAll (dts d bs) = true ∧ ((PyData.shownAll (dts d bs)).map (·.length)).sum ≤ bs.length * 1010 ∧ (PyData.shownAll (dts d bs)).length = bs.length ∧ PyData.depthAll (dts d bs) ≤ 9
  | [] => ⟨by simp [dts, PyData.showableAll], by simp [dts, PyData.shownAll], by simp [dts, PyData.shownAll], by simp [dts, PyData.depthAll]⟩
  | false :: r => by
    obtain ⟨a, b, c, e⟩ := dts_ok h1 h2 h3 r
    refine ⟨by simp [dts, PyData.showableAll, h1, a], ?_, by simp [dts, PyData.shownAll, c], ?_⟩
    · simp only [dts, PyData.shownAll, List.map_cons, List.sum_cons, List.length_cons]
      omega
    · simp only [dts, PyData.depthAll]
      omega
  | true :: r => by
    obtain ⟨a, b, c, e⟩ := dts_ok h1 h2 h3 r
    refine ⟨by simp [dts, PyData.showableAll, PyData.showable, h1, a], ?_, by simp [dts, PyData.shownAll, c], ?_⟩
    · have hl := listText_le [d.shown]
      simp only [List.map_cons, List.map_nil, List.sum_cons, List.sum_nil, List.length_cons, List.length_nil] at hl
      simp only [dts, PyData.shownAll, PyData.shown, List.map_cons, List.sum_cons, List.length_cons]
      omega
    · simp only [dts, PyData.depthAll, PyData.depth]
      omega
theorem alike_of {nl : Addr → Prop} {K : PySem.W.Frag} {H : Hp} {x : V} {d : PyData} {a b : Addr} {bs : List Bool} {vs ws : List V} (hd : Dat H x d) (hs : Slf x) (ha : H a = some (.lst vs)) (hb : H b = some (.lst ws)) (h1 : Paired (XV nl H x) bs vs) (h2 : Paired (XV nl H x) bs ws) (few : bs.length ≤ 2) : Alike K H a b := by
  obtain ⟨d1, d2, d3, d4⟩ := hd
  refine ⟨⟨.list (dts d bs), .lst ha (xvs_shw d1 h1), .lst hb (xvs_shw d1 h2), ?_, ?_, ?_⟩, 3, by decide, .inl ⟨a, b, vs, ws, rfl, rfl, .inl (Rd.of ha), .inl (Rd.of hb), xvs_eq hs h1 h2⟩⟩
  · obtain ⟨a, _⟩ := dts_ok d2 d3 d4 bs
    simpa [PyData.showable] using a
  · obtain ⟨_, b, c, _⟩ := dts_ok d2 d3 d4 bs
    have hl := listText_le (PyData.shownAll (dts d bs))
    rw [sizeLine_eq]
    simp only [PyData.shown]
    omega
  · obtain ⟨_, _, _, e⟩ := dts_ok d2 d3 d4 bs
    simp only [PyData.depth]
    omega
end RWk
end
section
/-! M20: the drawing of numbers. -/
namespace RWk
open PySem PySem.Spec PyProof.Rows L2 LamX
/-- whole-number expressions over the stream's cells and names -/
inductive IE where
  | lit (i : Int) | cel (i : Nat) | var (j : Nat) | add (a b : IE) | mul (a b : IE) | pow (a b : IE) | mod (a b : IE) | fdiv (a b : IE) | int (a : IE)
  deriving DecidableEq
def dOp (op : Operator) (x y : IE) : Option IE := match op with
  | .Add => some (.add x y)
  | .Mult => some (.mul x y)
  | .Pow => some (.pow x y)
  | .Mod => some (.mod x y)
  | .FloorDiv => some (.fdiv x y)
  | _ => none
def dIE (N : List Str) : Nat → Expr → Option IE
  | 0, _ => none
  | n + 1, e => match e with
    | .Constant (.int i) _ _ => some (.lit i)
    | .Subscript (.Name s _) (.Constant (.int i) _ _) _ => if s == ("_law_stream_here" : Str) && decide (1 ≤ i ∧ i ≤ 3) then some (.cel i.toNat) else none
    | .Name x _ => if okN x && decide (N[N.idxOf x]? = some x) then some (.var (N.idxOf x)) else none
    | .BinOp a op b _ => match dIE N n a, dIE N n b with
      | some x, some y => dOp op x y
      | _, _ => none
    | .Call (.Name f _) [a] [] _ => if f == ("int" : Str) && notStar a then (dIE N n a).map .int else none
    | _ => none
def big (x : Int) : Bool := decide (-(2 ^ 64) < x ∧ x < 2 ^ 64)
def ev (cs vs : Nat → Option Int) : IE → Option Int
  | .lit i => some i
  | .cel i => cs i
  | .var j => vs j
  | .add a b => match ev cs vs a, ev cs vs b with
    | some x, some y => some (x + y)
    | _, _ => none
  | .mul a b => match ev cs vs a, ev cs vs b with
    | some x, some y => if big x || big y then some (x * y) else none
    | _, _ => none
  | .pow a b => match ev cs vs a, ev cs vs b with
    | some x, some y => if decide (0 ≤ y ∧ y ≤ 1000000) && decide (x.natAbs < 2 ^ 64) then some (x ^ y.toNat) else none
    | _, _ => none
  | .mod a b => match ev cs vs a, ev cs vs b with
    | some x, some y => if decide (0 < y) then some (x % y) else none
    | _, _ => none
  | .fdiv a b => match ev cs vs a, ev cs vs b with
    | some x, some y => if decide (0 < y ∧ y < 1073741824) then some (x / y) else none
    | _, _ => none
  | .int a => ev cs vs a
def cells (a b d : Int) : Nat → Option Int
  | 1 => some a
  | 2 => some b
  | 3 => some d
  | _ => none
def slots (σ : L2.St) (j : Nat) : Option Int := match σ[j]? with
  | some (some (.int v)) => some v
  | _ => none
theorem slots_some {σ : L2.St} {j : Nat} {v : Int} (h : slots σ j = some v) : σ[j]? = some (some (.int v)) := by
  unfold slots at h
  split at h
  · rename_i q
    cases h
    exact q
  · cases h
def tIE (ie : IE) : TE := fun σ H Q => ∃ (t c : Addr) (a b d r : Int), σ[0]? = some (some (.ref t)) ∧ H t = some (.lst [.ref c, .int a, .int b, .int d]) ∧ ev (cells a b d) (slots σ) ie = some r ∧ Q (.int r) H
/-- the frame of the walk -/
structure DrF (X : Cx) : Prop where
  n0 : X.N[0]? = some ("_law_stream_here" : Str)
  vis : ∀ (j : Nat) (x : Str), X.N[j]? = some x → Vis X.env.scope x
  gi : Gl X "int"
  mi : X.mg "int" = none
section
variable {X : Cx}
theorem pe_cell (D : DrF X) {p1 p2 : Pos} {j : Nat} {p3 : Pos} {i : Nat} {v : V} {xs : List V} (hv : atI xs (i : Int) = some v) : PE X (.Subscript (.Name "_law_stream_here" p1) (.Constant (.int (i : Int)) j p2) p3) (fun σ H Q => ∃ t, σ[0]? = some (some (.ref t)) ∧ H t = some (.lst xs) ∧ Q v H) :=
  PE.imp (pe_ix ix_list (pe_var (i := 0) D.n0 (D.vis 0 _ D.n0)) pe_int (fun _ _ => rfl)) fun σ H Q ⟨t, h1, h2, h3⟩ => ⟨.ref t, h1, t, xs, i, v, rfl, rfl, .inl (Rd.of h2), hv, h3⟩
theorem pe_ie (D : DrF X) : ∀ (n : Nat) (e : Expr) (ie : IE), dIE X.N n e = some ie → PE X e (tIE ie)
  | 0, _, _, h => by cases h
  | n + 1, e, ie, h => by
    have two : ∀ {a b : Expr} {op : Operator} {pos : Pos} {x y : IE} {r : R2} {g : Int → Int → Option Int} {ie : IE}, dIE X.N n a = some x → dIE X.N n b = some y → OpR X (binaryOp op) r → (∀ cs vs r, ev cs vs ie = some r → ∃ p q, ev cs vs x = some p ∧ ev cs vs y = some q ∧ g p q = some r) →
        (∀ p q z H Q, g p q = some z → Q (V.int z) H → r (.int p) (.int q) H Q) → PE X (.BinOp a op b pos) (tIE ie) := fun {a b op pos x y r g ie} ha hb ho he hr => by
      refine PE.imp (pe_op ho (pe_ie D n a x ha) (pe_ie D n b y hb)) fun σ H Q ⟨t, c, u, v, w, z, h1, h2, h3, h4⟩ => ?_
      obtain ⟨p, q, e1, e2, e3⟩ := he _ _ _ h3
      exact ⟨t, c, u, v, w, p, h1, h2, e1, t, c, u, v, w, q, h1, h2, e2, hr p q z H Q e3 h4⟩
    cases e with
    | Constant c j p =>
      cases c with
      | int i =>
        cases h
        exact PE.imp pe_int fun σ H Q ⟨t, c, u, v, w, z, h1, h2, h3, h4⟩ => by
          cases h3
          exact h4
      | _ => cases h
    | Subscript o i p =>
      cases o with
      | Name s ps => cases i with
        | Constant c j pc => cases c with
          | int i =>
            have h' : (if s == ("_law_stream_here" : Str) && decide (1 ≤ i ∧ i ≤ 3) then some (IE.cel i.toNat) else none) = some ie := h
            split at h'
            · rename_i q
              simp only [Bool.and_eq_true, beq_iff_eq, decide_eq_true_eq] at q
              obtain ⟨rfl, q1, q2⟩ := q
              cases h'
              have ei : i = ((i.toNat : Nat) : Int) := by omega
              generalize i.toNat = m at ei
              subst ei
              refine PE.imp (PE.imp (pe_ix ix_list (pe_var (i := 0) D.n0 (D.vis 0 _ D.n0)) pe_int (fun _ _ => rfl)) (fun σ H Q (h : ∃ t xs v, σ[0]? = some (some (.ref t)) ∧ H t = some (.lst xs) ∧ atI xs (m : Int) = some v ∧ Q v H) => by
                obtain ⟨t, xs, v, h1, h2, h3, h4⟩ := h
                exact ⟨.ref t, h1, t, xs, m, v, rfl, rfl, .inl (Rd.of h2), h3, h4⟩)) fun σ H Q ⟨t, c, u, v, w, z, h1, h2, h3, h4⟩ => ⟨t, _, .int z, h1, h2, ?_, h4⟩
              have h3 : cells u v w m = some z := h3
              have : m = 1 ∨ m = 2 ∨ m = 3 := by omega
              rcases this with rfl | rfl | rfl <;> cases h3 <;> rfl
            · cases h'
          | _ => cases h
        | _ => cases h
      | _ => cases h
    | Name x p =>
      have h' : (if okN x && decide (X.N[X.N.idxOf x]? = some x) then some (IE.var (X.N.idxOf x)) else none) = some ie := h
      split at h'
      · rename_i q
        obtain ⟨q1, q2⟩ := Bool.and_eq_true_iff.mp q
        cases h'
        have hN := of_decide_eq_true q2
        obtain ⟨t1, t2⟩ := Bool.and_eq_true_iff.mp (show (!(x == ("__debug__" : Str)) && !(x == ("__classdict__" : Str))) = true from q1)
        exact PE.imp (pe_var hN (D.vis _ _ hN) (by simpa using t1) (by simpa using t2)) fun σ H Q ⟨t, c, u, v, w, z, h1, h2, h3, h4⟩ => ⟨.int z, slots_some h3, h4⟩
      · cases h'
    | BinOp a op b p =>
      have h' : (match dIE X.N n a, dIE X.N n b with
        | some x, some y => dOp op x y
        | _, _ => none) = some ie := h
      cases ha : dIE X.N n a with
      | none =>
        rw [ha] at h'
        cases h'
      | some x =>
        cases hb : dIE X.N n b with
        | none =>
          rw [ha, hb] at h'
          cases h'
        | some y =>
          rw [ha, hb] at h'
          have split2 : ∀ {cs vs : Nat → Option Int} {r : Int} {f : Int → Int → Option Int}, (match ev cs vs x, ev cs vs y with
            | some p, some q => f p q
            | _, _ => none) = some r → ∃ p q, ev cs vs x = some p ∧ ev cs vs y = some q ∧ f p q = some r := fun {cs vs r f} z => by
            cases e1 : ev cs vs x with
            | none =>
              rw [e1] at z
              cases z
            | some p =>
              cases e2 : ev cs vs y with
              | none =>
                rw [e1, e2] at z
                cases z
              | some q =>
                rw [e1, e2] at z
                exact ⟨p, q, rfl, rfl, z⟩
          cases op with
          | Add =>
            cases h'
            exact two ha hb op_add (g := fun p q => some (p + q)) (fun cs vs r z => split2 z) fun p q z H Q e hq => by
              cases e
              exact ⟨p, q, rfl, rfl, hq⟩
          | Mult =>
            cases h'
            exact two ha hb op_mul (g := fun p q => if big p || big q then some (p * q) else none) (fun cs vs r z => split2 z) fun p q z H Q e hq => by
              split at e
              · rename_i w
                cases e
                refine ⟨p, q, rfl, rfl, ?_, hq⟩
                rcases Bool.or_eq_true_iff.mp w with w | w
                · exact .inl (of_decide_eq_true w)
                · exact .inr (of_decide_eq_true w)
              · cases e
          | Pow =>
            cases h'
            exact two ha hb op_pow (g := fun p q => if decide (0 ≤ q ∧ q ≤ 1000000) && decide (p.natAbs < 2 ^ 64) then some (p ^ q.toNat) else none) (fun cs vs r z => split2 z) fun p q z H Q e hq => by
              split at e
              · rename_i w
                cases e
                obtain ⟨w1, w2⟩ := Bool.and_eq_true_iff.mp w
                exact ⟨p, q, rfl, rfl, ⟨(of_decide_eq_true w1).1, (of_decide_eq_true w1).2, of_decide_eq_true w2⟩, hq⟩
              · cases e
          | Mod =>
            cases h'
            exact two ha hb op_mod (g := fun p q => if decide (0 < q) then some (p % q) else none) (fun cs vs r z => split2 z) fun p q z H Q e hq => by
              split at e
              · rename_i w
                cases e
                exact ⟨p, q, rfl, rfl, of_decide_eq_true w, hq⟩
              · cases e
          | FloorDiv =>
            cases h'
            exact two ha hb op_fdiv (g := fun p q => if decide (0 < q ∧ q < 1073741824) then some (p / q) else none) (fun cs vs r z => split2 z) fun p q z H Q e hq => by
              split at e
              · rename_i w
                cases e
                exact ⟨p, q, rfl, rfl, (of_decide_eq_true w : 0 < q ∧ q < 1073741824), hq⟩
              · cases e
          | _ => cases h'
    | Call f args ks p =>
      cases f with
      | Name f pf => cases args with
        | nil => cases h
        | cons a r => cases r with
          | cons => cases h
          | nil => cases ks with
            | cons => cases h
            | nil =>
              have h' : (if f == ("int" : Str) && notStar a then (dIE X.N n a).map .int else none) = some ie := h
              split at h'
              · rename_i q
                simp only [Bool.and_eq_true, beq_iff_eq] at q
                obtain ⟨rfl, q2⟩ := q
                obtain ⟨x, hx, rfl⟩ := Option.map_eq_some_iff.mp h'
                refine PE.imp (pe_callTy (call_int1 (X := X)) D.gi D.mi PyProof.Rows.Boot.«int» (pa_cons (pe_ie D n a x hx) pa_nil (starEach_ns q2)) (by decide) (by decide) (starEach_ns q2) (by rfl)) fun σ H Q ⟨t, c, u, v, w, z, h1, h2, h3, h4⟩ => ?_
                exact ⟨t, c, u, v, w, z, h1, h2, h3, .inl ⟨z, rfl, h4⟩⟩
              · cases h'
      | _ => cases h
    | _ => cases h
end
end RWk
end
section
/-! M21: a draw from the stream. -/
namespace RWk
open PySem PySem.Spec PyProof.Rows L2 LamX
def plE : Expr → Bool
  | .ListComp .. => false
  | .SetComp .. => false
  | .DictComp .. => false
  | _ => true
theorem swW {e : Expr} {t : Option Expr} {l : Nat} {env : Env} (h : plE e = true) : swapsWith e t l env = pure false := by
  cases e <;> first | rfl | cases h
/-- s[i] = e -/
def celS : Stmt → Option (Int × Expr)
  | .Assign [.Subscript (.Name s _) (.Constant (.int i) _ _) _] e _ => if s == ("_law_stream_here" : Str) && plE e then some (i, e) else none
  | _ => none
theorem celS_ok {st : Stmt} {i : Int} {e : Expr} (h : celS st = some (i, e)) : ∃ p1 j p2 p3 p4, st = .Assign [.Subscript (.Name "_law_stream_here" p1) (.Constant (.int i) j p2) p3] e p4 ∧ plE e = true := by
  unfold celS at h
  split at h
  · split at h
    · rename_i q
      simp only [Bool.and_eq_true, beq_iff_eq] at q
      obtain ⟨rfl, q⟩ := q
      cases h
      exact ⟨_, _, _, _, _, rfl, q⟩
    · cases h
  · cases h
def nmS : Stmt → Option (Str × Expr)
  | .Assign [.Name x _] e _ => if plE e then some (x, e) else none
  | _ => none
theorem nmS_ok {st : Stmt} {x : Str} {e : Expr} (h : nmS st = some (x, e)) : ∃ p1 p2, st = .Assign [.Name x p1] e p2 ∧ plE e = true := by
  unfold nmS at h
  split at h
  · split at h
    · rename_i q
      cases h
      exact ⟨_, _, rfl, q⟩
    · cases h
  · cases h
/-- s[0] -/
def s0E : Expr → Bool
  | .Subscript (.Name s _) (.Constant (.int i) _ _) _ => s == ("_law_stream_here" : Str) && decide (i = 0)
  | _ => false
theorem s0E_ok {e : Expr} (h : s0E e = true) : ∃ p1 j p2 p3, e = .Subscript (.Name "_law_stream_here" p1) (.Constant (.int 0) j p2) p3 := by
  unfold s0E at h
  split at h
  · simp only [Bool.and_eq_true, beq_iff_eq, decide_eq_true_eq] at h
    obtain ⟨rfl, rfl⟩ := h
    exact ⟨_, _, _, _, rfl⟩
  · cases h
/-- abs(s[0].pop(0)) -/
def popE : Expr → Bool
  | .Call (.Name a _) [.Call (.Attribute o pop apos) [.Constant (.int i) _ _] [] cpos] [] _ => a == ("abs" : Str) && (s0E o && (pop == ("pop" : Str) && (decide (i = 0) && (apos.endLine == cpos.line))))
  | _ => false
theorem popE_ok {e : Expr} (h : popE e = true) : ∃ p1 o apos j p2 cpos p3, e = .Call (.Name "abs" p1) [.Call (.Attribute o "pop" apos) [.Constant (.int 0) j p2] [] cpos] [] p3 ∧ s0E o = true ∧ (apos.endLine == cpos.line) = true := by
  unfold popE at h
  split at h
  · simp only [Bool.and_eq_true, beq_iff_eq, decide_eq_true_eq] at h
    obtain ⟨rfl, h1, rfl, rfl, h2⟩ := h
    exact ⟨_, _, _, _, _, _, _, rfl, h1, beq_iff_eq.mpr h2⟩
  · cases h
def ifE : Expr → Option (Expr × Expr × Expr × Expr)
  | .IfExp (.Compare a [.GtE] [b] _) c d _ => some (a, b, c, d)
  | _ => none
theorem ifE_ok {e a b c d : Expr} (h : ifE e = some (a, b, c, d)) : ∃ p1 p2, e = .IfExp (.Compare a [.GtE] [b] p1) c d p2 := by
  unfold ifE at h
  split at h
  · cases h
    exact ⟨_, _, rfl⟩
  · cases h
structure DrP where
  a1 : Stmt
  a2 : Stmt
  a3 : Stmt
  a4 : Stmt
  a5 : Stmt
  a6 : Stmt
  a7 : Stmt
  c1 : Expr
  c2 : Expr
  c3 : Expr
  d1 : Expr
  d2 : Expr
  r1 : Expr
  r2 : Expr
def drawP : List Stmt → Option DrP
  | [a1, .While (.BoolOp .And [.Compare c1 [.Eq] [c2] _, .Compare c3 [.NotEq] [.List [] _] _] _) [a2, a3, a4] [] _, .If (.Compare d1 [.Gt] [d2] _) [a5, a6, .Return (some r1) _] [] _, a7, .Return (some r2) _] => some ⟨a1, a2, a3, a4, a5, a6, a7, c1, c2, c3, d1, d2, r1, r2⟩
  | _ => none
theorem drawP_ok {b : List Stmt} {D : DrP} (h : drawP b = some D) : ∃ p1 p2 p3 p4 p5 p6 p7 p8 p9, b = [D.a1, .While (.BoolOp .And [.Compare D.c1 [.Eq] [D.c2] p1, .Compare D.c3 [.NotEq] [.List [] p2] p3] p4) [D.a2, D.a3, D.a4] [] p5, .If (.Compare D.d1 [.Gt] [D.d2] p6) [D.a5, D.a6, .Return (some D.r1) p7] [] p8, D.a7, .Return (some D.r2) p9] := by
  unfold drawP at h
  split at h
  · cases h
    exact ⟨_, _, _, _, _, _, _, _, _, rfl⟩
  · cases h
/-- the stream's objects -/
structure Strm (H : Hp) (t c : Addr) (a b d : Int) (xs : List Int) : Prop where
  t : H t = some (.lst [.ref c, .int a, .int b, .int d])
  c : H c = some (.lst (xs.map V.int))
  a0 : 0 ≤ a
  b0 : 0 ≤ b
  d0 : 0 ≤ d
  d1 : d < 2147483647
  few : xs.length ≤ 100000000
theorem Strm.ne {H : Hp} {t c : Addr} {a b d : Int} {xs : List Int} (S : Strm H t c a b d xs) : c ≠ t := fun z => by
  have h := S.c
  rw [z, S.t] at h
  cases xs with
  | nil => simp at h
  | cons => simp at h
/-- what stays -/
def ExtD (t c : Addr) (H H' : Hp) : Prop := ∀ b o, b ≠ t → b ≠ c → H b = some o → H' b = some o
theorem ExtD.refl {t c : Addr} {H : Hp} : ExtD t c H H := fun _ _ _ _ z => z
theorem ExtD.set_t {t c : Addr} {H H' : Hp} {o : HO} (e : ExtD t c H H') : ExtD t c H (upd H' t o) := fun b u n1 n2 z => by
  rw [upd_ne n1]
  exact e b u n1 n2 z
theorem ExtD.set_c {t c : Addr} {H H' : Hp} {o : HO} (e : ExtD t c H H') : ExtD t c H (upd H' c o) := fun b u n1 n2 z => by
  rw [upd_ne n2]
  exact e b u n1 n2 z
theorem ExtD.new {t c p : Addr} {H H' : Hp} {o : HO} (e : ExtD t c H H') (h : H' p = none) : ExtD t c H (upd H' p o) := fun b u n1 n2 z => by
  have y := e b u n1 n2 z
  rw [upd_ne (ne_of_none y h)]
  exact y
theorem Strm.new {H : Hp} {t c p : Addr} {a b d : Int} {xs : List Int} {o : HO} (S : Strm H t c a b d xs) (h : H p = none) : Strm (upd H p o) t c a b d xs :=
  ⟨by rw [upd_ne (ne_of_none S.t h)]; exact S.t, by rw [upd_ne (ne_of_none S.c h)]; exact S.c, S.a0, S.b0, S.d0, S.d1, S.few⟩
theorem Strm.set {H : Hp} {t c : Addr} {a b d a' b' d' : Int} {xs : List Int} (S : Strm H t c a b d xs) (h1 : 0 ≤ a') (h2 : 0 ≤ b') (h3 : 0 ≤ d') (h4 : d' < 2147483647) : Strm (upd H t (.lst [.ref c, .int a', .int b', .int d'])) t c a' b' d' xs :=
  ⟨upd_same, by rw [upd_ne S.ne]; exact S.c, h1, h2, h3, h4, S.few⟩
def NN : List Str := ["_law_stream_here", "_law_many", "_law_cell", "_law_digit", "_law_mixed"]
section
variable {X : Cx}
theorem pe_s0 (D : DrF X) {e : Expr} (h : s0E e = true) : PE X e (fun σ H Q => ∃ t c a b d, σ[0]? = some (some (.ref t)) ∧ H t = some (.lst [.ref c, .int a, .int b, .int d]) ∧ Q (.ref c) H) := by
  obtain ⟨p1, j, p2, p3, rfl⟩ := s0E_ok h
  exact PE.imp (pe_ix ix_list (pe_var (i := 0) D.n0 (D.vis 0 _ D.n0)) pe_int (fun _ _ => rfl)) fun σ H Q ⟨t, c, a, b, d, h1, h2, h3⟩ => ⟨.ref t, h1, t, _, 0, .ref c, rfl, rfl, .inl (Rd.of h2), rfl, h3⟩
theorem s0_base (e : Expr) (n : Str) (h : s0E e = true) : attributeBase e n X.env (eval e X.env) = eval e X.env := by
  obtain ⟨p1, j, p2, p3, rfl⟩ := s0E_ok h
  rfl
/-- s[i] = e -/
theorem ps_cel (D : DrF X) {st : Stmt} {i : Nat} {e : Expr} {ie : IE} (h : celS st = some ((i : Int), e)) (he : dIE X.N 10 e = some ie) : PS X st (fun D σ H => ∃ (t c : Addr) (a b d r : Int), σ[0]? = some (some (.ref t)) ∧ H t = some (.lst [.ref c, .int a, .int b, .int d]) ∧ ev (cells a b d) (slots σ) ie = some r ∧ i < 4 ∧ D.nx σ (upd H t (.lst (([.ref c, .int a, .int b, .int d] : List V).set i (.int r))))) := by
  obtain ⟨p1, j, p2, p3, p4, rfl, hp⟩ := celS_ok h
  have hs := ps_asg (pos := p4) (pe_ie D 10 e ie he) (pg_sub (pos := p3) (pe_var (pos := p1) (i := 0) D.n0 (D.vis 0 _ D.n0)) (pe_int (i := (i : Int)) (j := j) (pos := p2)) set_list) (by cases e <;> first | rfl | cases hp) (by cases e <;> rfl) (by rfl)
  refine ⟨fun pins s σ H D I ⟨t, c, a, b, d, r, h1, h2, h3, h4, h5⟩ => hs.run pins s σ H D I ⟨t, c, a, b, d, r, h1, h2, h3, .ref t, h1, t, _, (i : Int), i, rfl, rfl, h2, ?_, h5⟩⟩
  show ixN 4 (i : Int) = some i
  unfold ixN
  rw [if_pos (by omega), if_pos (by omega)]
  simp
end
end RWk
end
section
/-! M22: the def that draws. -/
namespace RWk
open PySem PySem.Spec PyProof.Rows L2 LamX
def E1 : IE := .add (.cel 2) (.lit 1)
def E2 : IE := .mod (.int (.add (.add (.mul (.cel 3) (.lit 8191)) (.var 2)) (.lit 3))) (.lit 2147483647)
def E3 : IE := .pow (.lit 10) (.lit 18)
def E4 : IE := .mod (.int (.cel 1)) (.var 1)
def E5 : IE := .fdiv (.cel 1) (.var 1)
def E6 : IE := .mod (.int (.pow (.add (.add (.cel 3) (.mul (.lit 7919) (.cel 2))) (.lit 104729)) (.lit 5))) (.lit 2147483629)
def E7 : IE := .mod (.mod (.int (.pow (.add (.add (.mul (.var 4) (.lit 48271)) (.mul (.lit 30011) (.cel 2))) (.lit 29)) (.lit 3))) (.lit 1000000007)) (.var 1)
def ieI (ie : IE) (e : Expr) : Bool := decide (dIE NN 10 e = some ie)
def celI (i : Int) (ie : IE) (st : Stmt) : Bool := match celS st with
  | some (k, e) => decide (k = i) && ieI ie e
  | none => false
def nmI (x : Str) (ie : IE) (st : Stmt) : Bool := match nmS st with
  | some (y, e) => y == x && ieI ie e
  | none => false
def cutI (st : Stmt) : Bool := match nmS st with
  | some (y, e) => y == ("_law_cell" : Str) && popE e
  | none => false
def bigI (st : Stmt) : Bool := match celS st with
  | some (k, e) => decide (k = 1) && (match ifE e with
    | some (a, b, c, d) => ieI (.var 2) a && (ieI E3 b && (ieI (.var 2) c && ieI (.lit 0) d))
    | none => false)
  | none => false
theorem celI_ok {i : Int} {ie : IE} {st : Stmt} (h : celI i ie st = true) : ∃ e, celS st = some (i, e) ∧ dIE NN 10 e = some ie := by
  unfold celI at h
  split at h
  · rename_i k e q
    obtain ⟨h1, h2⟩ := Bool.and_eq_true_iff.mp h
    have h1 := of_decide_eq_true h1
    subst h1
    exact ⟨e, q, of_decide_eq_true h2⟩
  · cases h
theorem nmI_ok {x : Str} {ie : IE} {st : Stmt} (h : nmI x ie st = true) : ∃ e p1 p2, st = .Assign [.Name x p1] e p2 ∧ plE e = true ∧ dIE NN 10 e = some ie := by
  unfold nmI at h
  split at h
  · rename_i y e q
    obtain ⟨h1, h2⟩ := Bool.and_eq_true_iff.mp h
    have h1 := eq_of_beq h1
    subst h1
    obtain ⟨p1, p2, e1, e2⟩ := nmS_ok q
    exact ⟨e, p1, p2, e1, e2, of_decide_eq_true h2⟩
  · cases h
theorem cutI_ok {st : Stmt} (h : cutI st = true) : ∃ e p1 p2, st = .Assign [.Name "_law_cell" p1] e p2 ∧ popE e = true := by
  unfold cutI at h
  split at h
  · rename_i y e q
    obtain ⟨h1, h2⟩ := Bool.and_eq_true_iff.mp h
    have h1 := eq_of_beq h1
    subst h1
    obtain ⟨p1, p2, e1, e2⟩ := nmS_ok q
    exact ⟨e, p1, p2, e1, h2⟩
  · cases h
theorem bigI_ok {st : Stmt} (h : bigI st = true) : ∃ p1 j p2 p3 p4 e a b c d, st = .Assign [.Subscript (.Name "_law_stream_here" p1) (.Constant (.int 1) j p2) p3] e p4 ∧ ifE e = some (a, b, c, d) ∧ dIE NN 10 a = some (.var 2) ∧ dIE NN 10 b = some E3 ∧ dIE NN 10 c = some (.var 2) ∧ dIE NN 10 d = some (.lit 0) := by
  unfold bigI at h
  split at h
  · rename_i k e q
    obtain ⟨h1, h2⟩ := Bool.and_eq_true_iff.mp h
    have h1 := of_decide_eq_true h1
    subst h1
    split at h2
    · rename_i a b c d q2
      obtain ⟨h3, h4⟩ := Bool.and_eq_true_iff.mp h2
      obtain ⟨h5, h6⟩ := Bool.and_eq_true_iff.mp h4
      obtain ⟨h7, h8⟩ := Bool.and_eq_true_iff.mp h6
      obtain ⟨p1, j, p2, p3, p4, e1, _⟩ := celS_ok q
      exact ⟨p1, j, p2, p3, p4, e, a, b, c, d, e1, q2, of_decide_eq_true h3, of_decide_eq_true h5, of_decide_eq_true h7, of_decide_eq_true h8⟩
    · cases h2
  · cases h
structure DrC (D : DrP) : Prop where
  a1 : celI 2 E1 D.a1 = true
  c1 : ieI (.cel 1) D.c1 = true
  c2 : ieI (.lit 0) D.c2 = true
  c3 : s0E D.c3 = true
  a2 : cutI D.a2 = true
  a3 : celI 3 E2 D.a3 = true
  a4 : bigI D.a4 = true
  d1 : ieI (.cel 1) D.d1 = true
  d2 : ieI (.lit 0) D.d2 = true
  a5 : nmI "_law_digit" E4 D.a5 = true
  a6 : celI 1 E5 D.a6 = true
  r1 : ieI (.var 3) D.r1 = true
  a7 : nmI "_law_mixed" E6 D.a7 = true
  r2 : ieI E7 D.r2 = true
def spDraw : Sp := fun vs H Q _ => ∃ (t c : Addr) (a b d m : Int) (xs : List Int), vs = [.ref t, .int m] ∧ 0 < m ∧ m < 1000 ∧ Strm H t c a b d xs ∧ b < 1000 ∧
  ∀ H' a' d' xs' r, ExtD t c H H' → Strm H' t c a' (b + 1) d' xs' → 0 ≤ r → r < m → Q (.int r) H'
theorem dp_ints {K : PySem.W.Frag} {H : Hp} : ∀ xs : List Int, DpAll K H (xs.map V.int) (xs.map PyData.int)
  | [] => .nil
  | x :: r => .cons (.int x) (dp_ints r)
theorem lay_ints : ∀ xs : List Int, PyData.canLayAll0 (xs.map PyData.int) = true
  | [] => by simp only [List.map_nil, PyData.canLayAll0]
  | x :: r => by
    simp only [List.map_cons, PyData.canLayAll0, PyData.canLay0, lay_ints r, Bool.and_self]
theorem deep_ints : ∀ xs : List Int, PyData.depthAll (xs.map PyData.int) ≤ 1
  | [] => by simp [PyData.depthAll]
  | x :: r => by
    have := deep_ints r
    simp only [List.map_cons, PyData.depthAll, PyData.depth]
    omega
theorem shaped_ints (xs : List Int) : SeqAt.shaped (.list (xs.map PyData.int)) = true := by
  unfold SeqAt.shaped
  have h1 := lay_ints xs
  have h2 := deep_ints xs
  refine Bool.and_eq_true_iff.mpr ⟨by simpa only [PyData.canLay0] using h1, decide_eq_true ?_⟩
  simp only [PyData.depth]
  omega
theorem eqv_ints (xs : List Int) : PyData.eqv (.list (xs.map PyData.int)) (.list []) = xs.isEmpty := by
  cases xs <;> simp [PyData.eqv, PyData.eqvAll]
def tCel (i : Nat) (ie : IE) : TS := fun D σ H => ∃ (t c : Addr) (a b d r : Int), σ[0]? = some (some (.ref t)) ∧ H t = some (.lst [.ref c, .int a, .int b, .int d]) ∧ ev (cells a b d) (slots σ) ie = some r ∧ i < 4 ∧ D.nx σ (upd H t (.lst (([.ref c, .int a, .int b, .int d] : List V).set i (.int r))))
theorem ifT {b : Bool} {p q : Prop} (h : b = true) (x : p) : if b = true then p else q := by
  rw [if_pos h]
  exact x
theorem ifF {b : Bool} {p q : Prop} (h : b = false) (x : q) : if b = true then p else q := by
  rw [if_neg (by rw [h]; exact Bool.false_ne_true)]
  exact x
/-- what stands behind the loop -/
def tTail : TS := fun D σ H => ∃ (t c : Addr) (a b d m : Int) (cl : Option V) (xs : List Int), σ = [some (.ref t), some (.int m), cl, none, none] ∧ 0 < m ∧ m < 1000 ∧ b ≤ 1000 ∧ Strm H t c a b d xs ∧ ∀ H' a' r, ExtD t c H H' → Strm H' t c a' b d xs → 0 ≤ r → r < m → D.rt (.int r) H'
def tLoop : TS := fun D σ H => ∃ (t c : Addr) (a b d m : Int) (cl : Option V) (xs : List Int), σ = [some (.ref t), some (.int m), cl, none, none] ∧ Strm H t c a b d xs ∧ ∀ H' cl a' d' xs', ExtD t c H H' → Strm H' t c a' b d' xs' → D.nx [some (.ref t), some (.int m), cl, none, none] H'
theorem ev_E6 {a b d : Int} {σ : L2.St} (h1 : 0 ≤ b) (h2 : b ≤ 1000) (h3 : 0 ≤ d) (h4 : d < 2147483647) : ev (cells a b d) (slots σ) E6 = some ((d + 7919 * b + 104729) ^ 5 % 2147483629) := by
  have h : big 7919 = true := by decide
  have h5 : (d + 7919 * b + 104729).natAbs < 2 ^ 64 := by omega
  have h5' : (d + 7919 * b + 104729).natAbs < 18446744073709551616 := h5
  simp [ev, E6, cells, h, h5']
theorem ev_E7 {a b d m x : Int} {u v w : Option V} {l : L2.St} (h1 : 0 ≤ b) (h2 : b ≤ 1000) (h3 : 0 ≤ x) (h4 : x < 2147483629) (h6 : 0 < m) : ev (cells a b d) (slots (u :: some (.int m) :: v :: w :: some (.int x) :: l)) E7 = some ((x * 48271 + 30011 * b + 29) ^ 3 % 1000000007 % m) := by
  have h : big 48271 = true := by decide
  have h0 : big 30011 = true := by decide
  have h5 : (x * 48271 + 30011 * b + 29).natAbs < 18446744073709551616 := by omega
  simp [ev, E7, cells, slots, h, h0, h5, h6]
def absI (x : Int) : Int := if x < 0 then -x else x
theorem absI_nn (x : Int) : 0 ≤ absI x := by
  unfold absI
  split <;> omega
theorem ev_E2 {a b d m x : Int} {u : Option V} {l : L2.St} : ev (cells a b d) (slots (u :: some (.int m) :: some (.int x) :: l)) E2 = some ((d * 8191 + x + 3) % 2147483647) := by
  have h : big 8191 = true := by decide
  simp [ev, E2, cells, slots, h]
section
variable {P : Program} {w : World} {K : PySem.W.Frag} {mg : Str → Option Value} {base : Heap} {k : Nat} {f : Addr} {x : Str} {params : Arguments} {body : List Stmt} {scope : Scope} {dV kV doc pm cdv ct oc : Value} {an od : Option Addr} {osl : Array (Option Value)} {D : DrP}
theorem fnDraw {CX : CXT} (lk : K.lookup f = some ⟨oc, od, .func (PySem.W.fnOf x x params body scope dV kV doc pm an cdv ct), osl⟩) (hcd : PySem.W.codeIn K cdv x = true) (hs : scB NN ["_law_stream_here", "_law_many"] scope = true) (hb : drawP body = some D) (C : DrC D)
    (hl : (["_law_cell", "_law_digit", "_law_mixed"] : List Str).all (fun y => decide (scope.names.lookup y = some .local)) = true) (hg : ∀ c ∈ [("int" : Str), "abs"], glB scope c = true) (mi : mg "int" = none) (ma : mg "abs" = none) :
    FnOk P w K mg base CX (k + 1) f (PySem.W.fnOf x x params body scope dV kV doc pm an cdv ct) ["_law_stream_here", "_law_many"] spDraw := by
  have S := scB_ok hs
  refine fn_of lk hcd S (fun vs H Q E ⟨_, _, _, _, _, _, _, ev, _⟩ => by rw [ev]; rfl) fun A outer s H vs Q E hr ⟨t, c, a, b, d, m, xs, ev, m0, m1, S0, b1, hq⟩ => ?_
  subst ev
  obtain ⟨p1, p2, p3, p4, p5, p6, p7, p8, p9, rfl⟩ := drawP_ok hb
  generalize hX : cxOf CX P w K mg base NN x scope f cdv A outer s H E = X
  have gl : ∀ y ∈ [("int" : Str), "abs"], Gl X y ∧ (y == ("__debug__" : Str)) = false := fun y hy => by
    obtain ⟨g1, g2⟩ := Bool.and_eq_true_iff.mp (show (decide (scope.names.lookup y = some .globalImplicit) && okN y) = true from hg y hy)
    obtain ⟨g3, _⟩ := Bool.and_eq_true_iff.mp (show (!(y == ("__debug__" : Str)) && !(y == ("__classdict__" : Str))) = true from g2)
    refine ⟨?_, by simpa using g3⟩
    rw [← hX]
    exact (of_decide_eq_true g1 : scope.names.lookup y = some .globalImplicit)
  have eN : X.N = NN := by rw [← hX]; rfl
  have loc : ∀ y ∈ (["_law_cell", "_law_digit", "_law_mixed"] : List Str), X.env.scope.names.lookup y = some .local := fun y hy => by
    rw [← hX]
    exact of_decide_eq_true (List.all_eq_true.mp hl y hy)
  have vis : ∀ (j : Nat) (y : Str), X.N[j]? = some y → Vis X.env.scope y := fun j y h => by
    rw [eN] at h
    have two : ∀ z ∈ (["_law_stream_here", "_law_many"] : List Str), Vis X.env.scope z := fun z hz => by
      rw [← hX]
      rcases S.par z hz with q | q
      · exact .inl q
      · exact .inr (.inl q)
    match j, h with
    | 0, h => cases h; exact two _ (by simp)
    | 1, h => cases h; exact two _ (by simp)
    | 2, h => cases h; exact .inl (loc _ (by simp))
    | 3, h => cases h; exact .inl (loc _ (by simp))
    | 4, h => cases h; exact .inl (loc _ (by simp))
    | n + 5, h => simp [NN] at h
  have F : DrF X := ⟨by rw [eN]; rfl, vis, (gl _ (by simp)).1, by rw [← hX]; exact mi⟩
  have rd : ∀ {e : Expr} {ie : IE}, ieI ie e = true → PE X e (tIE ie) := fun {e ie} h => pe_ie F 10 e ie (by rw [eN]; exact of_decide_eq_true h)
  have rd' : ∀ {e : Expr} {ie : IE}, dIE NN 10 e = some ie → PE X e (tIE ie) := fun {e ie} h => pe_ie F 10 e ie (by rw [eN]; exact h)
  have cel : ∀ {st : Stmt} {i : Nat} {ie : IE}, celI (i : Int) ie st = true → PS X st (tCel i ie) := fun {st i ie} h => by
    obtain ⟨e, h1, h2⟩ := celI_ok h
    exact ps_cel F h1 (by rw [eN]; exact h2)
  have nm : ∀ {st : Stmt} {i : Nat} {y : Str} {ie : IE}, NN[i]? = some y → X.env.scope.names.lookup y = some .local → X.fn y = true → nmI y ie st = true → PS X st (tAsg (tIE ie) (gName i)) := fun {st i y ie} h1 h2 h3 h => by
    obtain ⟨e, p1, p2, rfl, h4, h5⟩ := nmI_ok h
    exact ps_set (by rw [eN]; exact S.nd) (by rw [eN]; exact h1) (.inl h2) (rd' h5) (by cases e <;> first | rfl | cases h4) (.inl h3)
  have s1 := cel (i := 2) C.a1
  have s3 := cel (i := 3) C.a3
  have s6 := cel (i := 1) C.a6
  have s5 := nm (i := 3) rfl (loc _ (by simp)) (by rw [← hX]; rfl) C.a5
  have s7 := nm (i := 4) rfl (loc _ (by simp)) (by rw [← hX]; rfl) C.a7
  have hcond := (pw_and (pos := p4) (pt_cmpR (pos := p1) op_eq (rd C.c1) (rd C.c2) (nomark _)) (pw_and1 (pt_cmpR (pos := p3) (op_neD (X := X) (by rw [← hX]; exact hr.units)) (pe_s0 F C.c3) (pe_lst (pos := p2) pa_nil) (nomark _)))).pt
  obtain ⟨e2, u1, u2, eq2, hp2⟩ := cutI_ok C.a2
  obtain ⟨v1, o, apos, j, v2, cpos, v3, rfl, ho, hln⟩ := popE_ok hp2
  have pb := pe_bm (T := "list") PySem.F.plainAttrs_list PySem.F.slot_list_pop PySem.F.type_list_pop mt_popAt (pe_s0 F ho) (pa_cons (pe_int (X := X) (i := 0) (j := j) (pos := v2)) pa_nil) (apos := apos) (cpos := cpos) (s0_base o _ ho) (by rfl) hln (by rfl) (by rfl)
  have pab := pe_callB (p := v1) (pos := v3) (call_abs (X := X)) (gl _ (by simp)).1 (by rw [← hX]; exact ma) PyProof.Rows.boot_abs (pa_cons pb pa_nil)
  have s2 := ps_set (i := 2) (pos := u2) (pos' := u1) (by rw [eN]; exact S.nd) (by rw [eN]; rfl) (.inl (loc _ (by simp))) pab (by rfl) (.inl (by rw [← hX]; rfl))
  rw [← eq2] at s2
  obtain ⟨w1, wj, w2, w3, w4, e4, g1, g2, g3, g4, eq4, hi4, r1, r2, r3, r4⟩ := bigI_ok C.a4
  obtain ⟨y1, y2, rfl⟩ := ifE_ok hi4
  have s4 := ps_asg (pos := w4) (pe_ifExp (pos := y2) (pt_cmpR (pos := y1) op_ge (rd' r1) (rd' r2) (nomark _)) (rd' r3) (rd' r4)) (pg_sub (pos := w3) (pe_var (pos := w1) (i := 0) F.n0 (F.vis 0 _ F.n0)) (pe_int (i := 1) (j := wj) (pos := w2)) set_list) (by rfl) (by rfl) (by rfl)
  rw [← eq4] at s4
  have loop := ps_while (pos := p5) (passes_of (by rw [← hX]; rfl)) hcond (pss_cons s2 (pss_cons s3 (pss_one s4)))
  have hif := ps_if (pos := p8) (pt_cmpR (pos := p6) op_gt (rd C.d1) (rd C.d2) (nomark _)) (pss_cons s5 (pss_cons s6 (pss_one (ps_ret (pos := p7) (rd C.r1))))) pss_nil
  have tail : PSs X [.If (.Compare D.d1 [.Gt] [D.d2] p6) [D.a5, D.a6, .Return (some D.r1) p7] [] p8, D.a7, .Return (some D.r2) p9] tTail := by
    have hh := pss_cons hif (pss_cons s7 (pss_one (ps_ret (pos := p9) (rd C.r2))))
    refine ⟨fun pins s σ H D I ⟨t, c, a, b, d, m, cl, xs, e1, m0, m1, b1, S1, hq⟩ => hh.run pins s σ H D I ?_⟩
    subst e1
    refine ⟨t, c, a, b, d, a, rfl, S1.t, rfl, t, c, a, b, d, 0, rfl, S1.t, rfl, a, 0, rfl, rfl, decide (0 < a), rfl, ?_⟩
    by_cases h : 0 < a
    · refine ifT (decide_eq_true h) ?_
      refine ⟨t, c, a, b, d, a % m, rfl, S1.t, ?_, t, c, a, b, d, a / m, rfl, S1.t, ?_, by decide, t, c, a / m, b, d, a % m, rfl, upd_same, rfl, hq _ (a / m) (a % m) ExtD.refl.set_t (S1.set (Int.ediv_nonneg S1.a0 (by omega)) S1.b0 S1.d0 S1.d1) (Int.emod_nonneg _ (by omega)) (Int.emod_lt_of_pos _ m0)⟩
      · simp [ev, E4, cells, slots, m0]
      · simp [ev, E5, cells, slots, gName, m0]
        omega
    · refine ifF (decide_eq_false h) ?_
      have q1 := Int.emod_nonneg ((d + 7919 * b + 104729) ^ 5) (show (2147483629 : Int) ≠ 0 by decide)
      have q2 := Int.emod_lt_of_pos ((d + 7919 * b + 104729) ^ 5) (show (0 : Int) < 2147483629 by decide)
      generalize hx : (d + 7919 * b + 104729) ^ 5 % 2147483629 = x at q1 q2
      refine ⟨t, c, a, b, d, x, rfl, S1.t, by rw [ev_E6 S1.b0 b1 S1.d0 S1.d1, hx], t, c, a, b, d, (x * 48271 + 30011 * b + 29) ^ 3 % 1000000007 % m, rfl, S1.t, ev_E7 S1.b0 b1 q1 q2 m0, ?_⟩
      exact hq H a _ ExtD.refl S1 (Int.emod_nonneg _ (by omega)) (Int.emod_lt_of_pos _ m0)
  have wh : PS X (.While (.BoolOp .And [.Compare D.c1 [.Eq] [D.c2] p1, .Compare D.c3 [.NotEq] [.List [] p2] p3] p4) [D.a2, D.a3, D.a4] [] p5) tLoop := by
    refine ⟨fun pins s σ H D I ⟨t, c, a, b, d, m, cl, xs, e1, S1, hq⟩ => loop.run pins s σ H D I ?_⟩
    subst e1
    refine ⟨fun n σ G => ∃ cl a d xs, σ = [some (.ref t), some (.int m), cl, none, none] ∧ Strm G t c a b d xs ∧ ExtD t c H G ∧ xs.length = n, ⟨xs.length, cl, a, d, xs, rfl, S1, ExtD.refl, rfl⟩, fun n σ G ⟨cl, a, d, xs, e1, S1, x1, e2⟩ => ?_⟩
    subst e1 e2
    refine ⟨t, c, a, b, d, a, rfl, S1.t, rfl, t, c, a, b, d, 0, rfl, S1.t, rfl, rfl, decide (V.int a = V.int 0), rfl, ?_⟩
    by_cases h : a = 0
    · subst h
      refine ifT (decide_eq_true rfl) ⟨t, c, 0, b, d, rfl, S1.t, Nat.zero_le _, fun p hp => ?_⟩
      have S2 := S1.new hp (o := .lst [])
      have x2 := x1.new hp (o := .lst [])
      have hpc : upd G p (.lst []) p = some (.lst []) := upd_same
      generalize upd G p (.lst []) = G1 at S2 x2 hpc
      refine ⟨.list (xs.map PyData.int), .list [], .lst (.inl (Rd.of S2.c)) (dp_ints xs), .lst (.inl (Rd.of hpc)) .nil, shaped_ints xs, shaped_ints [], _, rfl, ?_⟩
      rw [eqv_ints]
      cases xs with
      | nil => exact ifF rfl (hq G1 cl 0 d [] x2 S2)
      | cons y r =>
        refine ifT rfl ⟨fun σ G => ∃ cl a d, σ = [some (.ref t), some (.int m), cl, none, none] ∧ Strm G t c a b d r ∧ ExtD t c H G, fun σ' G' ⟨cl, a, d, z1, z2, z3⟩ => ⟨r.length, by simp, cl, a, d, r, z1, z2, z3, rfl⟩, ?_⟩
        refine ⟨t, c, 0, b, d, rfl, S2.t, .inl ⟨rfl, _, .inl (Rd.of S2.c)⟩, c, _, 0, 0, .int y, rfl, rfl, S2.c, by decide, by decide, ?_, rfl, y, rfl, ?_⟩
        · show seqIndex? 0 ((y :: r).map V.int).length = some 0
          simp [seqIndex?]
        have S3 : Strm (upd G1 c (.lst (((y :: r).map V.int).eraseIdx 0))) t c 0 b d r := ⟨by rw [upd_ne (Ne.symm S2.ne)]; exact S2.t, by rw [upd_same]; rfl, S2.a0, S2.b0, S2.d0, S2.d1, by have := S2.few; simp at this; omega⟩
        have x3 := x2.set_c (o := .lst (((y :: r).map V.int).eraseIdx 0))
        generalize upd G1 c (.lst (((y :: r).map V.int).eraseIdx 0)) = G3 at S3 x3
        have nn : 0 ≤ absI y := absI_nn y
        show tSeq (tCel 3 E2) _ _ [some (.ref t), some (.int m), some (.int (absI y)), none, none] G3
        generalize absI y = u at nn
        have d0 := Int.emod_nonneg (d * 8191 + u + 3) (show (2147483647 : Int) ≠ 0 by decide)
        have d1 := Int.emod_lt_of_pos (d * 8191 + u + 3) (show (0 : Int) < 2147483647 by decide)
        refine ⟨t, c, 0, b, d, _, rfl, S3.t, ev_E2, by decide, ?_⟩
        generalize (d * 8191 + u + 3) % 2147483647 = d' at d0 d1
        have S4 : Strm (upd G3 t (.lst [.ref c, .int 0, .int b, .int d'])) t c 0 b d' r := S3.set S3.a0 S3.b0 d0 d1
        have x4 := x3.set_t (o := .lst [.ref c, .int 0, .int b, .int d'])
        show (_ : L2.St → Hp → Prop) _ (upd G3 t (.lst [.ref c, .int 0, .int b, .int d']))
        generalize upd G3 t (.lst [.ref c, .int 0, .int b, .int d']) = G4 at S4 x4
        refine ⟨t, c, 0, b, d', u, rfl, S4.t, rfl, t, c, 0, b, d', 10 ^ 18, rfl, S4.t, rfl, u, _, rfl, rfl, decide ((10 : Int) ^ 18 ≤ u), rfl, ?_⟩
        by_cases hu : (10 : Int) ^ 18 ≤ u
        · exact ifT (decide_eq_true hu) ⟨t, c, 0, b, d', u, rfl, S4.t, rfl, .ref t, rfl, t, _, 1, 1, rfl, rfl, S4.t, rfl, some (.int u), u, d', rfl, S4.set nn S4.b0 S4.d0 S4.d1, x4.set_t⟩
        · exact ifF (decide_eq_false hu) ⟨t, c, 0, b, d', 0, rfl, S4.t, rfl, .ref t, rfl, t, _, 1, 1, rfl, rfl, S4.t, rfl, some (.int u), 0, d', rfl, S4.set (Int.le_refl 0) S4.b0 S4.d0 S4.d1, x4.set_t⟩
    · exact ifF (decide_eq_false fun z => h (V.int.inj z)) (hq G cl a d xs x1 S1)
  refine ⟨_, pss_cons s1 (pss_cons wh tail), ?_⟩
  have hN0 : L2.start NN [.ref t, .int m] = [some (.ref t), some (.int m), none, none, none] := rfl
  rw [hN0]
  have S1 : Strm (upd H t (.lst [.ref c, .int a, .int (b + 1), .int d])) t c a (b + 1) d xs := S0.set S0.a0 (by have := S0.b0; omega) S0.d0 S0.d1
  refine ⟨t, c, a, b, d, b + 1, rfl, S0.t, rfl, by decide, t, c, a, b + 1, d, m, none, xs, rfl, S1, fun G cl a' d' xs' x2 S2 => ⟨t, c, a', b + 1, d', m, cl, xs', rfl, m0, m1, by omega, S2, fun G' a'' r x3 S3 r0 r1 => hq G' a'' d' xs' r (fun u o n1 n2 z => x3 u o n1 n2 (x2 u o n1 n2 ((ExtD.refl.set_t (H := H)) u o n1 n2 z))) S3 r0 r1⟩⟩
end
end RWk
end
section
/-! M23: the stream is made; a thing is picked. -/
namespace RWk
open PySem PySem.Spec PyProof.Rows L2 LamX
def streamB : List Stmt → Bool
  | [.Return (some (.List [.Call (.Name l _) [.Name s _] [] _, .Constant (.int a) _ _, .Constant (.int b) _ _, .Constant (.int c) _ _] _)) _] => l == ("list" : Str) && (s == ("_law_script" : Str) && (decide (a = 0) && (decide (b = 0) && decide (c = 17))))
  | _ => false
theorem streamB_ok {b : List Stmt} (h : streamB b = true) : ∃ p1 p2 p3 j1 p4 j2 p5 j3 p6 p7 p8, b = [.Return (some (.List [.Call (.Name "list" p1) [.Name "_law_script" p2] [] p3, .Constant (.int 0) j1 p4, .Constant (.int 0) j2 p5, .Constant (.int 17) j3 p6] p7)) p8] := by
  unfold streamB at h
  split at h
  · simp only [Bool.and_eq_true, beq_iff_eq, decide_eq_true_eq] at h
    obtain ⟨rfl, rfl, rfl, rfl, rfl⟩ := h
    exact ⟨_, _, _, _, _, _, _, _, _, _, _, rfl⟩
  · cases h
def pickB : List Stmt → Bool
  | [.Return (some (.Subscript (.Name a _) (.Call (.Name d _) [.Name s _, .Call (.Name l _) [.Name a2 _] [] _] [] _) _)) _] => a == ("_law_things" : Str) && (d == ("_law_draw" : Str) && (s == ("_law_stream_here" : Str) && (l == ("len" : Str) && a2 == ("_law_things" : Str))))
  | _ => false
theorem pickB_ok {b : List Stmt} (h : pickB b = true) : ∃ p1 p2 p3 p4 p5 p6 p7 p8 p9, b = [.Return (some (.Subscript (.Name "_law_things" p1) (.Call (.Name "_law_draw" p2) [.Name "_law_stream_here" p3, .Call (.Name "len" p4) [.Name "_law_things" p5] [] p6] [] p7) p8)) p9] := by
  unfold pickB at h
  split at h
  · simp only [Bool.and_eq_true, beq_iff_eq, decide_eq_true_eq] at h
    obtain ⟨rfl, rfl, rfl, rfl, rfl⟩ := h
    exact ⟨_, _, _, _, _, _, _, _, _, rfl⟩
  · cases h
def spStream (K : PySem.W.Frag) : Sp := fun vs H Q _ => ∃ (a : Addr) (xs : List Int), vs = [.ref a] ∧ SqL K H a (xs.map V.int) ∧ xs.length ≤ 100000000 ∧ ∀ t c H', Ext H H' → H t = none → H c = none → Strm H' t c 0 0 17 xs → Q (.ref t) H'
def spPick (K : PySem.W.Frag) : Sp := fun vs H Q _ => ∃ (t c s : Addr) (a b d : Int) (xs : List Int) (ys : List V), vs = [.ref t, .ref s] ∧ Strm H t c a b d xs ∧ b < 1000 ∧ SqL K H s ys ∧ s ≠ t ∧ s ≠ c ∧ 0 < ys.length ∧ ys.length < 1000 ∧
  ∀ H' a' d' xs' v, ExtD t c H H' → Strm H' t c a' (b + 1) d' xs' → v ∈ ys → Q v H'
theorem sqL_extD {K : PySem.W.Frag} {H H' : Hp} {t c s : Addr} {ys : List V} (h : SqL K H s ys) (x : ExtD t c H H') (n1 : s ≠ t) (n2 : s ≠ c) : SqL K H' s ys := by
  rcases h with (h | ⟨o, h⟩) | h
  · exact .inl (.inl (x _ _ n1 n2 h))
  · exact .inl (.inr ⟨o, x _ _ n1 n2 h⟩)
  · exact .inr h
section
variable {P : Program} {w : World} {K : PySem.W.Frag} {mg : Str → Option Value} {base : Heap} {k : Nat} {f fd : Addr} {x : Str} {params : Arguments} {body : List Stmt} {scope : Scope} {dV kV doc pm cdv ct oc : Value} {an od : Option Addr} {osl : Array (Option Value)} {fdd : FuncData}
theorem fnStream {CX : CXT} (lk : K.lookup f = some ⟨oc, od, .func (PySem.W.fnOf x x params body scope dV kV doc pm an cdv ct), osl⟩) (hcd : PySem.W.codeIn K cdv x = true) (hs : scB ["_law_script"] ["_law_script"] scope = true) (hb : streamB body = true) (hg : glB scope "list" = true) (ml : mg "list" = none) :
    FnOk P w K mg base CX (k + 1) f (PySem.W.fnOf x x params body scope dV kV doc pm an cdv ct) ["_law_script"] (spStream K) := by
  have S := scB_ok hs
  refine fn_of lk hcd S (fun vs H Q E ⟨_, _, ev, _⟩ => by rw [ev]; rfl) fun A outer s H vs Q E hr ⟨a, xs, ev, hq, few, hk⟩ => ?_
  subst ev
  obtain ⟨p1, p2, p3, j1, p4, j2, p5, j3, p6, p7, p8, rfl⟩ := streamB_ok hb
  generalize hX : cxOf CX P w K mg base ["_law_script"] x scope f cdv A outer s H E = X
  obtain ⟨g1, _⟩ := Bool.and_eq_true_iff.mp (show (decide (scope.names.lookup ("list" : Str) = some .globalImplicit) && okN "list") = true from hg)
  have gl : Gl X "list" := by rw [← hX]; exact (of_decide_eq_true g1 : scope.names.lookup ("list" : Str) = some .globalImplicit)
  have vs : Vis X.env.scope "_law_script" := by
    rw [← hX]
    rcases S.par "_law_script" List.mem_cons_self with z | z
    · exact .inl z
    · exact .inr (.inl z)
  have cl := pe_callTy (p := p1) (pos := p3) (call_list_of (X := X)) gl (by rw [← hX]; exact ml) PyProof.Rows.boot_list (pa_cons (pe_var (pos := p2) (i := 0) (by rw [← hX]; rfl) vs) pa_nil) (by decide) (by decide) (by rfl) (by rfl)
  refine ⟨_, pss_one (ps_ret (pos := p8) (pe_lst (pos := p7) (pa_cons cl (pa_cons (pe_int (i := 0) (j := j1) (pos := p4)) (pa_cons (pe_int (i := 0) (j := j2) (pos := p5)) (pa_cons (pe_int (i := 17) (j := j3) (pos := p6)) pa_nil)))))), ?_⟩
  subst hX
  refine ⟨.ref a, rfl, a, _, rfl, .inl hq, fun c hc => ⟨by show 4 ≤ sizeLine; rw [sizeLine_eq]; decide, fun t ht => hk t c _ (fun b o z => ?_) ?_ hc ⟨upd_same, ?_, by decide, by decide, by decide, by decide, few⟩⟩⟩
  · have z1 : upd H c (.lst (xs.map V.int)) b = some o := by rw [upd_ne (ne_of_none z hc)]; exact z
    rw [upd_ne (ne_of_none z1 ht)]
    exact z1
  · by_cases e : t = c
    · rw [e]; exact hc
    · rw [upd_ne e] at ht
      exact ht
  · have z1 : upd H c (.lst (xs.map V.int)) c = some (.lst (xs.map V.int)) := upd_same
    rw [upd_ne (ne_of_none z1 ht)]
    exact z1
theorem fnPick {CX : CXT} (lk : K.lookup f = some ⟨oc, od, .func (PySem.W.fnOf x x params body scope dV kV doc pm an cdv ct), osl⟩) (hcd : PySem.W.codeIn K cdv x = true) (hs : scB ["_law_stream_here", "_law_things"] ["_law_stream_here", "_law_things"] scope = true) (hb : pickB body = true)
    (hg : ∀ c ∈ [("len" : Str), "_law_draw"], glB scope c = true) (ml : mg "len" = none) (md : mg "_law_draw" = some (.ref fd)) (kd : PySem.W.keepIn K (.ref fd) = true) (F : FnOk P w K mg base C8.CX0 k fd fdd ["_law_stream_here", "_law_many"] spDraw) (Pd : PB fdd ["_law_stream_here", "_law_many"]) :
    FnOk P w K mg base CX (k + 1) f (PySem.W.fnOf x x params body scope dV kV doc pm an cdv ct) ["_law_stream_here", "_law_things"] (spPick K) := by
  have S := scB_ok hs
  refine fn_of lk hcd S (fun vs H Q E ⟨_, _, _, _, _, _, _, _, ev, _⟩ => by rw [ev]; rfl) fun A outer s H vs Q E hr ⟨t, c, sa, a, b, d, xs, ys, ev, S0, b1, hq, n1, n2, l0, l1, hk⟩ => ?_
  subst ev
  obtain ⟨p1, p2, p3, p4, p5, p6, p7, p8, p9, rfl⟩ := pickB_ok hb
  generalize hX : cxOf CX P w K mg base ["_law_stream_here", "_law_things"] x scope f cdv A outer s H E = X
  have gl : ∀ y ∈ [("len" : Str), "_law_draw"], Gl X y ∧ (y == ("__debug__" : Str)) = false := fun y hy => by
    obtain ⟨g1, g2⟩ := Bool.and_eq_true_iff.mp (show (decide (scope.names.lookup y = some .globalImplicit) && okN y) = true from hg y hy)
    obtain ⟨g3, _⟩ := Bool.and_eq_true_iff.mp (show (!(y == ("__debug__" : Str)) && !(y == ("__classdict__" : Str))) = true from g2)
    refine ⟨?_, by simpa using g3⟩
    rw [← hX]
    exact (of_decide_eq_true g1 : scope.names.lookup y = some .globalImplicit)
  have vis : ∀ y ∈ [("_law_stream_here" : Str), "_law_things"], Vis X.env.scope y := fun y hy => by
    rw [← hX]
    rcases S.par y hy with z | z
    · exact .inl z
    · exact .inr (.inl z)
  have pt : ∀ p, PE X (.Name "_law_things" p) (tVar 1) := fun p => pe_var (by rw [← hX]; rfl) (vis _ (by simp))
  have pst : ∀ p, PE X (.Name "_law_stream_here" p) (tVar 0) := fun p => pe_var (by rw [← hX]; rfl) (vis _ (by simp))
  have cl := pe_callB (p := p4) (pos := p6) (call_len_seq (X := X)) (gl "len" (by simp)).1 (by rw [← hX]; exact ml) boot_len (pa_cons (pt p5) pa_nil)
  have cd := pe_call (X := X) (p := p2) (pos := p7) (E := C8.E0) (by rw [← hX]; exact F) (by rw [← hX]; exact hr) (gl "_law_draw" (by simp)).1 (by rw [← hX]; exact md) (by rw [← hX]; exact kd) (Pd.binds _) .nil C8.pass0 (pa_cons (pst p3) (pa_cons cl pa_nil)) (gl "_law_draw" (by simp)).2
  have ci := pe_ix (pos := p8) (ix_list (X := X)) (pt p1) cd (fun _ _ => rfl)
  refine ⟨_, pss_one (ps_ret (pos := p9) ci), ?_⟩
  subst hX
  refine ⟨.ref sa, rfl, .ref t, rfl, .ref sa, rfl, sa, ys, rfl, .inl hq, t, c, a, b, d, (ys.length : Int), xs, rfl, by omega, by omega, S0, b1, fun H' a' d' xs' r x1 S1 r0 r1 => ?_⟩
  have hj : r.toNat < ys.length := by omega
  refine ⟨sa, ys, r, ys[r.toNat], rfl, rfl, sqL_extD hq x1 n1 n2, ?_, hk H' a' d' xs' _ x1 S1 (List.getElem_mem _)⟩
  have z : ∀ q : Int, ((r.toNat : Nat) : Int) = q → atI ys q = some ys[r.toNat] := fun q e => by
    rw [← e]
    exact atI_nat (by simp [hj])
  exact z r (by omega)
end
end RWk
end
section
/-! M24: data that stays; the answers are compared. -/
namespace RWk
open PySem PySem.Spec PyProof.Rows L2 LamX
section
variable {H H' : Hp}
mutual
theorem Shw.extN (e : ExtN H H') : ∀ (d : PyData) (v : V), Shw H v d → Shw H' v d
  | .none, _, h => by
    cases h
    exact .non
  | .bool b, _, h => by
    cases h
    exact .bl b
  | .int i, _, h => by
    cases h
    exact .int i
  | .str x, _, h => by
    cases h
    exact .str x
  | .list ds, _, h => by
    cases h with
    | lst hs ha => exact .lst (e _ _ hs fun _ z => by cases z) (Shw.extNs e ds _ ha)
  | .tuple ds, _, h => by
    cases h with
    | tup hs ha => exact .tup (e _ _ hs fun _ z => by cases z) (Shw.extNs e ds _ ha)
  | .dict kvs, _, h => by
    cases h with
    | dic hs => exact .dic (e _ _ hs fun _ z => by cases z)
theorem Shw.extNs (e : ExtN H H') : ∀ (ds : List PyData) (vs : List V), ShwAll H vs ds → ShwAll H' vs ds
  | [], _, h => by
    cases h
    exact .nil
  | d :: ds, _, h => by
    cases h with
    | cons h1 h2 => exact .cons (Shw.extN e d _ h1) (Shw.extNs e ds _ h2)
end
theorem Dat.extN {x : V} {d : PyData} (h : Dat H x d) (e : ExtN H H') : Dat H' x d := ⟨Shw.extN e d x h.1, h.2⟩
theorem Told.extN {v : V} {ls : List V} (h : Told v ls H) (e : ExtN H H') : Told v ls H' := fun y hy => by
  obtain ⟨a, e1, e2⟩ := h y hy
  exact ⟨a, e1, e _ _ e2 fun _ z => by cases z⟩
end
theorem alike_path {K : PySem.W.Frag} {H : Hp} {v : V} {d : PyData} {a b : Addr} (hd : Dat H v d) (hs : Slf v) (ha : H a = some (.lst [.str "path", v])) (hb : H b = some (.lst [.str "path", v])) : Alike K H a b := by
  obtain ⟨d1, d2, d3, d4⟩ := hd
  have p1 : (PyData.str "path").showable = true := by decide +kernel
  have p2 : (PyData.str "path").shown.length = 6 := by decide +kernel
  refine ⟨⟨.list [.str "path", d], .lst ha (.cons (.str _) (.cons d1 .nil)), .lst hb (.cons (.str _) (.cons d1 .nil)), ?_, ?_, ?_⟩, 2, by decide, .inl ⟨a, b, _, _, rfl, rfl, .inl (Rd.of ha), .inl (Rd.of hb), .cons (.inl ⟨rfl, rfl⟩) (.cons (slf_eq hs) .nil)⟩⟩
  · simp only [PyData.showable, PyData.showableAll, Bool.and_true, Bool.and_eq_true]
    exact ⟨by simpa only [PyData.showable] using p1, d2⟩
  · have hl := listText_le [(PyData.str "path").shown, d.shown]
    simp only [List.map_cons, List.map_nil, List.sum_cons, List.sum_nil, List.length_cons, List.length_nil, p2] at hl
    rw [sizeLine_eq]
    simp only [PyData.shown, PyData.shownAll] at hl ⊢
    omega
  · simp only [PyData.depth, PyData.depthAll]
    omega
/-- [same(one, ["path", odd]) for one in found] -/
def lcSame : Expr → Option Scope
  | .ListComp (.Call (.Name s _) [.Name one _, .List [.Constant (.str p) _ _, .Name o _] _] [] _) [⟨.Name one2 _, .Name f _, [], 0⟩] sc _ => if s == ("_law_same" : Str) && (one == ("_law_one" : Str) && (p == ("path" : Str) && (o == ("_law_odd" : Str) && (one2 == ("_law_one" : Str) && f == ("_law_found" : Str))))) then some sc else none
  | _ => none
theorem lcSame_ok {e : Expr} {sc : Scope} (h : lcSame e = some sc) : ∃ p1 p2 j p3 p4 p5 p6 p7 p8 p9, e = .ListComp (.Call (.Name "_law_same" p1) [.Name "_law_one" p2, .List [.Constant (.str "path") j p3, .Name "_law_odd" p4] p5] [] p6) [⟨.Name "_law_one" p7, .Name "_law_found" p8, [], 0⟩] sc p9 := by
  unfold lcSame at h
  split at h
  · split at h
    · rename_i q
      simp only [Bool.and_eq_true, beq_iff_eq] at q
      obtain ⟨rfl, rfl, rfl, rfl, rfl, rfl⟩ := q
      cases h
      exact ⟨_, _, _, _, _, _, _, _, _, _, rfl⟩
    · cases h
  · cases h
theorem relabel_gl {env : Env} : ∀ {names : List (Str × NameKind)} {x : Str}, names.lookup x = some .globalImplicit →
    (names.map fun (n, k) => if (k == NameKind.free && env.scope.kind == .function && env.kindOf n == some .cell) then (n, NameKind.cell) else (n, k)).lookup x = some .globalImplicit
  | [], _, h => by simp at h
  | (n, k) :: r, x, h => by
    rw [List.map_cons]
    by_cases z : x = n
    · subst z
      simp [List.lookup] at h
      subst h
      dsimp only
      split
      · rename_i q
        simp at q
      · simp [List.lookup]
    · have e : (x == n) = false := by simpa using z
      have h' : r.lookup x = some .globalImplicit := by simpa [List.lookup, e] using h
      have ih := relabel_gl (env := env) h'
      dsimp only
      split <;> simpa [List.lookup, e] using ih
def NO : List Str := ["_law_odd", "_law_found", "_law_one"]
theorem pe_lcSame {X : Cx} {k : Nat} {f : Addr} {fd : FuncData} (hc : X.calm = true) (hN : X.N = NO) (F : FnG X.prog X.w X.K X.mg X.base C8.CX0 k f fd ["_law_found", "_law_due"] (spSame X.K)) (B : PB fd ["_law_found", "_law_due"]) (hr : Room k X.A) (hgd : X.A.guards = some []) (hm : X.mg "_law_same" = some (.ref f)) (hk : PySem.W.keepIn X.K (.ref f) = true)
    (vf : Vis X.env.scope "_law_found") {e : Expr} {sc : Scope} (h : lcSame e = some sc) (hb : blkB X.N X.env.scope sc [("_law_one", 2)] = true) (v1 : sc.names.lookup ("_law_odd" : Str) = some .free) (v2 : sc.names.lookup ("_law_one" : Str) = some .local) (v3 : sc.names.lookup ("_law_same" : Str) = some .globalImplicit) :
    PE X e (fun σ H Q => ∃ (v : V) (l : Addr) (ls : List V) (d : PyData), σ.length = 3 ∧ σ[0]? = some (some v) ∧ σ[1]? = some (some (.ref l)) ∧ H l = some (.lst ls) ∧ ls.length ≤ 1000 ∧ Told v ls H ∧ Dat H v d ∧ Slf v ∧ ∀ D H', Ext H H' → H' D = some (.lst ((List.replicate ls.length true).map V.bl)) → Q (.ref D) H') := by
  obtain ⟨p1, p2, j, p3, p4, p5, p6, p7, p8, p9, rfl⟩ := lcSame_ok h
  have nd : X.N.Nodup := by rw [hN]; decide
  have gsame : ∀ s H C cl fp, Gl (X.blk s H sc (compEnvC sc cl C X.env) fp) "_law_same" := fun s H C cl fp => relabel_gl v3
  have hh := pe_lc (X := X) (pos := p9) (scope := sc) (own := [("_law_one", 2)]) (g := gName 2) (tt := tYes) (te := tCall (spSame X.K) [] C8.E0 (tCons (tVar 2) (tCons (tLst (tCons (tC (.str "path")) (tCons (tVar 0) tNil))) tNil))) hc nd
    (pi_list (tg := .Name "_law_one" p7) (pe_var (pos := p8) (i := 1) (by rw [hN]; rfl) vf)) (blkB_ok hb) (fun s H C cl fp => pg_name (X := X.blk s H sc (compEnvC sc cl C X.env) fp) nd (by show X.N[2]? = _; rw [hN]; rfl) (.inl (loc_blk v2)) (.inr (loc_blk v2)))
    (fun s H C cl fp => pts_nil) (fun s H C cl fp => pe_callG (X := X.blk s H sc (compEnvC sc cl C X.env) fp) (p := p1) (pos := p6) (E := C8.E0) F hr hgd (gsame s H C cl fp) hm hk (B.binds _) C8.pass0
      (pa_cons (pe_var (pos := p2) (i := 2) (by show X.N[2]? = _; rw [hN]; rfl) (.inl (loc_blk v2))) (pa_cons (pe_lst (pos := p5) (pa_cons (pe_str (x := "path") (j := j) (pos := p3)) (pa_cons (pe_var (pos := p4) (i := 0) (by show X.N[0]? = _; rw [hN]; rfl) (vis_blk_free v1)) pa_nil))) pa_nil)))
  refine PE.imp hh fun σ H Q ⟨v, l, ls, d, h0, h1, h2, h3, h4, h5, h6, h7, hq⟩ => ?_
  refine ⟨.ref l, h2, l, rfl, ⟨ls, .inl (Rd.of h3)⟩, fun D hD => ?_⟩
  refine lc_it (walk_list (xs := ls)) (fun i H' => Ext H H' ∧ H' D = some (.lst ((List.replicate i true).map V.bl))) ⟨ext_new hD, upd_same⟩ (fun i H' _ w => .inl (Rd.of (w.1 _ _ h3))) (fun i y σ0 G hi w' z' => ?_) fun G ⟨w1, w2⟩ => hq D G w1 w2
  obtain ⟨w1, w2⟩ := w'
  obtain ⟨e1, e2⟩ := z'
  subst e1
  obtain ⟨a, rfl, ha⟩ := h5 y (List.mem_of_getElem? e2)
  have l3 : (wipe σ [2]).length = 3 := by rw [wipe_length, h0]
  refine ⟨?_, .ref a, by rw [List.getElem?_set_self (by show 2 < (wipe σ [2]).length; rw [l3]; decide)], v, ?_, by show 2 ≤ sizeLine; rw [sizeLine_eq]; decide, fun b hb' => ?_⟩
  · show (((σ.set 2 none).set 2 _).set 2 none) = σ.set 2 none
    rw [List.set_set, List.set_set]
  · rw [List.getElem?_set_ne (by decide)]
    show (σ.set 2 none)[0]? = _
    rw [List.getElem?_set_ne (by decide)]
    exact h1
  · have x2 : Ext G (upd G b (.lst [.str "path", v])) := ext_new hb'
    have x3 : Ext H (upd G b (.lst [.str "path", v])) := fun c o z => x2 c o (w1 c o z)
    refine ⟨a, b, rfl, alike_path (h6.extN (ExtN.of x3)) h7 (x3 _ _ ha) upd_same, (List.replicate i true).map V.bl, x2 _ _ w2, by simp [sizeLine_eq]; omega, fun c o z => ?_, ?_⟩
    · rw [upd_ne (ne_of_none z hD)]
      exact x3 c o z
    · rw [upd_same, List.replicate_succ', List.map_append]
      rfl
end RWk
end
section
/-! M25: one odd thing, asked of all. -/
namespace RWk
open PySem PySem.Spec PyProof.Rows L2 LamX
/-- the answers of m askings, all in one list -/
def tAskN (K : PySem.W.Frag) (CP : Addr) (Tb : List (Addr × Str)) (m : Nat) : TE := fun σ H Q => ∃ v, σ[0]? = some (some v) ∧ NP K CP H v ∧ Tabs Tb H ∧ ∀ l ls H', ExtN H H' → Tabs Tb H' → H' l = some (.lst ls) → ls.length = m → Told v ls H' → Q (.ref l) H'
structure AskF (P : Program) (w : World) (K : PySem.W.Frag) (mg : Str → Option Value) (base : Heap) (CP : Addr) (Tb : List (Addr × Str)) (k : Nat) (x : Str) (m : Nat) : Prop where
  ex : ∃ (f : Addr) (fd : FuncData), mg x = some (.ref f) ∧ PySem.W.keepIn K (.ref f) = true ∧ FnOk P w K mg base C8.CX0 k f fd ["_law_odd"] (spAsk K CP Tb m) ∧ PB fd ["_law_odd"]
section
variable {X : Cx} {CP : Addr} {Tb : List (Addr × Str)} {k : Nat}
theorem pe_ask {x : Str} {m : Nat} {e : Expr} (F : AskF X.prog X.w X.K X.mg X.base CP Tb k x m) (h : call1 e = some (x, ("_law_odd" : Str))) (hr : Room k X.A) (hg : Gl X x) (hdb : (x == ("__debug__" : Str)) = false) (hN : X.N[0]? = some ("_law_odd" : Str)) (hV : Vis X.env.scope "_law_odd") :
    PE X e (tAskN X.K CP Tb m) := by
  obtain ⟨f, fd, e1, e2, e3, e4⟩ := F.ex
  obtain ⟨p1, p2, p3, rfl⟩ := call1_ok h
  refine PE.imp (pe_call (X := X) (p := p1) (pos := p3) (E := C8.E0) e3 hr hg e1 e2 (e4.binds _) .nil C8.pass0 (pa_cons (pe_var (pos := p2) hN hV) pa_nil) hdb) fun σ H Q ⟨v, h0, h1, h2, h3⟩ => ⟨v, h0, v, rfl, h1, h2, fun l ls H' x1 x2 x3 x4 x5 x6 x7 => h3 l ls H' x1 x3 x5 x4 x6⟩
theorem pe_asks {a b : Expr} {m n : Nat} {pos : Pos} (ha : PE X a (tAskN X.K CP Tb m)) (hb : PE X b (tAskN X.K CP Tb n)) (few : m + n ≤ 10000) : PE X (.BinOp a .Add b pos) (tAskN X.K CP Tb (m + n)) := by
  refine PE.imp (pe_op (pos := pos) op_cat ha hb) fun σ H Q ⟨v, h0, h1, h2, h3⟩ => ⟨v, h0, h1, h2, fun l ls H1 x1 x2 x3 x4 x5 => ⟨v, h0, h1.ext x1, x2, fun l' ls' H2 y1 y2 y3 y4 y5 => ?_⟩⟩
  refine ⟨l, l', ls, ls', rfl, rfl, y1 _ _ x3 (fun _ z => by cases z), y3, by rw [x4, y4, sizeLine_eq]; omega, fun p hp => ?_⟩
  have e1 : ExtN H2 (upd H2 p (.lst (ls ++ ls'))) := extN_new hp
  refine h3 p (ls ++ ls') _ ((x1.trans y1).trans e1) (tabs_new y2 hp) upd_same (by rw [List.length_append, x4, y4]) fun y hy => ?_
  rcases List.mem_append.mp hy with hy | hy
  · exact (x5.extN (y1.trans e1)) y hy
  · exact (y5.extN e1) y hy
end
def OddN (K : PySem.W.Frag) (CP : Addr) (H : Hp) (v : V) : Prop := ∃ t d, TyX K H v t ∧ PySem.W.kitOne K t (.ref CP) = some false ∧ PySem.W.kitOne K t (.type "list") = some false ∧ Dat H v d ∧ Slf v
def tOdd (K : PySem.W.Frag) (CP : Addr) (Tb : List (Addr × Str)) : TS := fun D σ H => ∃ v, σ.length = 3 ∧ σ[0]? = some (some v) ∧ Tabs Tb H ∧ ((OddN K CP H v ∧ ∀ σ' H', σ'.length = 3 → ExtN H H' → Tabs Tb H' → D.nx σ' H') ∨ ∃ lo li, v = .ref lo ∧ H lo = some (.lst [.ref li]) ∧ H li = some (.lst [.str "a", .str "b"]) ∧ ∀ σ' H', σ'.length = 3 → ExtL lo H H' → Tabs Tb H' → D.nx σ' H')
/-- the body of the loop -/
structure PrP where
  qa : Expr
  qb : Expr
  qc : Expr
  qd : Expr
  lc : Expr
def bodyP : List Stmt → Option PrP
  | [.Assign [.Name f _] (.BinOp (.BinOp (.BinOp qa .Add qb _) .Add qc _) .Add qd _) _, .If (.Call (.Name i _) [.Name o _, .Name l _] [] _) [.Expr (.Call (.Attribute (.Name o2 _) ap apos) [.Constant (.str s) _ _] [] cpos) _] [] _,
      .If (.UnaryOp .Not (.Call (.Name al _) [lc] [] _) _) [.Return (some (.Constant (.bool false) _ _)) _] [] _] =>
    if f == ("_law_found" : Str) && (i == ("isinstance" : Str) && (o == ("_law_odd" : Str) && (l == ("list" : Str) && (o2 == ("_law_odd" : Str) && (ap == ("append" : Str) && (s == ("late" : Str) && (al == ("all" : Str) && ((apos.endLine == cpos.line) && notStar lc)))))))) then some ⟨qa, qb, qc, qd, lc⟩ else none
  | _ => none
theorem bodyP_ok {b : List Stmt} {D : PrP} (h : bodyP b = some D) : ∃ p1 p2 p3 p4 p5 p6 p7 p8 p9 p10 p11 apos j p12 cpos p13 p14 p15 p16 p17 j2 p18 p19, b = [.Assign [.Name "_law_found" p1] (.BinOp (.BinOp (.BinOp D.qa .Add D.qb p2) .Add D.qc p3) .Add D.qd p4) p5,
    .If (.Call (.Name "isinstance" p6) [.Name "_law_odd" p7, .Name "list" p8] [] p9) [.Expr (.Call (.Attribute (.Name "_law_odd" p10) "append" apos) [.Constant (.str "late") j p12] [] cpos) p13] [] p11,
    .If (.UnaryOp .Not (.Call (.Name "all" p14) [D.lc] [] p15) p16) [.Return (some (.Constant (.bool false) j2 p17)) p18] [] p19] ∧ (apos.endLine == cpos.line) = true ∧ notStar D.lc = true := by
  unfold bodyP at h
  split at h
  · split at h
    · rename_i q
      simp only [Bool.and_eq_true, beq_iff_eq] at q
      obtain ⟨rfl, rfl, rfl, rfl, rfl, rfl, rfl, rfl, q1, q2⟩ := q
      cases h
      exact ⟨_, _, _, _, _, _, _, _, _, _, _, _, _, _, _, _, _, _, _, _, _, _, _, rfl, beq_iff_eq.mpr q1, q2⟩
    · cases h
  · cases h
theorem all_rep : ∀ n : Nat, (List.replicate n true).all id = true
  | 0 => rfl
  | n + 1 => by
    rw [List.replicate_succ, List.all_cons, all_rep n]
    rfl
section
variable {X : Cx} {CP : Addr} {Tb : List (Addr × Str)} {k ma mb mc md : Nat} {fs : Addr} {fds : FuncData}
theorem pss_odd (hc : X.calm = true) (hN : X.N = NO) (hr : Room k X.A) (hgd : X.A.guards = some []) (vo : Vis X.env.scope "_law_odd") (vf : X.env.scope.names.lookup ("_law_found" : Str) = some .local) (hfn : X.fn "_law_found" = true)
    (hg : ∀ y ∈ [("_law_asked_a" : Str), "_law_asked_b", "_law_asked_c", "_law_asked_d", "isinstance", "list", "all"], Gl X y ∧ (y == ("__debug__" : Str)) = false) (mi : X.mg "isinstance" = none) (ml : X.mg "list" = none) (mal : X.mg "all" = none)
    (Fa : AskF X.prog X.w X.K X.mg X.base CP Tb k "_law_asked_a" ma) (Fb : AskF X.prog X.w X.K X.mg X.base CP Tb k "_law_asked_b" mb) (Fc : AskF X.prog X.w X.K X.mg X.base CP Tb k "_law_asked_c" mc) (Fd : AskF X.prog X.w X.K X.mg X.base CP Tb k "_law_asked_d" md) (few : ma + mb + mc + md ≤ 1000) (many : 2 ≤ ma + mb + mc + md)
    (F : FnG X.prog X.w X.K X.mg X.base C8.CX0 k fs fds ["_law_found", "_law_due"] (spSame X.K)) (B : PB fds ["_law_found", "_law_due"]) (hm : X.mg "_law_same" = some (.ref fs)) (hk : PySem.W.keepIn X.K (.ref fs) = true) (kl : PySem.W.kitOne X.K (.type "list") (.ref CP) = some false)
    {b : List Stmt} {D : PrP} {sc : Scope} (hb : bodyP b = some D) (qa : call1 D.qa = some (("_law_asked_a" : Str), ("_law_odd" : Str))) (qb : call1 D.qb = some (("_law_asked_b" : Str), ("_law_odd" : Str))) (qc : call1 D.qc = some (("_law_asked_c" : Str), ("_law_odd" : Str))) (qd : call1 D.qd = some (("_law_asked_d" : Str), ("_law_odd" : Str)))
    (ql : lcSame D.lc = some sc) (hbk : blkB X.N X.env.scope sc [("_law_one", 2)] = true) (v1 : sc.names.lookup ("_law_odd" : Str) = some .free) (v2 : sc.names.lookup ("_law_one" : Str) = some .local) (v3 : sc.names.lookup ("_law_same" : Str) = some .globalImplicit) : PSs X b (tOdd X.K CP Tb) := by
  obtain ⟨p1, p2, p3, p4, p5, p6, p7, p8, p9, p10, p11, apos, j, p12, cpos, p13, p14, p15, p16, p17, j2, p18, p19, rfl, hln, hns⟩ := bodyP_ok hb
  have n0 : X.N[0]? = some ("_law_odd" : Str) := by rw [hN]; rfl
  have pv : ∀ p, PE X (.Name "_law_odd" p) (tVar 0) := fun p => pe_var n0 vo
  have ask : ∀ {y : Str} {m : Nat} {e : Expr}, y ∈ [("_law_asked_a" : Str), "_law_asked_b", "_law_asked_c", "_law_asked_d", "isinstance", "list", "all"] → AskF X.prog X.w X.K X.mg X.base CP Tb k y m → call1 e = some (y, ("_law_odd" : Str)) → PE X e (tAskN X.K CP Tb m) := fun {y m e} hy F q => pe_ask F q hr (hg y hy).1 (hg y hy).2 n0 vo
  have pq := pe_asks (pos := p4) (pe_asks (pos := p3) (pe_asks (pos := p2) (ask (by simp) Fa qa) (ask (by simp) Fb qb) (by omega)) (ask (by simp) Fc qc) (by omega)) (ask (by simp) Fd qd) (by omega)
  have s1 := ps_set (X := X) (i := 1) (pos := p5) (pos' := p1) (by rw [hN]; decide) (by rw [hN]; rfl) (.inl vf) pq (by rfl) (.inl hfn)
  have plist : PE X (.Name "list" p8) (tC (.ty "list")) := pe_bltn (hg _ (by simp)).1 ml PyProof.Rows.boot_list rfl
  have hisi := pt_val (pe_callB (p := p6) (pos := p9) (call_isi (X := X)) (hg _ (by simp)).1 mi boot_isinstance (pa_cons (pv p7) (pa_cons plist pa_nil))) (fun _ => by rfl)
  have sap := ps_expr (pos := p13) (pe_bm (T := "list") PySem.F.plainAttrs_list PySem.F.slot_list_append PySem.F.type_list_append mt_append (pv p10) (pa_cons (pe_str (X := X) (x := "late") (j := j) (pos := p12)) pa_nil) (apos := apos) (cpos := cpos) (by rfl) (by rfl) hln (by rfl) (by rfl)) (by rfl)
  have s2 := ps_if (pos := p11) hisi (pss_one sap) pss_nil
  have plc := pe_lcSame hc hN F B hr hgd hm hk (.inl vf) ql hbk v1 v2 v3
  have pall := pt_val (pe_callB (p := p14) (pos := p15) (cr_all (X := X) hc) (hg _ (by simp)).1 mal PyProof.Rows.boot_all (pa_cons plc pa_nil (starEach_ns hns)) (by decide) (by decide) (starEach_ns hns) (by rfl)) (fun _ => by rfl)
  have s3 := ps_if (pos := p19) (pt_not (pos := p16) pall) (pss_one (ps_ret (pos := p18) (pe_bl (b := false) (j := j2) (pos := p17)))) pss_nil
  have hh := pss_cons s1 (pss_cons s2 (pss_one s3))
  refine ⟨fun pins s σ H D I ⟨v, l3, h0, ht, hq⟩ => hh.run pins s σ H D I ?_⟩
  rcases hq with ⟨⟨t, d, t1, t2, t3, t4, t5⟩, hq⟩ | ⟨lo, li, rfl, o1, o2, hq⟩
  · refine ⟨v, h0, ⟨t, t1, t2⟩, ht, fun l ls H1 x1 x2 x3 x4 x5 => ?_⟩
    have g0 : (σ.set 1 (some (V.ref l)))[0]? = some (some v) := by rw [List.getElem?_set_ne (by decide)]; exact h0
    refine ⟨v, g0, v, .ty "list", t, .type "list", false, rfl, .ty _, tyX_ext t1 x1, t3, false, rfl, ?_⟩
    refine ifF rfl ⟨v, l, ls, d, by simpa using l3, g0, by rw [List.getElem?_set_self (by omega)], x3, by omega, x5, t4.extN x1, t5, fun A H2 x6 x7 => ⟨A, List.replicate ls.length true, rfl, .inl (Rd.of x7), _, rfl, ?_⟩⟩
    rw [all_rep]
    exact ifF rfl (hq _ _ (by simpa using l3) (x1.trans (ExtN.of x6)) (x2.ext x6))
  · refine ⟨.ref lo, h0, ⟨.type "list", .base (.lst o1), kl⟩, ht, fun l ls H1 x1 x2 x3 x4 x5 => ?_⟩
    have g0 : (σ.set 1 (some (V.ref l)))[0]? = some (some (.ref lo)) := by rw [List.getElem?_set_ne (by decide)]; exact h0
    have y1 : H1 lo = some (.lst [.ref li]) := x1 _ _ o1 fun _ z => by cases z
    have y2 : H1 li = some (.lst [.str "a", .str "b"]) := x1 _ _ o2 fun _ z => by cases z
    refine ⟨.ref lo, g0, .ref lo, .ty "list", .type "list", .type "list", true, rfl, .ty _, .base (.lst y1), kit_ty (by decide +kernel), true, rfl, ?_⟩
    refine ifT rfl ⟨.ref lo, g0, .inl ⟨rfl, _, .inl (Rd.of y1)⟩, lo, [.ref li], .str "late", rfl, rfl, y1, by show 1 < sizeLine; rw [sizeLine_eq]; decide, ?_⟩
    have z1 : upd H1 lo (.lst ([.ref li] ++ [.str "late"])) lo = some (.lst [.ref li, .str "late"]) := upd_same
    have z2 : ∀ b xs, H1 b = some (.lst xs) → xs ≠ [.ref li] → upd H1 lo (.lst ([.ref li] ++ [.str "late"])) b = some (.lst xs) := fun b xs e n => by
      rw [upd_ne fun z => n ?_]
      · exact e
      · rw [z, y1] at e
        cases e
        rfl
    have z4 : ∀ b o, H1 b = some o → b ≠ lo → upd H1 lo (.lst ([.ref li] ++ [.str "late"])) b = some o := fun b o e n => by rw [upd_ne n]; exact e
    have z3 : Tabs Tb (upd H1 lo (.lst ([.ref li] ++ [.str "late"]))) := tabs_set x2 y1
    generalize upd H1 lo (.lst ([.ref li] ++ [.str "late"])) = H2 at z1 z2 z3 z4
    have w2 : H2 li = some (.lst [.str "a", .str "b"]) := z2 _ _ y2 (by simp)
    have wt : Told (.ref lo) ls H2 := fun y hy => by
      obtain ⟨a, e1, e2⟩ := x5 y hy
      exact ⟨a, e1, z2 _ _ e2 (by simp)⟩
    have wl : H2 l = some (.lst ls) := z2 _ _ x3 fun z => by rw [z] at x4; simp at x4; omega
    have wd : Dat H2 (.ref lo) (.list [.list [.str "a", .str "b"], .str "late"]) := ⟨.lst z1 (.cons (.lst w2 (.cons (.str _) (.cons (.str _) .nil))) (.cons (.str _) .nil)), by decide +kernel, by decide +kernel, by decide +kernel⟩
    refine ⟨.ref lo, l, ls, _, by simpa using l3, g0, by rw [List.getElem?_set_self (by omega)], wl, by omega, wt, wd, .inr ⟨lo, rfl⟩, fun A H3 x6 x7 => ⟨A, List.replicate ls.length true, rfl, .inl (Rd.of x7), _, rfl, ?_⟩⟩
    rw [all_rep]
    exact ifF rfl (hq _ _ (by simpa using l3) (fun b o e nt nl => x6 _ _ (z4 _ _ (x1 b o e nt) nl)) (z3.ext x6))
end
end RWk
end
section
/-! M26: the def that asks with all odd things. -/
namespace RWk
open PySem PySem.Spec PyProof.Rows L2 LamX
def oddsB : Expr → Bool
  | .Tuple [.Constant .none _ _, .Constant (.int a) _ _, .Constant (.str b) _ _, .Constant (.bool c) _ _, .Tuple [] _ _, .Dict [some (.Constant (.str k) _ _)] [.Constant (.int z) _ _] _, .List [.List [.Constant (.str u) _ _, .Constant (.str w) _ _] _] _] _ _ =>
    decide (a = 5) && (b == ("ab" : Str) && (c && (k == ("a" : Str) && (decide (z = 0) && (u == ("a" : Str) && w == ("b" : Str))))))
  | _ => false
theorem oddsB_ok {e : Expr} (h : oddsB e = true) : ∃ j1 p1 j2 p2 j3 p3 j4 p4 j5 p5 j6 p6 j7 p7 p8 j9 p9 j10 p10 p11 p12 j13 p13, e = .Tuple [.Constant .none j1 p1, .Constant (.int 5) j2 p2, .Constant (.str "ab") j3 p3, .Constant (.bool true) j4 p4, .Tuple [] j5 p5,
    .Dict [some (.Constant (.str "a") j6 p6)] [.Constant (.int 0) j7 p7] p8, .List [.List [.Constant (.str "a") j9 p9, .Constant (.str "b") j10 p10] p11] p12] j13 p13 := by
  unfold oddsB at h
  split at h
  · simp only [Bool.and_eq_true, beq_iff_eq, decide_eq_true_eq] at h
    obtain ⟨rfl, rfl, rfl, rfl, rfl, rfl, rfl⟩ := h
    exact ⟨_, _, _, _, _, _, _, _, _, _, _, _, _, _, _, _, _, _, _, _, _, _, _, rfl⟩
  · cases h
structure Odds (H : Hp) (et dd lo li : Addr) : Prop where
  e : H et = some (.tup [])
  d : H dd = some (.dK [(.inr "a", .int 0)])
  l : H lo = some (.lst [.ref li])
  i : H li = some (.lst [.str "a", .str "b"])
def oddVs (et dd lo : Addr) : List V := [.non, .int 5, .str "ab", .bl true, .ref et, .ref dd, .ref lo]
theorem Odds.extN {H H' : Hp} {et dd lo li : Addr} (h : Odds H et dd lo li) (x : ExtN H H') : Odds H' et dd lo li := ⟨x _ _ h.e (fun _ z => by cases z), x _ _ h.d (fun _ z => by cases z), x _ _ h.l (fun _ z => by cases z), x _ _ h.i (fun _ z => by cases z)⟩
section
variable {X : Cx}
theorem pe_odds {e : Expr} (h : oddsB e = true) : PE X e (fun σ H Q => ∀ T et dd lo li H', Ext H H' → H' T = some (.tup (oddVs et dd lo)) → Odds H' et dd lo li → Q (.ref T) H') := by
  obtain ⟨j1, p1, j2, p2, j3, p3, j4, p4, j5, p5, j6, p6, j7, p7, p8, j9, p9, j10, p10, p11, p12, j13, p13, rfl⟩ := oddsB_ok h
  have hd := pe_disp (X := X) (pos := p8) (pps_cons (pe_str (x := "a") (j := j6) (pos := p6)) (pe_int (i := 0) (j := j7) (pos := p7)) pps_nil) (by rfl) (by rfl) (by simp) (by simp)
  have hl := pe_lst (X := X) (pos := p12) (pa_cons (pe_lst (pos := p11) (pa_cons (pe_str (x := "a") (j := j9) (pos := p9)) (pa_cons (pe_str (x := "b") (j := j10) (pos := p10)) pa_nil))) pa_nil)
  have hh := pe_tup (X := X) (x1 := j13) (pos := p13) (pa_cons (pe_non (j := j1) (pos := p1)) (pa_cons (pe_int (i := 5) (j := j2) (pos := p2)) (pa_cons (pe_str (x := "ab") (j := j3) (pos := p3)) (pa_cons (pe_bl (b := true) (j := j4) (pos := p4))
    (pa_cons (pe_tup (x1 := j5) (pos := p5) pa_nil) (pa_cons hd (pa_cons hl pa_nil)))))))
  refine PE.imp hh fun σ H Q hq => ⟨Nat.zero_le _, fun et h1 dd h2 => ?_⟩
  have k1 : Ext H (upd H et (.tup [])) := ext_new h1
  have m1 : upd H et (.tup []) et = some (.tup []) := upd_same
  show tPairs _ σ (upd (upd H et (.tup [])) dd (.dK [])) _
  generalize upd H et (.tup []) = H1 at h2 k1 m1
  refine ⟨upd_same, [(.inr "a", .int 0)], rfl, by decide, ?_⟩
  have k2 : Ext H1 (upd (upd H1 dd (.dK [])) dd (.dK [(.inr "a", .int 0)])) := fun b o z => by
    rw [upd_ne (ne_of_none z h2), upd_ne (ne_of_none z h2)]
    exact z
  have m2 : upd (upd H1 dd (.dK [])) dd (.dK [(.inr "a", .int 0)]) dd = some (.dK [(.inr "a", .int 0)]) := upd_same
  show tCons _ _ σ (upd (upd H1 dd (.dK [])) dd (.dK [(.inr "a", .int 0)])) _
  generalize upd (upd H1 dd (.dK [])) dd (.dK [(.inr "a", .int 0)]) = H2 at k2 m2
  refine ⟨by show 2 ≤ sizeLine; rw [sizeLine_eq]; decide, fun li h3 => ⟨by show 1 ≤ sizeLine; rw [sizeLine_eq]; decide, fun lo h4 => ⟨by show 7 ≤ sizeLine; rw [sizeLine_eq]; decide, fun T h5 => ?_⟩⟩⟩
  have k3 : Ext H2 (upd H2 li (.lst [.str "a", .str "b"])) := ext_new h3
  have m3 : upd H2 li (.lst [.str "a", .str "b"]) li = some (.lst [.str "a", .str "b"]) := upd_same
  show Q (.ref T) (upd (upd (upd H2 li (.lst [.str "a", .str "b"])) lo (.lst [.ref li])) T (.tup (oddVs et dd lo)))
  generalize upd H2 li (.lst [.str "a", .str "b"]) = H3 at h4 h5 k3 m3
  have k4 : Ext H3 (upd H3 lo (.lst [.ref li])) := ext_new h4
  have m4 : upd H3 lo (.lst [.ref li]) lo = some (.lst [.ref li]) := upd_same
  generalize upd H3 lo (.lst [.ref li]) = H4 at h5 k4 m4
  have k5 : Ext H4 (upd H4 T (.tup (oddVs et dd lo))) := ext_new h5
  exact hq T et dd lo li _ (fun b o z => k5 _ _ (k4 _ _ (k3 _ _ (k2 _ _ (k1 _ _ z))))) upd_same ⟨k5 _ _ (k4 _ _ (k3 _ _ (k2 _ _ m1))), k5 _ _ (k4 _ _ (k3 _ _ m2)), k5 _ _ m4, k5 _ _ (k4 _ _ m3)⟩
end
theorem oddN_of {K : PySem.W.Frag} {CP : Addr} {H : Hp} {et dd lo li : Addr} (kc : ∀ n ∈ ["NoneType", "int", "str", "bool", "tuple", "dict"], PySem.W.kitOne K (.type n) (.ref CP) = some false) (O : Odds H et dd lo li) {i : Nat} {v : V} (hi : (oddVs et dd lo)[i]? = some v) : OddN K CP H v ∨ (i = 6 ∧ v = .ref lo) := by
  match i, hi with
  | 0, hi =>
    cases hi
    exact .inl ⟨.type "NoneType", .none, .base .non, kc _ (by simp), kit_ty (by decide +kernel), ⟨.non, by decide +kernel, by decide +kernel, by decide +kernel⟩, .inl rfl⟩
  | 1, hi =>
    cases hi
    exact .inl ⟨.type "int", .int 5, .base (.int _), kc _ (by simp), kit_ty (by decide +kernel), ⟨.int _, by decide +kernel, by decide +kernel, by decide +kernel⟩, .inl rfl⟩
  | 2, hi =>
    cases hi
    exact .inl ⟨.type "str", .str "ab", .base (.str _), kc _ (by simp), kit_ty (by decide +kernel), ⟨.str _, by decide +kernel, by decide +kernel, by decide +kernel⟩, .inl rfl⟩
  | 3, hi =>
    cases hi
    exact .inl ⟨.type "bool", .bool true, .base (.bl _), kc _ (by simp), kit_ty (by decide +kernel), ⟨.bl _, by decide +kernel, by decide +kernel, by decide +kernel⟩, .inl rfl⟩
  | 4, hi =>
    cases hi
    exact .inl ⟨.type "tuple", .tuple [], .base (.tup O.e), kc _ (by simp), kit_ty (by decide +kernel), ⟨.tup O.e .nil, by decide +kernel, by decide +kernel, by decide +kernel⟩, .inr ⟨_, rfl⟩⟩
  | 5, hi =>
    cases hi
    exact .inl ⟨.type "dict", .dict [(.str "a", .int 0)], .base (.dK O.d), kc _ (by simp), kit_ty (by decide +kernel), ⟨.dic O.d, by decide +kernel, by decide +kernel, by decide +kernel⟩, .inr ⟨_, rfl⟩⟩
  | 6, hi =>
    cases hi
    exact .inr ⟨rfl, rfl⟩
  | n + 7, hi => simp [oddVs] at hi
/-- for odd in odds: .. ; return True -/
def pathsP : List Stmt → Option (Expr × List Stmt)
  | [.For (.Name o _) it b [] _, .Return (some (.Constant (.bool true) _ _)) _] => if o == ("_law_odd" : Str) && oddsB it then some (it, b) else none
  | _ => none
theorem pathsP_ok {b : List Stmt} {it : Expr} {bd : List Stmt} (h : pathsP b = some (it, bd)) : ∃ p1 p2 j p3 p4, b = [.For (.Name "_law_odd" p1) it bd [] p2, .Return (some (.Constant (.bool true) j p3)) p4] ∧ oddsB it = true := by
  unfold pathsP at h
  split at h
  · split at h
    · rename_i q
      simp only [Bool.and_eq_true, beq_iff_eq] at q
      obtain ⟨rfl, q⟩ := q
      cases h
      exact ⟨_, _, _, _, _, rfl, q⟩
    · cases h
  · cases h
def spPaths (Tb : List (Addr × Str)) : Sp := fun vs H Q _ => vs = [] ∧ Tabs Tb H ∧ ∀ H', Q (.bl true) H'
theorem odds_fold {e : Expr} {env : Env} (h : oddsB e = true) : ∀ x, foldedSetIterable e env x = pure x := by
  obtain ⟨j1, p1, j2, p2, j3, p3, j4, p4, j5, p5, j6, p6, j7, p7, p8, j9, p9, j10, p10, p11, p12, j13, p13, rfl⟩ := oddsB_ok h
  intro x
  rfl
section
variable {P : Program} {w : World} {K : PySem.W.Frag} {mg : Str → Option Value} {base : Heap} {k : Nat} {f fs CP : Addr} {x : Str} {params : Arguments} {body bd : List Stmt} {scope : Scope} {dV kV doc pm cdv ct oc : Value} {an od : Option Addr} {osl : Array (Option Value)} {fds : FuncData} {Tb : List (Addr × Str)} {ma mb mc md : Nat} {it : Expr}
theorem fnPaths {CX : CXT} (lk : K.lookup f = some ⟨oc, od, .func (PySem.W.fnOf x x params body scope dV kV doc pm an cdv ct), osl⟩) (hcd : PySem.W.codeIn K cdv x = true) (hs : scB NO [] scope = true) (hb : pathsP body = some (it, bd)) (vo : scope.names.lookup ("_law_odd" : Str) = some .cell) (vf : scope.names.lookup ("_law_found" : Str) = some .local)
    (hg : ∀ y ∈ [("_law_asked_a" : Str), "_law_asked_b", "_law_asked_c", "_law_asked_d", "isinstance", "list", "all"], glB scope y = true) (mi : mg "isinstance" = none) (ml : mg "list" = none) (mal : mg "all" = none)
    (Fa : AskF P w K mg base CP Tb k "_law_asked_a" ma) (Fb : AskF P w K mg base CP Tb k "_law_asked_b" mb) (Fc : AskF P w K mg base CP Tb k "_law_asked_c" mc) (Fd : AskF P w K mg base CP Tb k "_law_asked_d" md) (few : ma + mb + mc + md ≤ 1000) (many : 2 ≤ ma + mb + mc + md)
    (F : FnG P w K mg base C8.CX0 k fs fds ["_law_found", "_law_due"] (spSame K)) (B : PB fds ["_law_found", "_law_due"]) (hm : mg "_law_same" = some (.ref fs)) (hk : PySem.W.keepIn K (.ref fs) = true) (kc : ∀ n ∈ ["NoneType", "int", "str", "bool", "tuple", "dict", "list"], PySem.W.kitOne K (.type n) (.ref CP) = some false)
    {D : PrP} {sc : Scope} (hbd : bodyP bd = some D) (qa : call1 D.qa = some (("_law_asked_a" : Str), ("_law_odd" : Str))) (qb : call1 D.qb = some (("_law_asked_b" : Str), ("_law_odd" : Str))) (qc : call1 D.qc = some (("_law_asked_c" : Str), ("_law_odd" : Str))) (qd : call1 D.qd = some (("_law_asked_d" : Str), ("_law_odd" : Str)))
    (ql : lcSame D.lc = some sc) (hbk : blkB NO scope sc [("_law_one", 2)] = true) (v1 : sc.names.lookup ("_law_odd" : Str) = some .free) (v2 : sc.names.lookup ("_law_one" : Str) = some .local) (v3 : sc.names.lookup ("_law_same" : Str) = some .globalImplicit) :
    FnG P w K mg base CX (k + 1) f (PySem.W.fnOf x x params body scope dV kV doc pm an cdv ct) [] (spPaths Tb) := by
  have S := scB_ok hs
  obtain ⟨p1, p2, j, p3, p4, rfl, hit⟩ := pathsP_ok hb
  refine fn_ofG lk hcd S (fun vs H Q E ⟨ev, _⟩ => by rw [ev]; rfl) fun A outer s H vs Q E hr hgd ⟨ev, ht, hq⟩ => ?_
  subst ev
  generalize hX : cxOf CX P w K mg base NO x scope f cdv A outer s H E = X
  have eN : X.N = NO := by rw [← hX]; rfl
  have gl : ∀ y ∈ [("_law_asked_a" : Str), "_law_asked_b", "_law_asked_c", "_law_asked_d", "isinstance", "list", "all"], Gl X y ∧ (y == ("__debug__" : Str)) = false := fun y hy => by
    obtain ⟨g1, g2⟩ := Bool.and_eq_true_iff.mp (show (decide (scope.names.lookup y = some .globalImplicit) && okN y) = true from hg y hy)
    obtain ⟨g3, _⟩ := Bool.and_eq_true_iff.mp (show (!(y == ("__debug__" : Str)) && !(y == ("__classdict__" : Str))) = true from g2)
    refine ⟨?_, by simpa using g3⟩
    rw [← hX]
    exact (of_decide_eq_true g1 : scope.names.lookup y = some .globalImplicit)
  have hcalm : X.calm = true := by rw [← hX]; rfl
  have hbody : PSs X bd (tOdd X.K CP Tb) := pss_odd (k := k) hcalm eN (by rw [← hX]; exact hr) (by rw [← hX]; exact hgd) (by rw [← hX]; exact .inr (.inl vo)) (by rw [← hX]; exact vf) (by rw [← hX]; rfl) gl (by rw [← hX]; exact mi) (by rw [← hX]; exact ml) (by rw [← hX]; exact mal)
    (by rw [← hX]; exact Fa) (by rw [← hX]; exact Fb) (by rw [← hX]; exact Fc) (by rw [← hX]; exact Fd) few many (by rw [← hX]; exact F) B (by rw [← hX]; exact hm) (by rw [← hX]; exact hk) (by rw [← hX]; exact kc "list" (by simp)) hbd qa qb qc qd ql (by rw [eN, ← hX]; exact hbk) v1 v2 v3
  have hfor := ps_for (X := X) (pos := p2) (passes_of (by rw [← hX]; rfl)) hcalm (pi_tup (tg := .Name "_law_odd" p1) (pe_odds hit)) (pg_name (X := X) (pos := p1) (i := 0) (by rw [eN]; decide) (by rw [eN]; rfl) (by rw [← hX]; exact .inr vo) (.inl (by rw [← hX]; rfl))) hbody (odds_fold hit)
  refine ⟨_, pss_cons hfor (pss_one (ps_ret (pos := p4) (pe_bl (b := true) (j := j) (pos := p3)))), ?_⟩
  have hN0 : L2.start NO [] = [none, none, none] := rfl
  have hKK : X.K = K := by rw [← hX]; rfl
  rw [hN0]
  intro T et dd lo li H1 x1 hT O
  refine ⟨T, rfl, ⟨_, .inl (Rd.of hT)⟩, ?_⟩
  refine for_it (walk_tup (xs := oddVs et dd lo)) (fun i σ H => σ.length = 3 ∧ Tabs Tb H ∧ H T = some (.tup (oddVs et dd lo)) ∧ (i ≤ 6 → Odds H et dd lo li)) ⟨rfl, ht.ext x1, hT, fun _ => O⟩ (fun i σ G _ w' => .inl (Rd.of w'.2.2.1)) (fun i y σ G G' hi w' z' => ?_) fun σ G w' => hq G
  obtain ⟨w1, w2, w3, w4⟩ := w'
  obtain ⟨e1, e2⟩ := z'
  subst e1
  have hi' : i < 7 := hi
  have O' := w4 (by omega)
  refine ⟨y, by simpa using w1, by rw [List.getElem?_set_self (by omega)], w2, ?_⟩
  rcases oddN_of (K := X.K) (CP := CP) (fun n hn => by rw [hKK]; exact kc n (by simp at hn; rcases hn with h | h | h | h | h | h <;> simp [h])) O' e2 with h | ⟨rfl, rfl⟩
  · exact .inl ⟨h, fun σ' H' l x t => ⟨l, t, x _ _ w3 (fun _ z => by cases z), fun _ => O'.extN x⟩⟩
  · refine .inr ⟨lo, li, rfl, O'.l, O'.i, fun σ' H' l x t => ⟨l, t, x _ _ w3 (fun _ z => by cases z) (fun z => ?_), fun z => absurd (show 6 + 1 ≤ 6 from z) (by decide)⟩⟩
    rw [z, O'.l] at w3
    cases w3
end
end RWk
end
section
/-! M27: the law's own steps: what was made, each item checked. -/
namespace RWk
open PySem PySem.Spec PyProof.Rows L2 LamX
def NL : List Str := ["_law_script", "_law_stream_here", "_law_some", "_law_turn", "_law_x", "_law_made", "_law_at", "_law_mine", "_law_twin", "_law_field", "_law_due", "_law_held"]
/-- an item, in the hand -/
def It4 (nl : Addr → Prop) (H : Hp) (x : V) (C : Addr) (fs : List Str) (ea eb f du : Addr) : Prop := ∃ (va vb vd : List V) (q : Str) (params : Arguments) (lb : Expr) (lsc : Scope), ErAt H ea C (flOf fs va) ∧ Paired (XV nl H x) (kd fs) va ∧ ErAt H eb C (flOf fs vb) ∧ Paired (XV nl H x) (kd fs) vb ∧
  LamAt H f q params lb lsc ∧ lamX fs params lb lsc = true ∧ nl du ∧ H du = some (.lst vd) ∧ Paired (XV nl H x) (kd fs) vd
theorem madeIt_iff {nl : Addr → Prop} {H : Hp} {x : V} {C : Addr} {fs : List Str} {v : V} (h : MadeIt nl H x C fs v) : ∃ T ea eb f du, v = .ref T ∧ H T = some (.tup [.ref ea, .ref eb, .ref f, .ref du]) ∧ It4 nl H x C fs ea eb f du := by
  obtain ⟨T, ea, eb, f, du, va, vb, vd, q, params, lb, lsc, h1, h2, h3, h4, h5, h6, h7, h8, h9, h10, h11⟩ := h
  exact ⟨T, ea, eb, f, du, h1, h2, va, vb, vd, q, params, lb, lsc, h3, h4, h5, h6, h7, h8, h9, h10, h11⟩
theorem It4.extN {nl : Addr → Prop} {H H' : Hp} {x : V} {C : Addr} {fs : List Str} {ea eb f du : Addr} (h : It4 nl H x C fs ea eb f du) (e : ExtN H H') : It4 nl H' x C fs ea eb f du := by
  obtain ⟨va, vb, vd, q, params, lb, lsc, h3, h4, h5, h6, h7, h8, h9, h10, h11⟩ := h
  have xe : ∀ a, nl a → ∀ xs, H a = some (.lst xs) → H' a = some (.lst xs) := fun a _ xs z => e _ _ z (fun _ y => by cases y)
  exact ⟨va, vb, vd, q, params, lb, lsc, h3.extN e, xvs_ext h4 (fun _ z => z) xe, h5.extN e, xvs_ext h6 (fun _ z => z) xe, h7.ext e, h8, h9, e _ _ h10 (fun _ y => by cases y), xvs_ext h11 (fun _ z => z) xe⟩
theorem flOf_look : ∀ {fs : List Str} {vs : List V}, fs.Nodup → fs.length ≤ 2 → vs.length = fs.length → Paired (fun f v => (flOf fs vs).lookup f = some v) fs vs
  | [], [], _, _, _ => .nil
  | [f], [v], _, _, _ => .cons (by show List.lookup f [(f, v)] = some v; simp [List.lookup]) .nil
  | [f, g], [v, w], nd, _, _ => by
    have ne : f ≠ g := by simpa using nd
    have e : (f == g) = false := by simpa using ne
    exact .cons (by show List.lookup f [(g, w), (f, v)] = some v; simp [List.lookup, e]) (.cons (by show List.lookup g [(g, w), (f, v)] = some w; simp [List.lookup]) .nil)
  | [], _ :: _, _, _, l => by simp at l
  | [_], [], _, _, l => by simp at l
  | [_], _ :: _ :: _, _, _, l => by simp at l
  | [_, _], [], _, _, l => by simp at l
  | [_, _], [_], _, _, l => by simp at l
  | [_, _], _ :: _ :: _ :: _, _, _, l => by simp at l
  | _ :: _ :: _ :: _, _, _, few, _ => by simp at few
/-- not f(a, b) or not f(c, d) → return False -/
def chkP : Stmt → Option (Expr × Expr)
  | .If (.BoolOp .Or [.UnaryOp .Not a _, .UnaryOp .Not b _] _) [.Return (some (.Constant (.bool false) _ _)) _] [] _ => some (a, b)
  | _ => none
theorem chkP_ok {st : Stmt} {a b : Expr} (h : chkP st = some (a, b)) : ∃ p1 p2 p3 j p4 p5 p6, st = .If (.BoolOp .Or [.UnaryOp .Not a p1, .UnaryOp .Not b p2] p3) [.Return (some (.Constant (.bool false) j p4)) p5] [] p6 := by
  unfold chkP at h
  split at h
  · cases h
    exact ⟨_, _, _, _, _, _, _, rfl⟩
  · cases h
/-- is_own(y, at) -/
def ownE (y : Str) : Expr → Bool
  | .Call (.Name f _) [.Name a _, .Name b _] [] _ => f == ("_law_is_own" : Str) && (a == y && b == ("_law_at" : Str))
  | _ => false
theorem ownE_ok {y : Str} {e : Expr} (h : ownE y e = true) : ∃ p1 p2 p3 p4, e = .Call (.Name "_law_is_own" p1) [.Name y p2, .Name "_law_at" p3] [] p4 := by
  unfold ownE at h
  split at h
  · simp only [Bool.and_eq_true, beq_iff_eq] at h
    obtain ⟨rfl, rfl, rfl⟩ := h
    exact ⟨_, _, _, _, rfl⟩
  · cases h
/-- same(field(y), due) -/
def fldE (y : Str) : Expr → Bool
  | .Call (.Name s _) [.Call (.Name f _) [.Name a _] [] _, .Name d _] [] _ => s == ("_law_same" : Str) && (f == ("_law_field" : Str) && (a == y && d == ("_law_due" : Str)))
  | _ => false
theorem fldE_ok {y : Str} {e : Expr} (h : fldE y e = true) : ∃ p1 p2 p3 p4 p5 p6, e = .Call (.Name "_law_same" p1) [.Call (.Name "_law_field" p2) [.Name y p3] [] p4, .Name "_law_due" p5] [] p6 := by
  unfold fldE at h
  split at h
  · simp only [Bool.and_eq_true, beq_iff_eq] at h
    obtain ⟨rfl, rfl, rfl, rfl⟩ := h
    exact ⟨_, _, _, _, _, _, rfl⟩
  · cases h
/-- the frame of the law -/
structure LwF (X : Cx) : Prop where
  calm : X.calm = true
  N : X.N = NL
  loc : ∀ y ∈ NL, X.env.scope.names.lookup y = some .local
  gd : X.A.guards = some []
  fn : ∀ y ∈ NL, X.fn y = true
  gl : ∀ y ∈ [("_law_stream" : Str), "range", "_law_pick", "_law_made_a", "_law_made_b", "enumerate", "_law_is_own", "_law_same", "_law_paths_right"], Gl X y ∧ (y == ("__debug__" : Str)) = false
section
variable {X : Cx}
theorem LwF.pv (L : LwF X) {i : Nat} {y : Str} (h : NL[i]? = some y) (p : Pos) : PE X (.Name y p) (tVar i) := by
  have hd : okN y = true := by
    have : ∀ z ∈ NL, okN z = true := by decide +kernel
    exact this y (List.mem_of_getElem? h)
  obtain ⟨t1, t2⟩ := Bool.and_eq_true_iff.mp (show (!(y == ("__debug__" : Str)) && !(y == ("__classdict__" : Str))) = true from hd)
  exact pe_var (by rw [L.N]; exact h) (.inl (L.loc y (List.mem_of_getElem? h))) (by simpa using t1) (by simpa using t2)
theorem LwF.pg (L : LwF X) {i : Nat} {y : Str} (h : NL[i]? = some y) (p : Pos) : PG X (.Name y p) (gName i) :=
  pg_name (by rw [L.N]; decide +kernel) (by rw [L.N]; exact h) (.inl (L.loc y (List.mem_of_getElem? h))) (.inl (L.fn y (List.mem_of_getElem? h)))
def tOwn (A : List Addr) : TS := fun D σ H => ∃ ea eb C fla flb n, σ[7]? = some (some (.ref ea)) ∧ σ[8]? = some (some (.ref eb)) ∧ σ[6]? = some (some (.int (n : Nat))) ∧ A[n]? = some C ∧ ErAt H ea C fla ∧ ErAt H eb C flb ∧ ∀ H', Ext H H' → D.nx σ H'
theorem ps_own (L : LwF X) {k : Nat} {f : Addr} {fd : FuncData} {A : List Addr} (F : FnOk X.prog X.w X.K X.mg X.base C8.CX0 k f fd ["_law_e", "_law_at"] (spOwn A)) (B : PB fd ["_law_e", "_law_at"]) (hr : Room k X.A) (hm : X.mg "_law_is_own" = some (.ref f)) (hk : PySem.W.keepIn X.K (.ref f) = true)
    {st : Stmt} {a b : Expr} (h : chkP st = some (a, b)) (ha : ownE "_law_mine" a = true) (hb : ownE "_law_twin" b = true) : PS X st (tOwn A) := by
  obtain ⟨p1, p2, p3, j, p4, p5, p6, rfl⟩ := chkP_ok h
  obtain ⟨a1, a2, a3, a4, rfl⟩ := ownE_ok ha
  obtain ⟨b1, b2, b3, b4, rfl⟩ := ownE_ok hb
  have g := L.gl "_law_is_own" (by simp)
  have ca := pe_call (X := X) (p := a1) (pos := a4) (E := C8.E0) F hr g.1 hm hk (B.binds _) .nil C8.pass0 (pa_cons (L.pv (i := 7) rfl a2) (pa_cons (L.pv (i := 6) rfl a3) pa_nil)) g.2
  have cb := pe_call (X := X) (p := b1) (pos := b4) (E := C8.E0) F hr g.1 hm hk (B.binds _) .nil C8.pass0 (pa_cons (L.pv (i := 8) rfl b2) (pa_cons (L.pv (i := 6) rfl b3) pa_nil)) g.2
  have hif := ps_if (X := X) (pos := p6) (pw_or (pos := p3) (pt_not (pos := p1) (pt_val ca (fun _ => by rfl))) (pw_or1 (pt_not (pos := p2) (pt_val cb (fun _ => by rfl))))).pt (pss_one (ps_ret (pos := p5) (pe_bl (b := false) (j := j) (pos := p4)))) pss_nil
  refine ⟨fun pins s σ H D I ⟨ea, eb, C, fla, flb, n, s7, s8, s6, hA, Ea, Eb, hq⟩ => hif.run pins s σ H D I ?_⟩
  refine ⟨.ref ea, s7, .int n, s6, ea, C, fla, n, rfl, hA, Ea, fun H1 x1 => ⟨true, rfl, ?_⟩⟩
  refine ifF rfl ⟨.ref eb, s8, .int n, s6, eb, C, flb, n, rfl, hA, Eb.extN (ExtN.of x1), fun H2 x2 => ⟨true, rfl, ?_⟩⟩
  exact ifF rfl (hq H2 fun b o z => x2 b o (x1 b o z))
def tFlds (K : PySem.W.Frag) : TS := fun D σ H => ∃ nl x d C fs ea eb f du, σ[7]? = some (some (.ref ea)) ∧ σ[8]? = some (some (.ref eb)) ∧ σ[9]? = some (some (.ref f)) ∧ σ[10]? = some (some (.ref du)) ∧ It4 nl H x C fs ea eb f du ∧ Dat H x d ∧ Slf x ∧ FldF K C fs ∧ fs.Nodup ∧ fs.length ≤ 2 ∧ ∀ H', Ext H H' → D.nx σ H'
theorem ps_flds (L : LwF X) {k : Nat} {f : Addr} {fd : FuncData} (F : FnG X.prog X.w X.K X.mg X.base C8.CX0 (k + 1) f fd ["_law_found", "_law_due"] (spSame X.K)) (B : PB fd ["_law_found", "_law_due"]) (hr : Room (k + 1) X.A) (hm : X.mg "_law_same" = some (.ref f)) (hk : PySem.W.keepIn X.K (.ref f) = true)
    {st : Stmt} {a b : Expr} (h : chkP st = some (a, b)) (ha : fldE "_law_mine" a = true) (hb : fldE "_law_twin" b = true) : PS X st (tFlds X.K) := by
  obtain ⟨p1, p2, p3, j, p4, p5, p6, rfl⟩ := chkP_ok h
  obtain ⟨a1, a2, a3, a4, a5, a6, rfl⟩ := fldE_ok ha
  obtain ⟨b1, b2, b3, b4, b5, b6, rfl⟩ := fldE_ok hb
  have g := L.gl "_law_same" (by simp)
  have v9 : Vis X.env.scope "_law_field" := .inl (L.loc _ (by decide +kernel))
  have fa := pe_fld (X := X) (k := k) (i := 9) (p := a2) (pos := a4) (by rw [L.N]; rfl) v9 (L.pv (i := 7) rfl a3) (by rfl) hr
  have fb := pe_fld (X := X) (k := k) (i := 9) (p := b2) (pos := b4) (by rw [L.N]; rfl) v9 (L.pv (i := 8) rfl b3) (by rfl) hr
  have ca := pe_callG (X := X) (p := a1) (pos := a6) (E := C8.E0) F hr L.gd g.1 hm hk (B.binds _) C8.pass0 (pa_cons fa (pa_cons (L.pv (i := 10) rfl a5) pa_nil)) g.2
  have cb := pe_callG (X := X) (p := b1) (pos := b6) (E := C8.E0) F hr L.gd g.1 hm hk (B.binds _) C8.pass0 (pa_cons fb (pa_cons (L.pv (i := 10) rfl b5) pa_nil)) g.2
  have hif := ps_if (X := X) (pos := p6) (pw_or (pos := p3) (pt_not (pos := p1) (pt_val ca (fun _ => by rfl))) (pw_or1 (pt_not (pos := p2) (pt_val cb (fun _ => by rfl))))).pt (pss_one (ps_ret (pos := p5) (pe_bl (b := false) (j := j) (pos := p4)))) pss_nil
  refine ⟨fun pins s σ H D I ⟨nl, x, d, C, fs, ea, eb, fl, du, s7, s8, s9, s10, I4, hd, hs, hf, nd, few, hq⟩ => hif.run pins s σ H D I ?_⟩
  obtain ⟨va, vb, vd, q, params, lb, lsc, h3, h4, h5, h6, h7, h8, h9, h10, h11⟩ := I4
  have lk := kd_len few
  have la : va.length = fs.length := by rw [← Paired.length h4, lk]
  have lb' : vb.length = fs.length := by rw [← Paired.length h6, lk]
  refine ⟨fl, s9, .ref ea, s7, q, params, lb, lsc, fs, ea, C, _, va, h7, h8, rfl, h3, hf, flOf_look nd few la, by omega, fun l hl => ?_⟩
  have x1 : Ext H (upd H l (.lst va)) := ext_new hl
  have xl : ∀ {H' : Hp}, Ext H H' → ∀ a, nl a → ∀ xs, H a = some (.lst xs) → H' a = some (.lst xs) := fun x a _ xs z => x _ _ z
  have al1 : Alike X.K (upd H l (.lst va)) l du := alike_of (nl := nl) (bs := kd fs) (hd.extN (ExtN.of x1)) hs upd_same (x1 _ _ h10) (xvs_ext h4 (fun _ z => z) (xl x1)) (xvs_ext h11 (fun _ z => z) (xl x1)) (by omega)
  refine ⟨.ref du, s10, l, du, rfl, al1, true, rfl, ?_⟩
  generalize upd H l (.lst va) = H1 at x1
  refine ifF rfl ⟨fl, s9, .ref eb, s8, q, params, lb, lsc, fs, eb, C, _, vb, h7.ext (ExtN.of x1), h8, rfl, h5.extN (ExtN.of x1), hf, flOf_look nd few lb', by omega, fun l2 hl2 => ?_⟩
  have x2' : Ext H1 (upd H1 l2 (.lst vb)) := ext_new hl2
  have x2 : Ext H (upd H1 l2 (.lst vb)) := fun b o z => x2' _ _ (x1 _ _ z)
  have al2 : Alike X.K (upd H1 l2 (.lst vb)) l2 du := alike_of (nl := nl) (bs := kd fs) (hd.extN (ExtN.of x2)) hs upd_same (x2 _ _ h10) (xvs_ext h6 (fun _ z => z) (xl x2)) (xvs_ext h11 (fun _ z => z) (xl x2)) (by omega)
  refine ⟨.ref du, s10, l2, du, rfl, al2, true, rfl, ?_⟩
  exact ifF rfl (hq _ x2)
end
end RWk
end
section
/-! M28: one turn of the law. -/
namespace RWk
open PySem PySem.Spec PyProof.Rows L2 LamX
structure MadeF (P : Program) (w : World) (K : PySem.W.Frag) (mg : Str → Option Value) (base : Heap) (Tb : List (Addr × Str)) (k : Nat) (x : Str) (sp : List Spc) (Cs : List Addr) : Prop where
  ex : ∃ (f : Addr) (fd : FuncData), mg x = some (.ref f) ∧ PySem.W.keepIn K (.ref f) = true ∧ FnOk P w K mg base C8.CX0 k f fd ["_law_x"] (spMade Tb sp Cs) ∧ PB fd ["_law_x"]
  len : Cs.length = sp.length
def anyA : Addr → Prop := fun _ => True
def tMadeN (i : Nat) (Tb : List (Addr × Str)) (sp : List Spc) (Cs : List Addr) : TE := fun σ H Q => ∃ x, σ[i]? = some (some x) ∧ Tabs Tb H ∧ ∀ l ls H', ExtN H H' → Tabs Tb H' → H' l = some (.lst ls) → ls.length = sp.length → Items anyA H' x sp Cs ls → Q (.ref l) H'
theorem Items.extN {H H' : Hp} {x : V} {sp : List Spc} {Cs : List Addr} {ls : List V} (h : Items anyA H x sp Cs ls) (e : ExtN H H') : Items anyA H' x sp Cs ls := fun i v hi => by
  obtain ⟨c, fs, C, h1, h2, h3⟩ := h i v hi
  exact ⟨c, fs, C, h1, h2, h3.extN (fun _ z => z) e⟩
theorem Items.app {H : Hp} {x : V} {sp sp' : List Spc} {Cs Cs' : List Addr} {ls ls' : List V} (h : Items anyA H x sp Cs ls) (h' : Items anyA H x sp' Cs' ls') (l1 : ls.length = sp.length) (l2 : Cs.length = sp.length) : Items anyA H x (sp ++ sp') (Cs ++ Cs') (ls ++ ls') := fun i v hi => by
  by_cases q : i < ls.length
  · rw [List.getElem?_append_left q] at hi
    obtain ⟨c, fs, C, h1, h2, h3⟩ := h i v hi
    exact ⟨c, fs, C, by rw [List.getElem?_append_left (by omega)]; exact h1, by rw [List.getElem?_append_left (by omega)]; exact h2, h3⟩
  · rw [List.getElem?_append_right (by omega)] at hi
    obtain ⟨c, fs, C, h1, h2, h3⟩ := h' _ v hi
    exact ⟨c, fs, C, by rw [List.getElem?_append_right (by omega), ← l1]; exact h1, by rw [List.getElem?_append_right (by omega), l2, ← l1]; exact h2, h3⟩
section
variable {X : Cx} {Tb : List (Addr × Str)} {k : Nat}
theorem pe_made (L : LwF X) {x : Str} {i : Nat} {y : Str} {sp : List Spc} {Cs : List Addr} {e : Expr} (F : MadeF X.prog X.w X.K X.mg X.base Tb k x sp Cs) (h : call1 e = some (x, y)) (hy : NL[i]? = some y) (hr : Room k X.A) (hg : Gl X x) (hdb : (x == ("__debug__" : Str)) = false) : PE X e (tMadeN i Tb sp Cs) := by
  obtain ⟨f, fd, e1, e2, e3, e4⟩ := F.ex
  obtain ⟨p1, p2, p3, rfl⟩ := call1_ok h
  refine PE.imp (pe_call (X := X) (p := p1) (pos := p3) (E := C8.E0) e3 hr hg e1 e2 (e4.binds _) .nil C8.pass0 (pa_cons (L.pv hy p2) pa_nil) hdb) fun σ H Q ⟨v, h0, h1, h2⟩ => ⟨v, h0, v, rfl, h1, fun l ls H' x1 x2 x3 x4 x5 x6 => h2 l ls H' x1 x3 x5 x4 fun i v hi => ?_⟩
  obtain ⟨c, fs, C, a1, a2, a3⟩ := x6 i v hi
  exact ⟨c, fs, C, a1, a2, a3.extN (fun _ _ => True.intro) (ExtN.refl H')⟩
theorem pe_mades {a b : Expr} {i : Nat} {sp sp' : List Spc} {Cs Cs' : List Addr} {pos : Pos} (ha : PE X a (tMadeN i Tb sp Cs)) (hb : PE X b (tMadeN i Tb sp' Cs')) (len : Cs.length = sp.length) (few : sp.length + sp'.length ≤ 10000) : PE X (.BinOp a .Add b pos) (tMadeN i Tb (sp ++ sp') (Cs ++ Cs')) := by
  refine PE.imp (pe_op (pos := pos) op_cat ha hb) fun σ H Q ⟨v, h0, h1, h2⟩ => ⟨v, h0, h1, fun l ls H1 x1 x2 x3 x4 x5 => ⟨v, h0, x2, fun l' ls' H2 y1 y2 y3 y4 y5 => ?_⟩⟩
  refine ⟨l, l', ls, ls', rfl, rfl, y1 _ _ x3 (fun _ z => by cases z), y3, by rw [x4, y4, sizeLine_eq]; omega, fun p hp => ?_⟩
  have e1 : ExtN H2 (upd H2 p (.lst (ls ++ ls'))) := extN_new hp
  exact h2 p (ls ++ ls') _ ((x1.trans y1).trans e1) (tabs_new y2 hp) upd_same (by rw [List.length_append, List.length_append, x4, y4]) (Items.app (x5.extN (y1.trans e1)) (y5.extN e1) x4 len)
end
/-- what the checks ask of the classes -/
def ClsF (K : PySem.W.Frag) (sp : List Spc) (Cs : List Addr) : Prop := ∀ (i : Nat) (c : Str) (fs : List Str) (C : Addr), sp[i]? = some (c, fs) → Cs[i]? = some C → FldF K C fs ∧ fs.Nodup ∧ fs.length ≤ 2
def loop1P : Stmt → Option (Stmt × Stmt)
  | .For (.Tuple [.Name a _, .Tuple [.Name b _, .Name c _, .Name d _, .Name e _] _ _] _ _) (.Call (.Name n _) [.Name m _] [] _) [s1, s2] [] _ =>
    if a == ("_law_at" : Str) && (b == ("_law_mine" : Str) && (c == ("_law_twin" : Str) && (d == ("_law_field" : Str) && (e == ("_law_due" : Str) && (n == ("enumerate" : Str) && m == ("_law_made" : Str)))))) then some (s1, s2) else none
  | _ => none
theorem loop1P_ok {st s1 s2 : Stmt} (h : loop1P st = some (s1, s2)) : ∃ p1 p2 p3 p4 p5 j1 p6 j2 p7 p8 p9 p10 p11, st = .For (.Tuple [.Name "_law_at" p1, .Tuple [.Name "_law_mine" p2, .Name "_law_twin" p3, .Name "_law_field" p4, .Name "_law_due" p5] j1 p6] j2 p7) (.Call (.Name "enumerate" p8) [.Name "_law_made" p9] [] p10) [s1, s2] [] p11 := by
  unfold loop1P at h
  split at h
  · split at h
    · rename_i q
      simp only [Bool.and_eq_true, beq_iff_eq] at q
      obtain ⟨rfl, rfl, rfl, rfl, rfl, rfl, rfl⟩ := q
      cases h
      exact ⟨_, _, _, _, _, _, _, _, _, _, _, _, _, rfl⟩
    · cases h
  · cases h
def loop2P : Stmt → Option Stmt
  | .For (.Tuple [.Name b _, .Name c _, .Name d _, .Name e _] _ _) (.Name m _) [s2] [] _ =>
    if b == ("_law_mine" : Str) && (c == ("_law_twin" : Str) && (d == ("_law_field" : Str) && (e == ("_law_due" : Str) && m == ("_law_made" : Str)))) then some s2 else none
  | _ => none
theorem loop2P_ok {st s2 : Stmt} (h : loop2P st = some s2) : ∃ p2 p3 p4 p5 j1 p6 p9 p11, st = .For (.Tuple [.Name "_law_mine" p2, .Name "_law_twin" p3, .Name "_law_field" p4, .Name "_law_due" p5] j1 p6) (.Name "_law_made" p9) [s2] [] p11 := by
  unfold loop2P at h
  split at h
  · split at h
    · rename_i q
      simp only [Bool.and_eq_true, beq_iff_eq] at q
      obtain ⟨rfl, rfl, rfl, rfl, rfl⟩ := q
      cases h
      exact ⟨_, _, _, _, _, _, _, _, rfl⟩
    · cases h
  · cases h
def tLoop1 (K : PySem.W.Frag) (sp : List Spc) (Cs : List Addr) : TS := fun D σ H => ∃ l ls x d, σ.length = 12 ∧ σ[5]? = some (some (.ref l)) ∧ H l = some (.lst ls) ∧ Items anyA H x sp Cs ls ∧ Dat H x d ∧ Slf x ∧ ∀ σ' H', σ'.length = 12 → (∀ j, j < 6 → σ'[j]? = σ[j]?) → Ext H H' → D.nx σ' H'
def tLoop2 (K : PySem.W.Frag) (sp : List Spc) (Cs : List Addr) : TS := fun D σ H => ∃ l ls x d, σ.length = 12 ∧ σ[5]? = some (some (.ref l)) ∧ H l = some (.lst ls) ∧ (∀ (i : Nat) (v : V), ls[i]? = some v → ∃ nl c fs C, sp[i]? = some (c, fs) ∧ Cs[i]? = some C ∧ MadeIt nl H x C fs v) ∧ Dat H x d ∧ Slf x ∧ ∀ σ' H', Ext H H' → D.nx σ' H'
theorem set4 {σ : L2.St} {a b c d : Option V} (h : σ.length = 12) : ((((σ.set 7 a).set 8 b).set 9 c).set 10 d)[7]? = some a ∧ ((((σ.set 7 a).set 8 b).set 9 c).set 10 d)[8]? = some b ∧ ((((σ.set 7 a).set 8 b).set 9 c).set 10 d)[9]? = some c ∧ ((((σ.set 7 a).set 8 b).set 9 c).set 10 d)[10]? = some d ∧
    (∀ j, j < 7 → ((((σ.set 7 a).set 8 b).set 9 c).set 10 d)[j]? = σ[j]?) ∧ ((((σ.set 7 a).set 8 b).set 9 c).set 10 d).length = 12 := by
  refine ⟨?_, ?_, ?_, ?_, fun j hj => ?_, by simpa using h⟩
  · rw [List.getElem?_set_ne (by decide), List.getElem?_set_ne (by decide), List.getElem?_set_ne (by decide), List.getElem?_set_self (by omega)]
  · rw [List.getElem?_set_ne (by decide), List.getElem?_set_ne (by decide), List.getElem?_set_self (by simp [h])]
  · rw [List.getElem?_set_ne (by decide), List.getElem?_set_self (by simp [h])]
  · rw [List.getElem?_set_self (by simp [h])]
  · rw [List.getElem?_set_ne (by omega), List.getElem?_set_ne (by omega), List.getElem?_set_ne (by omega), List.getElem?_set_ne (by omega)]
section
variable {X : Cx} {sp : List Spc} {Cs : List Addr}
theorem ps_loop1 (L : LwF X) (hp : PassesOwn (model X.prog X.w) X.A X.env X.xe) (hm : X.mg "enumerate" = none) (hC : ClsF X.K sp Cs) {st s1 s2 : Stmt} (h : loop1P st = some (s1, s2)) (h1 : PS X s1 (tOwn Cs)) (h2 : PS X s2 (tFlds X.K)) : PS X st (tLoop1 X.K sp Cs) := by
  obtain ⟨p1, p2, p3, p4, p5, j1, p6, j2, p7, p8, p9, p10, p11, rfl⟩ := loop1P_ok h
  have hg := pg_tup (X := X) (k := j2) (pos := p7) L.calm (pgs_cons (L.pg (i := 6) rfl p1) (pgs_cons (pg_tup (X := X) (k := j1) (pos := p6) L.calm (pgs_cons (L.pg (i := 7) rfl p2) (pgs_cons (L.pg (i := 8) rfl p3) (pgs_cons (L.pg (i := 9) rfl p4) (pgs_cons (L.pg (i := 10) rfl p5) pgs_nil))))) pgs_nil))
  have hfor := ps_for (X := X) (pos := p11) hp L.calm (pi_enum (X := X) (p := p8) (pos := p10) (L.gl _ (by simp)).1 hm (pa_cons (L.pv (i := 5) rfl p9) pa_nil)) hg (pss_cons h1 (pss_one h2))
  refine ⟨fun pins s σ H D I ⟨l, ls, x, d, l12, h5, hl, hI, hd, hs, hq⟩ => hfor.run pins s σ H D I ?_⟩
  refine ⟨.ref l, h5, l, ls, rfl, .inl (Rd.of hl), ?_⟩
  refine for_it (walk_enum (xs := ls)) (fun i σ' H' => σ'.length = 12 ∧ (∀ j, j < 6 → σ'[j]? = σ[j]?) ∧ Ext H H') ⟨l12, fun _ _ => rfl, fun _ _ z => z⟩ (fun i σ' G _ w' => .inl (Rd.of (w'.2.2 _ _ hl))) (fun i y σ' G G' hi w' z' => ?_) fun σ' G w' => hq σ' G w'.1 w'.2.1 w'.2.2
  obtain ⟨w1, w2, w3⟩ := w'
  obtain ⟨T, u, v, rfl, hT, rfl, e1, e2⟩ := z'
  cases e1
  obtain ⟨c, fs, C, g1, g2, g3⟩ := hI i v e2
  obtain ⟨Tv, ea, eb, f, du, rfl, t1, I4⟩ := madeIt_iff g3
  obtain ⟨f1, f2, f3⟩ := hC i c fs C g1 g2
  have x1 : Ext H (upd G T (.tup [.int (i : Nat), .ref Tv])) := fun b o z => ext_new hT b o (w3 b o z)
  refine ⟨T, _, rfl, .inl (Rd.of upd_same), rfl, .int (i : Nat), _, rfl, .ref Tv, _, rfl, ⟨Tv, _, rfl, .inl (Rd.of (x1 _ _ t1)), rfl, .ref ea, _, rfl, .ref eb, _, rfl, .ref f, _, rfl, .ref du, _, rfl, rfl, rfl, ?_⟩⟩
  have l6 : (σ'.set 6 (some (V.int (i : Nat)))).length = 12 := by simpa using w1
  obtain ⟨q7, q8, q9, q10, qj, ql⟩ := set4 (a := some (.ref ea)) (b := some (.ref eb)) (c := some (.ref f)) (d := some (.ref du)) l6
  have I4' := I4.extN (ExtN.of x1)
  have I5 := I4'
  obtain ⟨va, vb, vd, q, params, lb, lsc, h3, h4, h5', h6, _⟩ := I4'
  refine ⟨ea, eb, C, _, _, i, q7, q8, by rw [qj 6 (by decide), List.getElem?_set_self (by omega)], g2, h3, h5', fun H2 x2 => ?_⟩
  refine ⟨anyA, x, d, C, fs, ea, eb, f, du, q7, q8, q9, q10, I5.extN (ExtN.of x2), hd.extN (ExtN.of fun b o z => x2 _ _ (x1 _ _ z)), hs, f1, f2, f3, fun H3 x3 => ⟨ql, fun j hj => ?_, fun b o z => x3 _ _ (x2 _ _ (x1 _ _ z))⟩⟩
  rw [qj j (by omega), List.getElem?_set_ne (by omega)]
  exact w2 j hj
theorem ps_loop2 (L : LwF X) (hp : PassesOwn (model X.prog X.w) X.A X.env X.xe) (hC : ClsF X.K sp Cs) {st s2 : Stmt} (h : loop2P st = some s2) (h2 : PS X s2 (tFlds X.K)) : PS X st (tLoop2 X.K sp Cs) := by
  obtain ⟨p2, p3, p4, p5, j1, p6, p9, p11, rfl⟩ := loop2P_ok h
  have hg := pg_tup (X := X) (k := j1) (pos := p6) L.calm (pgs_cons (L.pg (i := 7) rfl p2) (pgs_cons (L.pg (i := 8) rfl p3) (pgs_cons (L.pg (i := 9) rfl p4) (pgs_cons (L.pg (i := 10) rfl p5) pgs_nil))))
  have hfor := ps_for (X := X) (pos := p11) hp L.calm (pi_list (X := X) (L.pv (i := 5) rfl p9)) hg (pss_one h2)
  refine ⟨fun pins s σ H D I ⟨l, ls, x, d, l12, h5, hl, hI, hd, hs, hq⟩ => hfor.run pins s σ H D I ?_⟩
  refine ⟨.ref l, h5, l, rfl, ⟨ls, .inl (Rd.of hl)⟩, ?_⟩
  refine for_it (walk_list (xs := ls)) (fun i σ' H' => σ'.length = 12 ∧ Ext H H') ⟨l12, fun _ _ z => z⟩ (fun i σ' G _ w' => .inl (Rd.of (w'.2 _ _ hl))) (fun i y σ' G G' hi w' z' => ?_) fun σ' G w' => hq σ' G w'.2
  obtain ⟨w1, w3⟩ := w'
  obtain ⟨e1, e2⟩ := z'
  subst e1
  obtain ⟨nl, c, fs, C, g1, g2, g3⟩ := hI i y e2
  obtain ⟨Tv, ea, eb, f, du, rfl, t1, I4⟩ := madeIt_iff g3
  obtain ⟨f1, f2, f3⟩ := hC i c fs C g1 g2
  refine ⟨Tv, _, rfl, .inl (Rd.of (w3 _ _ t1)), rfl, .ref ea, _, rfl, .ref eb, _, rfl, .ref f, _, rfl, .ref du, _, rfl, rfl, ?_⟩
  obtain ⟨q7, q8, q9, q10, qj, ql⟩ := set4 (a := some (.ref ea)) (b := some (.ref eb)) (c := some (.ref f)) (d := some (.ref du)) w1
  exact ⟨nl, x, d, C, fs, ea, eb, f, du, q7, q8, q9, q10, I4.extN (ExtN.of w3), hd.extN (ExtN.of w3), hs, f1, f2, f3, fun H3 x3 => ⟨ql, fun b o z => x3 _ _ (w3 _ _ z)⟩⟩
end
end RWk
end
section
/-! M29: the things that may be kept. -/
namespace RWk
open PySem PySem.Spec PyProof.Rows L2 LamX
/-- what is new in H' -/
def Nw (H H' : Hp) : Hp := fun b => match H b with
  | none => H' b
  | some _ => none
theorem nw_of {H H' : Hp} {b : Addr} {o : HO} (h : H b = none) (h' : H' b = some o) : Nw H H' b = some o := by
  unfold Nw
  rw [h]
  exact h'
def someB : Expr → Bool
  | .List [.Constant .none _ _, .Constant (.int a) _ _, .UnaryOp .USub (.Constant (.int b) _ _) _, .Constant (.bool c) _ _, .Constant (.str d) _ _, .Constant (.str e) _ _, .List [.Constant (.int f) _ _, .Constant (.str g) _ _] _, .Tuple [.Constant (.int h) _ _, .Constant .none _ _] _ _,
      .Dict [some (.Constant (.str i) _ _)] [.Constant (.int j) _ _] _, .List [.List [.Constant (.str k) _ _] _] _, .BinOp (.Constant (.int l) _ _) .Pow (.Constant (.int m) _ _) _, .Tuple [.Constant (.str n) _ _, .Constant (.int o) _ _] _ _, .Constant (.bool p) _ _, .Constant (.int q) _ _, .Constant (.int r) _ _] _ =>
    decide (a = 5) && (decide (b = 1) && (c && (d == ("a" : Str) && (e == ("" : Str) && (decide (f = 1) && (g == ("b" : Str) && (decide (h = 2) && (i == ("a" : Str) && (decide (j = 1) && (k == ("x" : Str) && (decide (l = 10) && (decide (m = 17) && (n == ("s" : Str) && (decide (o = 3) && (!p && (decide (q = 0) && decide (r = 1)))))))))))))))))
  | _ => false
theorem someB_ok {e : Expr} (h : someB e = true) : ∃ i1 q1 i2 q2 i3 q3 q4 i5 q5 i6 q6 i7 q7 i8 q8 i9 q9 q10 i11 q11 i12 q12 i13 q13 i14 q14 i15 q15 q16 i17 q17 q18 q19 i20 q20 i21 q21 q22 i23 q23 i24 q24 i25 q25 i26 q26 i27 q27 i28 q28 q29,
    e = .List [.Constant .none i1 q1, .Constant (.int 5) i2 q2, .UnaryOp .USub (.Constant (.int 1) i3 q3) q4, .Constant (.bool true) i5 q5, .Constant (.str "a") i6 q6, .Constant (.str "") i7 q7, .List [.Constant (.int 1) i8 q8, .Constant (.str "b") i9 q9] q10, .Tuple [.Constant (.int 2) i11 q11, .Constant .none i12 q12] i13 q13,
      .Dict [some (.Constant (.str "a") i14 q14)] [.Constant (.int 1) i15 q15] q16, .List [.List [.Constant (.str "x") i17 q17] q18] q19, .BinOp (.Constant (.int 10) i20 q20) .Pow (.Constant (.int 17) i21 q21) q22, .Tuple [.Constant (.str "s") i23 q23, .Constant (.int 3) i24 q24] i25 q25, .Constant (.bool false) i26 q26, .Constant (.int 0) i27 q27, .Constant (.int 1) i28 q28] q29 := by
  unfold someB at h
  split at h
  · simp only [Bool.and_eq_true, beq_iff_eq, decide_eq_true_eq, Bool.not_eq_true'] at h
    obtain ⟨rfl, rfl, rfl, rfl, rfl, rfl, rfl, rfl, rfl, rfl, rfl, rfl, rfl, rfl, rfl, rfl, rfl, rfl⟩ := h
    exact ⟨_, _, _, _, _, _, _, _, _, _, _, _, _, _, _, _, _, _, _, _, _, _, _, _, _, _, _, _, _, _, _, _, _, _, _, _, _, _, _, _, _, _, _, _, _, _, _, _, _, _, _, rfl⟩
  · cases h
end RWk
end
section
/-! M30: the list of things is laid. -/
namespace RWk
open PySem PySem.Spec PyProof.Rows L2 LamX
def someVs (p1 p2 p3 p4 p5 : Addr) : List V := [.non, .int 5, .int (-1), .bl true, .str "a", .str "", .ref p1, .ref p2, .ref p3, .ref p4, .int (10 ^ (17 : Int).toNat), .ref p5, .bl false, .int 0, .int 1]
structure Some5 (H : Hp) (p1 p2 p3 p4 p6 p5 : Addr) : Prop where
  a1 : H p1 = some (.lst [.int 1, .str "b"])
  a2 : H p2 = some (.tup [.int 2, .non])
  a3 : H p3 = some (.dK [(.inr "a", .int 1)])
  a4 : H p4 = some (.lst [.ref p6])
  a6 : H p6 = some (.lst [.str "x"])
  a5 : H p5 = some (.tup [.str "s", .int 3])
theorem Some5.extN {H H' : Hp} {p1 p2 p3 p4 p6 p5 : Addr} (h : Some5 H p1 p2 p3 p4 p6 p5) (x : ExtN H H') : Some5 H' p1 p2 p3 p4 p6 p5 :=
  ⟨x _ _ h.a1 (fun _ z => by cases z), x _ _ h.a2 (fun _ z => by cases z), x _ _ h.a3 (fun _ z => by cases z), x _ _ h.a4 (fun _ z => by cases z), x _ _ h.a6 (fun _ z => by cases z), x _ _ h.a5 (fun _ z => by cases z)⟩
theorem some_dat {H : Hp} {p1 p2 p3 p4 p6 p5 : Addr} (h : Some5 H p1 p2 p3 p4 p6 p5) {v : V} (hv : v ∈ someVs p1 p2 p3 p4 p5) : ∃ d, Dat H v d ∧ Slf v := by
  unfold someVs at hv
  simp only [List.mem_cons, List.mem_nil_iff, or_false] at hv
  rcases hv with rfl | rfl | rfl | rfl | rfl | rfl | rfl | rfl | rfl | rfl | rfl | rfl | rfl | rfl | rfl
  · exact ⟨.none, ⟨.non, by decide +kernel, by decide +kernel, by decide +kernel⟩, .inl rfl⟩
  · exact ⟨.int 5, ⟨.int _, by decide +kernel, by decide +kernel, by decide +kernel⟩, .inl rfl⟩
  · exact ⟨.int (-1), ⟨.int _, by decide +kernel, by decide +kernel, by decide +kernel⟩, .inl rfl⟩
  · exact ⟨.bool true, ⟨.bl _, by decide +kernel, by decide +kernel, by decide +kernel⟩, .inl rfl⟩
  · exact ⟨.str "a", ⟨.str _, by decide +kernel, by decide +kernel, by decide +kernel⟩, .inl rfl⟩
  · exact ⟨.str "", ⟨.str _, by decide +kernel, by decide +kernel, by decide +kernel⟩, .inl rfl⟩
  · exact ⟨.list [.int 1, .str "b"], ⟨.lst h.a1 (.cons (.int _) (.cons (.str _) .nil)), by decide +kernel, by decide +kernel, by decide +kernel⟩, .inr ⟨_, rfl⟩⟩
  · exact ⟨.tuple [.int 2, .none], ⟨.tup h.a2 (.cons (.int _) (.cons .non .nil)), by decide +kernel, by decide +kernel, by decide +kernel⟩, .inr ⟨_, rfl⟩⟩
  · exact ⟨.dict [(.str "a", .int 1)], ⟨.dic h.a3, by decide +kernel, by decide +kernel, by decide +kernel⟩, .inr ⟨_, rfl⟩⟩
  · exact ⟨.list [.list [.str "x"]], ⟨.lst h.a4 (.cons (.lst h.a6 (.cons (.str _) .nil)) .nil), by decide +kernel, by decide +kernel, by decide +kernel⟩, .inr ⟨_, rfl⟩⟩
  · exact ⟨.int (10 ^ (17 : Int).toNat), ⟨.int _, by decide +kernel, by decide +kernel, by decide +kernel⟩, .inl rfl⟩
  · exact ⟨.tuple [.str "s", .int 3], ⟨.tup h.a5 (.cons (.str _) (.cons (.int _) .nil)), by decide +kernel, by decide +kernel, by decide +kernel⟩, .inr ⟨_, rfl⟩⟩
  · exact ⟨.bool false, ⟨.bl _, by decide +kernel, by decide +kernel, by decide +kernel⟩, .inl rfl⟩
  · exact ⟨.int 0, ⟨.int _, by decide +kernel, by decide +kernel, by decide +kernel⟩, .inl rfl⟩
  · exact ⟨.int 1, ⟨.int _, by decide +kernel, by decide +kernel, by decide +kernel⟩, .inl rfl⟩
section
variable {X : Cx}
theorem pe_some {e : Expr} (h : someB e = true) : PE X e (fun σ H Q => ∀ s p1 p2 p3 p4 p6 p5 H', Ext H H' → H s = none → H' s = some (.lst (someVs p1 p2 p3 p4 p5)) → Some5 (Nw H H') p1 p2 p3 p4 p6 p5 → Q (.ref s) H') := by
  obtain ⟨i1, q1, i2, q2, i3, q3, q4, i5, q5, i6, q6, i7, q7, i8, q8, i9, q9, q10, i11, q11, i12, q12, i13, q13, i14, q14, i15, q15, q16, i17, q17, q18, q19, i20, q20, i21, q21, q22, i23, q23, i24, q24, i25, q25, i26, q26, i27, q27, i28, q28, q29, rfl⟩ := someB_ok h
  have hd := pe_disp (X := X) (pos := q16) (pps_cons (pe_str (x := "a") (j := i14) (pos := q14)) (pe_int (i := 1) (j := i15) (pos := q15)) pps_nil) (by rfl) (by rfl) (by simp) (by simp)
  have hl1 := pe_lst (X := X) (pos := q10) (pa_cons (pe_int (i := 1) (j := i8) (pos := q8)) (pa_cons (pe_str (x := "b") (j := i9) (pos := q9)) pa_nil))
  have ht2 := pe_tup (X := X) (x1 := i13) (pos := q13) (pa_cons (pe_int (i := 2) (j := i11) (pos := q11)) (pa_cons (pe_non (j := i12) (pos := q12)) pa_nil))
  have hl4 := pe_lst (X := X) (pos := q19) (pa_cons (pe_lst (pos := q18) (pa_cons (pe_str (x := "x") (j := i17) (pos := q17)) pa_nil)) pa_nil)
  have hp := pe_op (X := X) (pos := q22) op_pow (pe_int (i := 10) (j := i20) (pos := q20)) (pe_int (i := 17) (j := i21) (pos := q21))
  have ht5 := pe_tup (X := X) (x1 := i25) (pos := q25) (pa_cons (pe_str (x := "s") (j := i23) (pos := q23)) (pa_cons (pe_int (i := 3) (j := i24) (pos := q24)) pa_nil))
  have hn := pe_un (X := X) (pos := q4) un_neg (pe_int (i := 1) (j := i3) (pos := q3))
  have hh := pe_lst (X := X) (pos := q29) (pa_cons (pe_non (j := i1) (pos := q1)) (pa_cons (pe_int (i := 5) (j := i2) (pos := q2)) (pa_cons hn (pa_cons (pe_bl (b := true) (j := i5) (pos := q5)) (pa_cons (pe_str (x := "a") (j := i6) (pos := q6)) (pa_cons (pe_str (x := "") (j := i7) (pos := q7))
    (pa_cons hl1 (pa_cons ht2 (pa_cons hd (pa_cons hl4 (pa_cons hp (pa_cons ht5 (pa_cons (pe_bl (b := false) (j := i26) (pos := q26)) (pa_cons (pe_int (i := 0) (j := i27) (pos := q27)) (pa_cons (pe_int (i := 1) (j := i28) (pos := q28)) pa_nil)))))))))))))))
  have two : 2 ≤ sizeLine := by rw [sizeLine_eq]; decide
  have one : 1 ≤ sizeLine := by rw [sizeLine_eq]; decide
  refine PE.imp hh fun σ H Q hq => ⟨1, rfl, two, fun p1 n1 => ⟨two, fun p2 n2 p3 n3 => ?_⟩⟩
  have k1 : Ext H (upd H p1 (.lst [.int 1, .str "b"])) := ext_new n1
  have m1 : upd H p1 (.lst [.int 1, .str "b"]) p1 = some (.lst [.int 1, .str "b"]) := upd_same
  show tPairs _ σ (upd (upd (upd H p1 (.lst [.int 1, .str "b"])) p2 (.tup [.int 2, .non])) p3 (.dK [])) _
  generalize upd H p1 (.lst [.int 1, .str "b"]) = H1 at n2 n3 k1 m1
  have k2 : Ext H1 (upd H1 p2 (.tup [.int 2, .non])) := ext_new n2
  have m2 : upd H1 p2 (.tup [.int 2, .non]) p2 = some (.tup [.int 2, .non]) := upd_same
  generalize upd H1 p2 (.tup [.int 2, .non]) = H2 at n3 k2 m2
  refine ⟨upd_same, [(.inr "a", .int 1)], rfl, by decide, ?_⟩
  have k3 : Ext H2 (upd (upd H2 p3 (.dK [])) p3 (.dK [(.inr "a", .int 1)])) := fun b o z => by
    rw [upd_ne (ne_of_none z n3), upd_ne (ne_of_none z n3)]
    exact z
  have m3 : upd (upd H2 p3 (.dK [])) p3 (.dK [(.inr "a", .int 1)]) p3 = some (.dK [(.inr "a", .int 1)]) := upd_same
  show tCons _ _ σ (upd (upd H2 p3 (.dK [])) p3 (.dK [(.inr "a", .int 1)])) _
  generalize upd (upd H2 p3 (.dK [])) p3 (.dK [(.inr "a", .int 1)]) = H3 at k3 m3
  refine ⟨one, fun p6 n6 => ⟨one, fun p4 n4 => ?_⟩⟩
  have k6 : Ext H3 (upd H3 p6 (.lst [.str "x"])) := ext_new n6
  have m6 : upd H3 p6 (.lst [.str "x"]) p6 = some (.lst [.str "x"]) := upd_same
  show tCons _ _ σ (upd (upd H3 p6 (.lst [.str "x"])) p4 (.lst [.ref p6])) _
  generalize upd H3 p6 (.lst [.str "x"]) = H4 at n4 k6 m6
  have k4 : Ext H4 (upd H4 p4 (.lst [.ref p6])) := ext_new n4
  have m4 : upd H4 p4 (.lst [.ref p6]) p4 = some (.lst [.ref p6]) := upd_same
  generalize upd H4 p4 (.lst [.ref p6]) = H5 at k4 m4
  refine ⟨10, 17, rfl, rfl, ⟨by decide, by decide, by decide⟩, two, fun p5 n5 => ⟨by show 15 ≤ sizeLine; rw [sizeLine_eq]; decide, fun s ns => ?_⟩⟩
  have k5 : Ext H5 (upd H5 p5 (.tup [.str "s", .int 3])) := ext_new n5
  have m5 : upd H5 p5 (.tup [.str "s", .int 3]) p5 = some (.tup [.str "s", .int 3]) := upd_same
  show Q (.ref s) (upd (upd H5 p5 (.tup [.str "s", .int 3])) s (.lst (someVs p1 p2 p3 p4 p5)))
  generalize upd H5 p5 (.tup [.str "s", .int 3]) = H6 at ns k5 m5
  have k7 : Ext H6 (upd H6 s (.lst (someVs p1 p2 p3 p4 p5))) := ext_new ns
  have e2 : Ext H H2 := fun b o z => k2 _ _ (k1 _ _ z)
  have e3 : Ext H H3 := fun b o z => k3 _ _ (e2 _ _ z)
  have e4 : Ext H H4 := fun b o z => k6 _ _ (e3 _ _ z)
  have e5 : Ext H H5 := fun b o z => k4 _ _ (e4 _ _ z)
  have e6 : Ext H H6 := fun b o z => k5 _ _ (e5 _ _ z)
  have u6 : Ext H6 (upd H6 s (.lst (someVs p1 p2 p3 p4 p5))) := k7
  have u5 : Ext H5 (upd H6 s (.lst (someVs p1 p2 p3 p4 p5))) := fun b o z => u6 _ _ (k5 _ _ z)
  have u4 : Ext H4 (upd H6 s (.lst (someVs p1 p2 p3 p4 p5))) := fun b o z => u5 _ _ (k4 _ _ z)
  have u3 : Ext H3 (upd H6 s (.lst (someVs p1 p2 p3 p4 p5))) := fun b o z => u4 _ _ (k6 _ _ z)
  have u2 : Ext H2 (upd H6 s (.lst (someVs p1 p2 p3 p4 p5))) := fun b o z => u3 _ _ (k3 _ _ z)
  have u1 : Ext H1 (upd H6 s (.lst (someVs p1 p2 p3 p4 p5))) := fun b o z => u2 _ _ (k2 _ _ z)
  have n3' : H p3 = none := none_of_ext e2 n3
  exact hq s p1 p2 p3 p4 p6 p5 _ (fun b o z => k7 _ _ (e6 _ _ z)) (none_of_ext e6 ns) upd_same ⟨nw_of n1 (u1 _ _ m1), nw_of (none_of_ext k1 n2) (u2 _ _ m2), nw_of n3' (u3 _ _ m3), nw_of (none_of_ext e4 n4) (u5 _ _ m4), nw_of (none_of_ext e3 n6) (u4 _ _ m6), nw_of (none_of_ext e5 n5) (u6 _ _ m5)⟩
end
end RWk
end
section
/-! M31: the law itself. -/
namespace RWk
open PySem PySem.Spec PyProof.Rows L2 LamX
theorem tabs_extD {Tb : List (Addr × Str)} {H H' : Hp} {t c : Addr} {a b d : Int} {xs : List Int} (h : Tabs Tb H) (S : Strm H t c a b d xs) (x : ExtD t c H H') : Tabs Tb H' := fun p hp => by
  obtain ⟨ps, h1, h2, h3⟩ := h p hp
  refine ⟨ps, x _ _ (ne_of h1 S.t fun z => by cases z) (ne_of h1 S.c fun z => by cases z) h1, h2, fun pos cv hc => ?_⟩
  obtain ⟨c', e1, e2⟩ := h3 pos cv hc
  exact ⟨c', e1, x _ _ (ne_of e2 S.t codeO_lst) (ne_of e2 S.c codeO_lst) e2⟩
theorem Strm.extN {H H' : Hp} {t c : Addr} {a b d : Int} {xs : List Int} (S : Strm H t c a b d xs) (x : ExtN H H') : Strm H' t c a b d xs := ⟨x _ _ S.t (fun _ z => by cases z), x _ _ S.c (fun _ z => by cases z), S.a0, S.b0, S.d0, S.d1, S.few⟩
theorem extN_extD {H0 H H' : Hp} {t c : Addr} (e : ExtN H0 H) (x : ExtD t c H H') (n1 : H0 t = none) (n2 : H0 c = none) : ExtN H0 H' := fun b o z nt => x _ _ (ne_of_none z n1) (ne_of_none z n2) (e _ _ z nt)
/-- held is not among what was made -/
theorem xv_away {H : Hp} {h : Addr} {b : Bool} {v : V} (hh : H h = some (.lst [.str "v"])) (z : XV anyA H (.ref h) b v) : XV (· ≠ h) H (.ref h) b v := by
  cases b with
  | false => exact z
  | true =>
    obtain ⟨a, e1, _, e2⟩ := z
    refine ⟨a, e1, fun q => ?_, e2⟩
    rw [q, hh] at e2
    cases e2
theorem MadeIt.away {H : Hp} {h : Addr} {C : Addr} {fs : List Str} {v : V} (hh : H h = some (.lst [.str "v"])) (m : MadeIt anyA H (.ref h) C fs v) : MadeIt (· ≠ h) H (.ref h) C fs v := by
  obtain ⟨T, ea, eb, f, du, va, vb, vd, q, params, lb, lsc, h1, h2, h3, h4, h5, h6, h7, h8, h9, h10, h11⟩ := m
  refine ⟨T, ea, eb, f, du, va, vb, vd, q, params, lb, lsc, h1, h2, h3, Paired.mapP h4 fun _ _ z => xv_away hh z, h5, Paired.mapP h6 fun _ _ z => xv_away hh z, h7, h8, fun z => ?_, h10, Paired.mapP h11 fun _ _ z => xv_away hh z⟩
  rw [z, hh] at h10
  cases h10
  generalize kd fs = bs at h11
  cases h11 with
  | @cons b _ bs' _ r t =>
    cases b with
    | false =>
      have r' : V.str "v" = V.ref h := r
      cases r'
    | true =>
      obtain ⟨a, r', _⟩ := r
      cases r'
/-! ### one turn -/
def turnP : List Stmt → Option (Expr × Expr × Stmt)
  | [.Assign [.Name x _] (.Call (.Name p _) [.Name a _, .Name b _] [] _) _, .Assign [.Name m _] (.BinOp ea .Add eb _) _, st] => if x == ("_law_x" : Str) && (p == ("_law_pick" : Str) && (a == ("_law_stream_here" : Str) && (b == ("_law_some" : Str) && m == ("_law_made" : Str)))) then some (ea, eb, st) else none
  | _ => none
theorem turnP_ok {b : List Stmt} {ea eb : Expr} {st : Stmt} (h : turnP b = some (ea, eb, st)) : ∃ p1 p2 p3 p4 p5 p6 p7 p8 p9, b = [.Assign [.Name "_law_x" p1] (.Call (.Name "_law_pick" p2) [.Name "_law_stream_here" p3, .Name "_law_some" p4] [] p5) p6, .Assign [.Name "_law_made" p7] (.BinOp ea .Add eb p8) p9, st] := by
  unfold turnP at h
  split at h
  · split at h
    · rename_i q
      simp only [Bool.and_eq_true, beq_iff_eq] at q
      obtain ⟨rfl, rfl, rfl, rfl, rfl⟩ := q
      cases h
      exact ⟨_, _, _, _, _, _, _, _, _, rfl⟩
    · cases h
  · cases h
def tTurn (Tb : List (Addr × Str)) : TS := fun D σ H => ∃ t c s a b d xs ys H0, σ.length = 12 ∧ σ[1]? = some (some (.ref t)) ∧ σ[2]? = some (some (.ref s)) ∧ Strm H t c a b d xs ∧ b < 1000 ∧ H s = some (.lst ys) ∧ s ≠ t ∧ s ≠ c ∧ 0 < ys.length ∧ ys.length < 1000 ∧ Tabs Tb H ∧ ExtN H0 H ∧ H0 t = none ∧ H0 c = none ∧
  (∀ v ∈ ys, ∀ G, ExtN H0 G → ∃ d, Dat G v d ∧ Slf v) ∧ ∀ σ' H' a' d' xs', σ'.length = 12 → σ'[1]? = σ[1]? → σ'[2]? = σ[2]? → Strm H' t c a' (b + 1) d' xs' → H' s = some (.lst ys) → Tabs Tb H' → ExtN H0 H' → D.nx σ' H'
section
variable {X : Cx} {Tb : List (Addr × Str)} {k : Nat} {sp sp' : List Spc} {Cs Cs' : List Addr} {fp : Addr} {fdp : FuncData}
theorem pss_turn (L : LwF X) (hr : Room k X.A) (Fp : FnOk X.prog X.w X.K X.mg X.base C8.CX0 k fp fdp ["_law_stream_here", "_law_things"] (spPick X.K)) (Bp : PB fdp ["_law_stream_here", "_law_things"]) (mp : X.mg "_law_pick" = some (.ref fp)) (kp : PySem.W.keepIn X.K (.ref fp) = true)
    (Ma : MadeF X.prog X.w X.K X.mg X.base Tb k "_law_made_a" sp Cs) (Mb : MadeF X.prog X.w X.K X.mg X.base Tb k "_law_made_b" sp' Cs') (few : sp.length + sp'.length ≤ 10000)
    {b : List Stmt} {ea eb : Expr} {st : Stmt} (h : turnP b = some (ea, eb, st)) (ha : call1 ea = some (("_law_made_a" : Str), ("_law_x" : Str))) (hb : call1 eb = some (("_law_made_b" : Str), ("_law_x" : Str))) (hst : PS X st (tLoop1 X.K (sp ++ sp') (Cs ++ Cs'))) : PSs X b (tTurn Tb) := by
  obtain ⟨p1, p2, p3, p4, p5, p6, p7, p8, p9, rfl⟩ := turnP_ok h
  have gp := L.gl "_law_pick" (by simp)
  have nd : X.N.Nodup := by rw [L.N]; decide +kernel
  have cp := pe_call (X := X) (p := p2) (pos := p5) (E := C8.E0) Fp hr gp.1 mp kp (Bp.binds _) .nil C8.pass0 (pa_cons (L.pv (i := 1) rfl p3) (pa_cons (L.pv (i := 2) rfl p4) pa_nil)) gp.2
  have s1 := ps_set (X := X) (i := 4) (pos := p6) (pos' := p1) nd (by rw [L.N]; rfl) (.inl (L.loc _ (by decide +kernel))) cp (by rfl) (.inl (L.fn _ (by decide +kernel)))
  have ga := L.gl "_law_made_a" (by simp)
  have gb := L.gl "_law_made_b" (by simp)
  have pm := pe_mades (pos := p8) (pe_made L (i := 4) Ma ha rfl hr ga.1 ga.2) (pe_made L (i := 4) Mb hb rfl hr gb.1 gb.2) Ma.len few
  have s2 := ps_set (X := X) (i := 5) (pos := p9) (pos' := p7) nd (by rw [L.N]; rfl) (.inl (L.loc _ (by decide +kernel))) pm (by rfl) (.inl (L.fn _ (by decide +kernel)))
  have hh := pss_cons s1 (pss_cons s2 (pss_one hst))
  refine ⟨fun pins s σ H D I ⟨t, c, sa, a, b, d, xs, ys, H0, l12, v1, v2, S0, b1, hs, n1, n2, y0, y1, ht, x0, z1, z2, hd, hq⟩ => hh.run pins s σ H D I ?_⟩
  refine ⟨.ref t, v1, .ref sa, v2, t, c, sa, a, b, d, xs, ys, rfl, S0, b1, .inl (Rd.of hs), n1, n2, y0, y1, fun H1 a' d' xs' v x1 S1 hv => ?_⟩
  have t1 := tabs_extD ht S0 x1
  refine ⟨v, by rw [List.getElem?_set_self (by omega)], t1, fun l ls H2 x2 t2 hl len hi => ?_⟩
  have e2 : ExtN H0 H2 := (extN_extD x0 x1 z1 z2).trans x2
  obtain ⟨dt, hd1, hd2⟩ := hd v hv H2 e2
  refine ⟨l, ls, v, dt, by simp; exact l12, by rw [List.getElem?_set_self (by simp; omega)], hl, hi, hd1, hd2, fun σ' H' l' hj x3 => ?_⟩
  refine hq σ' H' a' d' xs' l' ?_ ?_ (S1.extN (x2.trans (ExtN.of x3))) (x3 _ _ (x2 _ _ (x1 _ _ n1 n2 hs) fun _ z => by cases z)) (t2.ext x3) (e2.trans (ExtN.of x3))
  · rw [hj 1 (by decide), List.getElem?_set_ne (by decide), List.getElem?_set_ne (by decide)]
  · rw [hj 2 (by decide), List.getElem?_set_ne (by decide), List.getElem?_set_ne (by decide)]
end
end RWk
end
section
/-! M32: the law's def. -/
namespace RWk
open PySem PySem.Spec PyProof.Rows L2 LamX
structure LwP where
  some : Expr
  turn : List Stmt
  ea : Expr
  eb : Expr
  st : Stmt
def lawP : List Stmt → Option LwP
  | [.Assign [.Name a _] (.Call (.Name b _) [.Name c _] [] _) _, .Assign [.Name d _] e _, .For (.Name f _) (.Call (.Name g _) [.Constant (.int n) _ _] [] _) bd [] _, .Assign [.Name h _] (.List [.Constant (.str i) _ _] _) _, .Assign [.Name j _] (.BinOp ea .Add eb _) _,
      .Expr (.Call (.Attribute (.Name k _) ap apos) [.Constant (.str l) _ _] [] cpos) _, st, .Return (some (.Call (.Name m _) [] [] _)) _] =>
    if a == ("_law_stream_here" : Str) && (b == ("_law_stream" : Str) && (c == ("_law_script" : Str) && (d == ("_law_some" : Str) && (f == ("_law_turn" : Str) && (g == ("range" : Str) && (decide (n = 3) && (h == ("_law_held" : Str) && (i == ("v" : Str) && (j == ("_law_made" : Str) &&
      (k == ("_law_held" : Str) && (ap == ("append" : Str) && (l == ("late" : Str) && (m == ("_law_paths_right" : Str) && ((apos.endLine == cpos.line) && (plE e && someB e))))))))))))))) then some ⟨e, bd, ea, eb, st⟩ else none
  | _ => none
theorem lawP_ok {b : List Stmt} {D : LwP} (h : lawP b = some D) : ∃ p1 p2 p3 p4 p5 p6 p7 p8 p9 j1 p10 p11 p12 p13 j2 p14 p15 p16 p17 p18 p19 p20 apos j3 p21 cpos p22 p23 p24 p25, b = [.Assign [.Name "_law_stream_here" p1] (.Call (.Name "_law_stream" p2) [.Name "_law_script" p3] [] p4) p5, .Assign [.Name "_law_some" p6] D.some p7,
    .For (.Name "_law_turn" p8) (.Call (.Name "range" p9) [.Constant (.int 3) j1 p10] [] p11) D.turn [] p12, .Assign [.Name "_law_held" p13] (.List [.Constant (.str "v") j2 p14] p15) p16, .Assign [.Name "_law_made" p17] (.BinOp D.ea .Add D.eb p18) p19,
    .Expr (.Call (.Attribute (.Name "_law_held" p20) "append" apos) [.Constant (.str "late") j3 p21] [] cpos) p22, D.st, .Return (some (.Call (.Name "_law_paths_right" p23) [] [] p24)) p25] ∧ (apos.endLine == cpos.line) = true ∧ plE D.some = true ∧ someB D.some = true := by
  unfold lawP at h
  split at h
  · split at h
    · rename_i q
      simp only [Bool.and_eq_true, beq_iff_eq, decide_eq_true_eq] at q
      obtain ⟨rfl, rfl, rfl, rfl, rfl, rfl, rfl, rfl, rfl, rfl, rfl, rfl, rfl, rfl, q1, q2, q3⟩ := q
      cases h
      exact ⟨_, _, _, _, _, _, _, _, _, _, _, _, _, _, _, _, _, _, _, _, _, _, _, _, _, _, _, _, _, _, rfl, beq_iff_eq.mpr q1, q2, q3⟩
    · cases h
  · cases h
def spLaw (K : PySem.W.Frag) (Tb : List (Addr × Str)) : Sp := fun vs H Q _ => ∃ (a : Addr) (xs : List Int), vs = [.ref a] ∧ SqL K H a (xs.map V.int) ∧ xs.length ≤ 100000000 ∧ Tabs Tb H ∧ ∀ H', Q (.bl true) H'
/-- the decode of the law's body -/
structure LwC (D : LwP) (D1 : Expr × Expr × Stmt) (D2 : Stmt × Stmt) (s2 : Stmt) (o1 o2 f1 f2 g1 g2 : Expr) : Prop where
  turn : turnP D.turn = some D1
  ta : call1 D1.1 = some (("_law_made_a" : Str), ("_law_x" : Str))
  tb : call1 D1.2.1 = some (("_law_made_b" : Str), ("_law_x" : Str))
  l1 : loop1P D1.2.2 = some D2
  o : chkP D2.1 = some (o1, o2)
  oa : ownE "_law_mine" o1 = true
  ob : ownE "_law_twin" o2 = true
  f : chkP D2.2 = some (f1, f2)
  fa : fldE "_law_mine" f1 = true
  fb : fldE "_law_twin" f2 = true
  ha : call1 D.ea = some (("_law_made_a" : Str), ("_law_held" : Str))
  hb : call1 D.eb = some (("_law_made_b" : Str), ("_law_held" : Str))
  l2 : loop2P D.st = some s2
  g : chkP s2 = some (g1, g2)
  ga : fldE "_law_mine" g1 = true
  gb : fldE "_law_twin" g2 = true
section
variable {P : Program} {w : World} {K : PySem.W.Frag} {mg : Str → Option Value} {base : Heap} {k : Nat} {f f1 f2 f3 f4 f5 : Addr} {x : Str} {params : Arguments} {body : List Stmt} {scope : Scope} {dV kV doc pm cdv ct oc : Value} {an od : Option Addr} {osl : Array (Option Value)} {d1 d2 d3 d4 d5 : FuncData} {Tb : List (Addr × Str)}
  {sp sp' : List Spc} {Cs Cs' : List Addr} {D : LwP} {D1 : Expr × Expr × Stmt} {D2 : Stmt × Stmt} {s2 : Stmt} {o1 o2 e1 e2 g1 g2 : Expr}
theorem fnLaw {CX : CXT} (lk : K.lookup f = some ⟨oc, od, .func (PySem.W.fnOf x x params body scope dV kV doc pm an cdv ct), osl⟩) (hcd : PySem.W.codeIn K cdv x = true) (hs : scB NL ["_law_script"] scope = true) (hb : lawP body = some D) (C : LwC D D1 D2 s2 o1 o2 e1 e2 g1 g2)
    (hl : ∀ y ∈ NL, scope.names.lookup y = some .local) (hg : ∀ y ∈ [("_law_stream" : Str), "range", "_law_pick", "_law_made_a", "_law_made_b", "enumerate", "_law_is_own", "_law_same", "_law_paths_right"], glB scope y = true) (mr : mg "range" = none) (me : mg "enumerate" = none)
    (F1 : FnOk P w K mg base C8.CX0 (k + 1) f1 d1 ["_law_script"] (spStream K)) (B1 : PB d1 ["_law_script"]) (m1 : mg "_law_stream" = some (.ref f1)) (k1 : PySem.W.keepIn K (.ref f1) = true)
    (F2 : FnOk P w K mg base C8.CX0 (k + 1) f2 d2 ["_law_stream_here", "_law_things"] (spPick K)) (B2 : PB d2 ["_law_stream_here", "_law_things"]) (m2 : mg "_law_pick" = some (.ref f2)) (k2 : PySem.W.keepIn K (.ref f2) = true)
    (Ma : MadeF P w K mg base Tb (k + 1) "_law_made_a" sp Cs) (Mb : MadeF P w K mg base Tb (k + 1) "_law_made_b" sp' Cs') (few : sp.length + sp'.length ≤ 10000) (many : 2 ≤ sp.length + sp'.length) (hC : ClsF K (sp ++ sp') (Cs ++ Cs'))
    (F3 : FnOk P w K mg base C8.CX0 (k + 1) f3 d3 ["_law_e", "_law_at"] (spOwn (Cs ++ Cs'))) (B3 : PB d3 ["_law_e", "_law_at"]) (m3 : mg "_law_is_own" = some (.ref f3)) (k3 : PySem.W.keepIn K (.ref f3) = true)
    (F4 : FnG P w K mg base C8.CX0 (k + 1) f4 d4 ["_law_found", "_law_due"] (spSame K)) (B4 : PB d4 ["_law_found", "_law_due"]) (m4 : mg "_law_same" = some (.ref f4)) (k4 : PySem.W.keepIn K (.ref f4) = true)
    (F5 : FnG P w K mg base C8.CX0 (k + 1) f5 d5 [] (spPaths Tb)) (B5 : PB d5 []) (m5 : mg "_law_paths_right" = some (.ref f5)) (k5 : PySem.W.keepIn K (.ref f5) = true) :
    FnG P w K mg base CX (k + 2) f (PySem.W.fnOf x x params body scope dV kV doc pm an cdv ct) ["_law_script"] (spLaw K Tb) := by
  have S := scB_ok hs
  obtain ⟨p1, p2, p3, p4, p5, p6, p7, p8, p9, j1, p10, p11, p12, p13, j2, p14, p15, p16, p17, p18, p19, p20, apos, j3, p21, cpos, p22, p23, p24, p25, rfl, hln, hpl, hsm⟩ := lawP_ok hb
  refine fn_ofG lk hcd S (fun vs H Q E ⟨_, _, ev, _⟩ => by rw [ev]; rfl) fun A outer s H vs Q E hr hgd ⟨a, xs, ev, hq0, fw, ht, hq⟩ => ?_
  subst ev
  generalize hX : cxOf CX P w K mg base NL x scope f cdv A outer s H E = X
  have gl : ∀ y ∈ [("_law_stream" : Str), "range", "_law_pick", "_law_made_a", "_law_made_b", "enumerate", "_law_is_own", "_law_same", "_law_paths_right"], Gl X y ∧ (y == ("__debug__" : Str)) = false := fun y hy => by
    obtain ⟨g1, g2⟩ := Bool.and_eq_true_iff.mp (show (decide (scope.names.lookup y = some .globalImplicit) && okN y) = true from hg y hy)
    obtain ⟨g3, _⟩ := Bool.and_eq_true_iff.mp (show (!(y == ("__debug__" : Str)) && !(y == ("__classdict__" : Str))) = true from g2)
    refine ⟨?_, by simpa using g3⟩
    rw [← hX]
    exact (of_decide_eq_true g1 : scope.names.lookup y = some .globalImplicit)
  have L : LwF X := ⟨by rw [← hX]; rfl, by rw [← hX]; rfl, fun y hy => by rw [← hX]; exact hl y hy, by rw [← hX]; exact hgd, fun y hy => by rw [← hX]; rfl, gl⟩
  have room : Room (k + 1) X.A := by rw [← hX]; exact hr
  have nd : X.N.Nodup := by rw [L.N]; decide +kernel
  have ns := gl "_law_stream" (by simp)
  have c1 := pe_call (X := X) (p := p2) (pos := p4) (E := C8.E0) (by rw [← hX]; exact F1) room ns.1 (by rw [← hX]; exact m1) (by rw [← hX]; exact k1) (B1.binds _) .nil C8.pass0 (pa_cons (L.pv (i := 0) rfl p3) pa_nil) ns.2
  have s1 := ps_set (X := X) (i := 1) (pos := p5) (pos' := p1) nd (by rw [L.N]; rfl) (.inl (L.loc _ (by decide +kernel))) c1 (by rfl) (.inl (L.fn _ (by decide +kernel)))
  have s2' := ps_set (X := X) (i := 2) (pos := p7) (pos' := p6) nd (by rw [L.N]; rfl) (.inl (L.loc _ (by decide +kernel))) (pe_some hsm) (swW hpl) (.inl (L.fn _ (by decide +kernel)))
  have hpass : PassesOwn (model X.prog X.w) X.A X.env X.xe := passes_of (by rw [← hX]; rfl)
  have hC' : ClsF X.K (sp ++ sp') (Cs ++ Cs') := by rw [← hX]; exact hC
  have Ma' : MadeF X.prog X.w X.K X.mg X.base Tb (k + 1) "_law_made_a" sp Cs := by rw [← hX]; exact Ma
  have Mb' : MadeF X.prog X.w X.K X.mg X.base Tb (k + 1) "_law_made_b" sp' Cs' := by rw [← hX]; exact Mb
  have hown := ps_own L (k := k + 1) (A := Cs ++ Cs') (by rw [← hX]; exact F3) B3 room (by rw [← hX]; exact m3) (by rw [← hX]; exact k3) C.o C.oa C.ob
  have F4' : FnG X.prog X.w X.K X.mg X.base C8.CX0 (k + 1) f4 d4 ["_law_found", "_law_due"] (spSame X.K) := by rw [← hX]; exact F4
  have hfl1 := ps_flds L F4' B4 room (by rw [← hX]; exact m4) (by rw [← hX]; exact k4) C.f C.fa C.fb
  have hfl2 := ps_flds L F4' B4 room (by rw [← hX]; exact m4) (by rw [← hX]; exact k4) C.g C.ga C.gb
  have hl1 := ps_loop1 L hpass (by rw [← hX]; exact me) hC' C.l1 hown hfl1
  have hl2 := ps_loop2 L hpass hC' C.l2 hfl2
  have ht1 := pss_turn L room (by rw [← hX]; exact F2) B2 (by rw [← hX]; exact m2) (by rw [← hX]; exact k2) Ma' Mb' few C.turn C.ta C.tb hl1
  have hfor := ps_for (X := X) (pos := p12) hpass L.calm (pi_range1 (tg := .Name "_law_turn" p8) (p := p9) (pos := p11) (gl "range" (by simp)).1 (by rw [← hX]; exact mr) (pa_cons (pe_int (i := 3) (j := j1) (pos := p10)) pa_nil)) (L.pg (i := 3) rfl p8) ht1
  have s4 := ps_set (X := X) (i := 11) (pos := p16) (pos' := p13) nd (by rw [L.N]; rfl) (.inl (L.loc _ (by decide +kernel))) (pe_lst (pos := p15) (pa_cons (pe_str (x := "v") (j := j2) (pos := p14)) pa_nil)) (by rfl) (.inl (L.fn _ (by decide +kernel)))
  have ga := gl "_law_made_a" (by simp)
  have gb := gl "_law_made_b" (by simp)
  have pm := pe_mades (pos := p18) (pe_made L (i := 11) Ma' C.ha rfl room ga.1 ga.2) (pe_made L (i := 11) Mb' C.hb rfl room gb.1 gb.2) Ma.len few
  have s5 := ps_set (X := X) (i := 5) (pos := p19) (pos' := p17) nd (by rw [L.N]; rfl) (.inl (L.loc _ (by decide +kernel))) pm (by rfl) (.inl (L.fn _ (by decide +kernel)))
  have s6 := ps_expr (pos := p22) (pe_bm (T := "list") PySem.F.plainAttrs_list PySem.F.slot_list_append PySem.F.type_list_append mt_append (L.pv (i := 11) rfl p20) (pa_cons (pe_str (X := X) (x := "late") (j := j3) (pos := p21)) pa_nil) (apos := apos) (cpos := cpos) (by rfl) (by rfl) hln (by rfl) (by rfl)) (by rfl)
  have gp := gl "_law_paths_right" (by simp)
  have hret := ps_ret (pos := p25) (pe_callG0 (X := X) (p := p23) (pos := p24) (E := C8.E0) (by rw [← hX]; exact F5) room L.gd gp.1 (by rw [← hX]; exact m5) (by rw [← hX]; exact k5) (B5.binds _) C8.pass0 gp.2)
  refine ⟨_, pss_cons s1 (pss_cons s2' (pss_cons hfor (pss_cons s4 (pss_cons s5 (pss_cons s6 (pss_cons hl2 (pss_one hret))))))), ?_⟩
  have hN0 : L2.start NL [.ref a] = [some (.ref a), none, none, none, none, none, none, none, none, none, none, none] := rfl
  have hKK : X.K = K := by rw [← hX]; rfl
  rw [hN0]
  refine ⟨.ref a, rfl, a, xs, rfl, hq0, fw, fun t c H1 x1 t0 c0 S1 => ?_⟩
  intro sa q1 q2 q3 q4 q6 q5 H2 x2 n2 hsa h5
  have S2 := S1.extN (ExtN.of x2)
  have n1 : sa ≠ t := fun z => by rw [z, S1.t] at n2; cases n2
  have n1' : sa ≠ c := fun z => by rw [z, S1.c] at n2; cases n2
  have nt : Nw H1 H2 t = none := by unfold Nw; rw [S1.t]
  have nc : Nw H1 H2 c = none := by unfold Nw; rw [S1.c]
  have e0 : ExtN (Nw H1 H2) H2 := fun b o z _ => by
    unfold Nw at z
    split at z
    · exact z
    · cases z
  refine ⟨3, rfl, by decide, by decide, ?_⟩
  refine for_it (walk_range (lo := 0) (n := 3)) (fun i σ G => σ.length = 12 ∧ σ[1]? = some (some (.ref t)) ∧ σ[2]? = some (some (.ref sa)) ∧ (∃ a d xs, Strm G t c a (i : Nat) d xs) ∧ G sa = some (.lst (someVs q1 q2 q3 q4 q5)) ∧ Tabs Tb G ∧ ExtN (Nw H1 H2) G)
    ⟨rfl, rfl, rfl, ⟨0, 17, xs, S2⟩, hsa, (ht.ext x1).ext x2, e0⟩ (fun _ _ _ _ _ => True.intro) (fun i y σ G G' hi w' z' => ?_) fun σ G w' => ?_
  · obtain ⟨l12, v1, v2, ⟨a', d', xs', S3⟩, hs3, t3, e3⟩ := w'
    obtain ⟨ez, ey⟩ := z'
    subst ez
    refine ⟨t, c, sa, a', (i : Nat), d', xs', someVs q1 q2 q3 q4 q5, Nw H1 H2, by simpa using l12, by rw [List.getElem?_set_ne (by decide)]; exact v1, by rw [List.getElem?_set_ne (by decide)]; exact v2, S3, by omega, hs3, n1, n1', by simp [someVs], by simp [someVs], t3, e3, nt, nc,
      fun v hv G2 eG => some_dat (h5.extN eG) hv, fun σ' G2 a2 d2 xs2 l' w1 w2 S4 hs4 t4 e4 => ⟨l', ?_, ?_, ⟨a2, d2, xs2, by simpa using S4⟩, hs4, t4, e4⟩⟩
    · rw [w1, List.getElem?_set_ne (by decide)]
      exact v1
    · rw [w2, List.getElem?_set_ne (by decide)]
      exact v2
  · obtain ⟨l12, _, _, _, _, t3, _⟩ := w'
    refine ⟨by show 1 ≤ sizeLine; rw [sizeLine_eq]; decide, fun h hh => ?_⟩
    have t4 : Tabs Tb (upd G h (.lst [.str "v"])) := tabs_new t3 hh
    have v4 : upd G h (.lst [.str "v"]) h = some (.lst [.str "v"]) := upd_same
    refine ⟨.ref h, by rw [List.getElem?_set_self (by omega)], t4, fun l ls G2 x5 t5 hl5 len items => ?_⟩
    have v5 : G2 h = some (.lst [.str "v"]) := x5 _ _ v4 fun _ z => by cases z
    have g11 : ((σ.set 11 (some (.ref h))).set 5 (some (V.ref l)))[11]? = some (some (.ref h)) := by rw [List.getElem?_set_ne (by decide), List.getElem?_set_self (by omega)]
    refine ⟨.ref h, g11, .inl ⟨rfl, _, .inl (Rd.of v5)⟩, h, [.str "v"], .str "late", rfl, rfl, v5, by show 1 < sizeLine; rw [sizeLine_eq]; decide, ?_⟩
    have z1 : upd G2 h (.lst ([.str "v"] ++ [.str "late"])) h = some (.lst [.str "v", .str "late"]) := upd_same
    have z2 : ExtL h G2 (upd G2 h (.lst ([.str "v"] ++ [.str "late"]))) := fun b o e _ n => by rw [upd_ne n]; exact e
    have z3 : Tabs Tb (upd G2 h (.lst ([.str "v"] ++ [.str "late"]))) := tabs_set t5 v5
    have z4 : upd G2 h (.lst ([.str "v"] ++ [.str "late"])) l = some (.lst ls) := z2 _ _ hl5 (fun _ z => by cases z) fun z => by
      rw [z, v5] at hl5
      cases hl5
      rw [List.length_append] at len
      simp at len
      omega
    show tSeq _ _ _ _ (upd G2 h (.lst ([.str "v"] ++ [.str "late"])))
    generalize upd G2 h (.lst ([.str "v"] ++ [.str "late"])) = G3 at z1 z2 z3 z4
    refine ⟨l, ls, .ref h, .list [.str "v", .str "late"], by simpa using l12, by rw [List.getElem?_set_self (by simp; omega)], z4, fun i v hi => ?_, ⟨.lst z1 (.cons (.str _) (.cons (.str _) .nil)), by decide +kernel, by decide +kernel, by decide +kernel⟩, .inr ⟨h, rfl⟩, fun σ' G4 x6 => ?_⟩
    · obtain ⟨c', fs, C', i1, i2, i3⟩ := items i v hi
      exact ⟨_, c', fs, C', i1, i2, (i3.away v5).extL v5 z2⟩
    · exact ⟨rfl, z3.ext x6, fun H' => hq H'⟩
end
end RWk
end
section
/-! M33: the end: the law's def is called by the claim. -/
namespace RWk
open PySem PySem.Spec PyProof.Rows L2 LamX
theorem caller_guards : callerA.guards = some [] := rfl
abbrev noTb : Obj := { cls := .none, data := .fields #[] }
/-- what is tracked at the call: the script's list (unless K holds it), the empty tables -/
def H0of (a : Addr) (u : Option HO) (ts : List Addr) : Hp := fun b => if b = a then u else if b ∈ ts then some (.tbl #[]) else none
theorem h0_tab {a : Addr} {u : Option HO} {ts : List Addr} {b : Addr} (h : b ∈ ts) (n : b ≠ a) : H0of a u ts b = some (.tbl #[]) := by
  unfold H0of
  rw [if_neg n, if_pos h]
theorem h0_a {a : Addr} {u : Option HO} {ts : List Addr} : H0of a u ts a = u := by
  unfold H0of
  rw [if_pos rfl]
theorem h0_cases {a : Addr} {u : Option HO} {ts : List Addr} {b : Addr} {o : HO} (h : H0of a u ts b = some o) : (b = a ∧ u = some o) ∨ (b ≠ a ∧ b ∈ ts ∧ o = .tbl #[]) := by
  unfold H0of at h
  by_cases e : b = a
  · rw [if_pos e] at h
    exact .inl ⟨e, h⟩
  · rw [if_neg e] at h
    by_cases q : b ∈ ts
    · rw [if_pos q] at h
      exact .inr ⟨e, q, (Option.some.inj h).symm⟩
    · rw [if_neg q] at h
      cases h
section
variable {P : Program} {w : World} {K : PySem.W.Frag} {mg mb : Str → Option Value} {CX : CXT} {k : Nat} {fa a : Addr} {cs : List (Addr × Addr)} {fd : FuncData} {x : Str} {sp : Sp} {s₁ : Shared} {vs : List Value} {ns : List Int}
/-- the script, tracked or kept -/
inductive Scr (K : PySem.W.Frag) (a : Addr) (vs : List Value) (ns : List Int) : Option HO → Prop
  | kept (o : Obj) (h : K.lookup a = some o) : Scr K a vs ns none
  | tracked (h : K.lookup a = none) : Scr K a vs ns (some (.frz { cls := .type "list", data := .seq vs.toArray } (.lst (ns.map V.int))))
theorem law_callG (KX : K.In s₁.heap) (hns : s₁.heap.Ns mainGlobals mg) (hb : s₁.heap.Ns builtinsNs mb) (hbb : ∀ x : Str, x ≠ "__name__" → mb x = bootBuiltins x) (hlim : s₁.heap.NoLimit) (hg : s₁.gens = #[])
    (hT : ∀ p ∈ cs, s₁.heap.get? p.2 = some noTb) (nT : ∀ p ∈ cs, K.lookup p.2 = none) (C : ∀ p ∈ cs, PySem.W.CodeHd s₁.heap p.1 p.2)
    (hbm : ∃ (bm : Addr) (ob : Obj), mg "__builtins__" = some (.ref bm) ∧ bm ≠ builtinsNs ∧ s₁.heap.get? bm = some ob ∧ ob.cls = .type "module" ∧ ob.dict = some builtinsNs ∧ ob.data = .plain)
    (ha : s₁.heap.get? a = some { cls := .type "list", data := .seq vs.toArray }) (hi : IntsAre vs ns) (hl : ns.length ≤ sizeLine) (hr : Room k callerA)
    (F : ∀ base : Heap, K.In base → base.Ns mainGlobals mg → (∀ p ∈ cs, TabB base mg p.1 p.2) → FnG P w K mg base CX k fa fd [x] sp) (hbind : ∀ (s : Shared) (u : Value), BindsTo s fd ⟨[u], []⟩ [(x, u)])
    (hsp : ∀ H : Hp, (∀ p ∈ cs, H p.2 = some (.tbl #[])) → SqL K H a (ns.map V.int) → sp [.ref a] H (fun v _ => v = .bl true) fun _ _ _ => False)
    (hCX : ∀ H e s', CX [] H s₁ (fun _ _ _ => False) e s' → False) :
    codeAny (model P w) callerA (.call (.ref fa) ⟨[.ref a], []⟩) (fun r s' => r = .ok (.ret (.bool true)) ∧ OldK s₁.heap s'.heap ∧ s'.os = s₁.os ∧ AllBare s'.gens) s₁ := by
  have rv := vals_ints hi
  have lenV := hi.length
  obtain ⟨u, hu⟩ : ∃ u, Scr K a vs ns u := by
    cases e : K.lookup a with
    | some o => exact ⟨_, .kept o e⟩
    | none => exact ⟨_, .tracked e⟩
  have isT : ∀ b, b ∈ cs.map (·.2) → s₁.heap.get? b = some noTb := fun b h => by
    obtain ⟨p, hp, rfl⟩ := List.mem_map.mp h
    exact hT p hp
  have inT : ∀ p ∈ cs, p.2 ∈ cs.map (·.2) := fun p hp => List.mem_map_of_mem hp
  have aT : a ∉ cs.map (·.2) := fun z => by
    have q := ha.symm.trans (isT a z)
    injection q with q
    injection q with _ _ q
    cases q
  have pa : ∀ p ∈ cs, p.2 ≠ a := fun p hp z => aT (z ▸ inT p hp)
  have hHt : ∀ p ∈ cs, H0of a u (cs.map (·.2)) p.2 = some (.tbl #[]) := fun p hp => h0_tab (inT p hp) (pa p hp)
  -- the tracked things stand as they are
  have hok : HOk P w (H0of a u (cs.map (·.2))) s₁.heap := fun b o e => by
    rcases h0_cases e with ⟨rfl, e'⟩ | ⟨_, q, rfl⟩
    · cases hu with
      | kept => cases e'
      | tracked =>
        cases e'
        exact ⟨ha, by rw [List.length_map]; exact hl, vs, _, rv, ha⟩
    · exact isT b q
  have hS : SqL K (H0of a u (cs.map (·.2))) a (ns.map V.int) := by
    cases hu with
    | kept o e =>
      have e2 := KX a o e
      rw [ha] at e2
      cases e2
      exact .inr ⟨_, vs.toArray, _, e, rfl, rfl, rfl, by rw [List.size_toArray, lenV]; exact hl, by simpa using rv⟩
    | tracked => exact .inl (.inr ⟨_, h0_a⟩)
  -- what is neither a list nor an empty table is not tracked
  have out : ∀ {b : Addr} {o : Obj}, s₁.heap.get? b = some o → (∀ xs n, o.data ≠ .seq xs n) → o.data ≠ .fields #[] → H0of a u (cs.map (·.2)) b = none := fun {b o} e n1 n2 => by
    cases q : H0of a u (cs.map (·.2)) b with
    | none => rfl
    | some z =>
      rcases h0_cases q with ⟨rfl, _⟩ | ⟨_, q2, _⟩
      · rw [ha] at e
        cases e
        exact absurd rfl (n1 _ _)
      · rw [isT b q2] at e
        cases e
        exact absurd rfl n2
  have stay : ∀ {b : Addr} {o : Obj}, s₁.heap.get? b = some o → (∀ xs n, o.data ≠ .seq xs n) → o.data ≠ .fields #[] → (hidT s₁.heap (H0of a u (cs.map (·.2)))).get? b = some o := fun e n1 n2 => hidT_get e (out e n1 n2)
  have nsS : ∀ {b : Addr} {m : Str → Option Value}, s₁.heap.Ns b m → (hidT s₁.heap (H0of a u (cs.map (·.2)))).Ns b m := fun ⟨o, es, ep, e, d, r⟩ => ⟨o, es, ep, stay e (fun xs n z => by rw [d] at z; cases z) (fun z => by rw [d] at z; cases z), d, r⟩
  have kB : K.In (hidT s₁.heap (H0of a u (cs.map (·.2)))) := fun b o e => hidT_get (KX b o e) (by
    cases q : H0of a u (cs.map (·.2)) b with
    | none => rfl
    | some z =>
      rcases h0_cases q with ⟨rfl, e'⟩ | ⟨_, q2, _⟩
      · cases hu with
        | kept => cases e'
        | tracked n =>
          rw [n] at e
          cases e
      · obtain ⟨p, hp, rfl⟩ := List.mem_map.mp q2
        rw [nT p hp] at e
        cases e)
  have hM : L2.Mod K mg (hidT s₁.heap (H0of a u (cs.map (·.2)))) := ⟨kB, nsS hns, ⟨mb, nsS hb, hbb⟩, by
    obtain ⟨mc, h1, h2⟩ := hlim
    exact ⟨mc, nsS h1, h2⟩⟩
  have TB : ∀ p ∈ cs, TabB (hidT s₁.heap (H0of a u (cs.map (·.2)))) mg p.1 p.2 := fun p hp => by
    refine ⟨?_, ?_, fun z => ?_⟩
    · obtain ⟨o, us, file, tf, flags, tg, inF, text, tt, e1, r1, r2, r3, r4⟩ := C p hp
      exact ⟨o, us, file, tf, flags, tg, inF, text, tt, stay e1 (fun xs n z => by rw [r2] at z; cases z) (fun z => by rw [r2] at z; cases z; simp at r3), r1, r2, r3, r4⟩
    · obtain ⟨bm, ob, b1, b2, b3, b4, b5, b6⟩ := hbm
      have n1 : ∀ xs n, ob.data ≠ .seq xs n := fun xs n z => by rw [b6] at z; cases z
      have n2 : ob.data ≠ .fields #[] := fun z => by rw [b6] at z; cases z
      refine ⟨bm, ob, b1, b2, fun q => ?_, fun q => ?_, stay b3 n1 n2, b4, b5, b6⟩
      · obtain ⟨o, es, ep, e, d, _⟩ := hns
        rw [q, e] at b3
        cases b3
        rw [d] at b6
        cases b6
      · rw [q, hT p hp] at b3
        cases b3
        cases b6
    · obtain ⟨o, es, ep, e, d, _⟩ := hns
      rw [z, hT p hp] at e
      cases e
      cases d
  have e0 : Env0 P w K mg (hidT s₁.heap (H0of a u (cs.map (·.2)))) callerA [] s₁ (H0of a u (cs.map (·.2))) := ⟨rfl, hM, fun b o e => of_hidT e, Nat.le_of_eq (hidT_size _ _), trivial, fun b hb => absurd (show b ∈ ([] : List Addr) from hb) (by simp), hok, .of_eq hg⟩
  have run := (F _ kB (nsS hns) TB).run callerA [] s₁ _ ⟨[.ref a], []⟩ [.ref a] [.ref a] _ _ hr caller_guards e0 (hbind s₁ (.ref a)) (.cons rfl .nil) (hsp _ hHt hS)
  refine codeAny_mono run fun r s' h => ?_
  cases r with
  | error e => exact (hCX _ e s' h).elim
  | ok fl =>
    cases fl with
    | next => exact h.elim
    | brk => exact h.elim
    | cont => exact h.elim
    | ret v =>
      obtain ⟨y, H', os, bare, un, hok', ry, ey⟩ := h
      have ey : y = .bl true := ey
      subst ey
      obtain rfl : v = Value.bool true := ry
      have tabs : ∀ p ∈ cs, ∃ more : Array Value, s'.heap.get? p.2 = some { cls := .none, data := .fields more } := fun p hp => by
        obtain ⟨more, z⟩ := un.tbls p.2 #[] (hHt p hp)
        exact ⟨_, hok' p.2 _ z⟩
      have old : ∀ b o, b ∉ cs.map (·.2) → s₁.heap.get? b = some o → s'.heap.get? b = some o := fun b o nb e => by
        cases q : H0of a u (cs.map (·.2)) b with
        | none => exact un.keep b o e q (fun z => absurd (show b ∈ ([] : List Addr) from z) (by simp)) (by simp)
        | some z =>
          rcases h0_cases q with ⟨rfl, e'⟩ | ⟨_, q2, _⟩
          · cases hu with
            | kept => cases e'
            | tracked =>
              cases e'
              have f2 := un.frzs b _ _ q
              have g1 := (hok b _ q).1
              have g2 := (hok' b _ f2).1
              rw [e] at g1
              cases g1
              exact g2
          · exact absurd q2 nb
      refine ⟨rfl, ⟨fun b o e => ?_, fun b o e => ?_⟩, os, bare⟩
      · by_cases hb : b ∈ cs.map (·.2)
        · obtain ⟨p, hp, rfl⟩ := List.mem_map.mp hb
          obtain ⟨more, hm⟩ := tabs p hp
          rw [hT p hp] at e
          cases e
          exact .inr (.inl ⟨((C p hp).tab (hT p hp)).isCodeTable, rfl, #[], more, rfl, by rw [Array.empty_append]; exact hm⟩)
        · exact .inl (old b o hb e)
      · by_cases hb : b ∈ cs.map (·.2)
        · obtain ⟨p, hp, rfl⟩ := List.mem_map.mp hb
          obtain ⟨more, hm⟩ := tabs p hp
          exact ⟨_, hm⟩
        · exact ⟨o, old b o hb e⟩
end
/-- what the head's heap gives -/
def LawAtG (l : PySem.W.OpenLaw) (w : World) (K : PySem.W.Frag) (CX : CXT) (k n : Nat) (x : Str) (mg : Str → Option Value) (fa : Addr) (h : Heap) : Prop :=
  ∃ (fd : FuncData) (cs : List (Addr × Addr)) (sp : Sp), (∀ p ∈ cs, h.get? p.2 = some noTb) ∧ (∀ p ∈ cs, K.lookup p.2 = none) ∧ (∀ p ∈ cs, PySem.W.CodeHd h p.1 p.2) ∧ (∀ (s : Shared) (u : Value), BindsTo s fd ⟨[u], []⟩ [(x, u)]) ∧
    (∀ (H : Hp) (a : Addr) (ns : List Int), ns.length ≤ n → (∀ p ∈ cs, H p.2 = some (.tbl #[])) → SqL K H a (ns.map V.int) → sp [.ref a] H (fun v _ => v = .bl true) fun _ _ _ => False) ∧
    ∀ base : Heap, K.In base → base.Ns mainGlobals mg → (∀ p ∈ cs, TabB base mg p.1 p.2) → FnG l.prog w K mg base CX k fa fd [x] sp
theorem walk_ofG {l : PySem.W.OpenLaw} {n k : Nat} {q : Program} {loose : List Str} {XP : (Str → Option Value) → Heap → Prop} {YP : World → Heap → Prop} {d : DefRec} {CX : World → CXT} {x : Str}
    (hn : l.most = some n) (hn2 : n ≤ sizeLine) (hdf : d.params.defaults = []) (hr : Room k callerA)
    (F : ∀ (w : World) (mg : Str → Option Value) (fa : Addr) (h : Heap), YP w h → h.Ns mainGlobals mg → mg d.name = some (.ref fa) → ∃ K : PySem.W.Frag, K.In h ∧ LawAtG l w K (CX w) k n x mg fa h)
    (hCX : ∀ (w : World) (H : Hp) (s : Shared) (e : Value) (s' : Shared), CX w [] H s (fun _ _ _ => False) e s' → False) :
    PySem.W.WalkO q loose XP YP l.row.toRowW d [] (fun f vs => PySem.call f vs) := by
  refine Att.attach_callB hn hdf fun w s₀ s₁ mg mb fa o pm cd doc a vs ns G Y ho hd hcd hmg hobj hints hlen hbits hg => ?_
  obtain ⟨K, KX, fd, cs, sp, hT, nT, C, hb, hsp, hF⟩ := F w mg fa _ Y G.T.g hmg
  exact law_callG KX G.T.g G.T.b G.T.builtins G.T.nolimit hg hT nT C G.T.bmain hobj hints (Nat.le_trans hlen hn2) hr hF hb (fun H hH hS => hsp H a ns hlen hH hS) fun H e s' => hCX w H s₁ e s'
end RWk
end
section
/-! M34: functions read out of the frozen heap. -/
namespace RWk
open PySem PySem.Spec PyProof.Rows L2 LamX He
/-- a function as it stands -/
structure FnR where
  f : Addr
  oc : Value
  od : Option Addr
  osl : Array (Option Value)
  nm : Str
  q : Str
  params : Arguments
  body : List Stmt
  scope : Scope
  dV : Value
  kV : Value
  doc : Value
  pm : Value
  an : Option Addr
  cdv : Value
  ct : Value
def FnR.fd (r : FnR) : FuncData := PySem.W.fnOf r.nm r.q r.params r.body r.scope r.dV r.kV r.doc r.pm r.an r.cdv r.ct
def fnRd (K : PySem.W.Frag) (x : Str) : Option FnR := match PySem.W.nsIn K mainGlobals x with
  | some (some (.ref f)) => (match K.lookup f with
    | some ⟨oc, od, .func ⟨n1, n2, n3, .stmts b, n5, n6, [], n8, n9, n10, n11, n12, n13, n14, n15⟩, osl⟩ => if (n6 == mainGlobals && n15 == builtinsNs) && (PySem.W.codeIn K n13 n2 && PySem.W.keepIn K (.ref f)) then some ⟨f, oc, od, osl, n1, n2, n3, b, n5, n8, n9, n10, n11, n12, n13, n14⟩ else none
    | _ => none)
  | _ => none
structure FnAt (K : PySem.W.Frag) (x : Str) (r : FnR) : Prop where
  glo : PySem.W.nsIn K mainGlobals x = some (some (.ref r.f))
  lk : K.lookup r.f = some ⟨r.oc, r.od, .func r.fd, r.osl⟩
  cd : PySem.W.codeIn K r.cdv r.q = true
  kp : PySem.W.keepIn K (.ref r.f) = true
theorem fnRd_ok {K : PySem.W.Frag} {x : Str} {r : FnR} (h : fnRd K x = some r) : FnAt K x r := by
  unfold fnRd at h
  split at h
  · rename_i f e1
    split at h
    · rename_i e2
      split at h
      · rename_i c
        cases h
        obtain ⟨c1, c2⟩ := Bool.and_eq_true_iff.mp c
        obtain ⟨c3, c4⟩ := Bool.and_eq_true_iff.mp c1
        obtain ⟨c5, c6⟩ := Bool.and_eq_true_iff.mp c2
        have g1 := eq_of_beq c3
        have g2 := eq_of_beq c4
        subst g1 g2
        exact ⟨e1, e2, c5, c6⟩
      · cases h
    · cases h
  · cases h
/-- plain parameters qs -/
def pbB (r : FnR) (qs : List Str) : Bool := r.params.posonlyargs.isEmpty && (decide (r.params.args.map (·.arg) = qs) && (r.params.vararg.isNone && (r.params.kwonlyargs.isEmpty && (r.params.kwarg.isNone && ((match r.dV with
  | .none => true
  | _ => false) && decide qs.Nodup)))))
theorem pbB_ok {r : FnR} {qs : List Str} (h : pbB r qs = true) : PB r.fd qs := by
  unfold pbB at h
  simp only [Bool.and_eq_true, List.isEmpty_iff, Option.isNone_iff_eq_none, decide_eq_true_eq] at h
  obtain ⟨h1, h2, h3, h4, h5, h6, h7⟩ := h
  refine ⟨h1, h2, h3, h4, h5, ?_, h7⟩
  show r.dV = .none
  split at h6
  · assumption
  · cases h6
section
variable {K : PySem.W.Frag} {h : Heap} {mg : Str → Option Value}
theorem FnAt.at_ {x : Str} {r : FnR} (A : FnAt K x r) (X : K.In h) (G : h.Ns mainGlobals mg) : mg x = some (.ref r.f) := PySem.W.mg_of X G A.glo
end
end RWk
end
section
/-! M35: the chain of the defs that refuse. -/
namespace RWk
open PySem PySem.Spec PyProof.Rows L2 LamX He
abbrev NT : Type := List (Str × List Str)
def lvB (K : PySem.W.Frag) (G : Str → Bool) (T0 L : NT) : Bool := L.all fun p => match fnRd K p.1 with
  | some r => pbB r p.2 && (scB (ldN p.2 r.body) p.2 r.scope && ldB (ld p.2 r.scope (fun y => T0.lookup y) G 8) r.scope p.2 r.body)
  | none => false
/-- the names that can be read -/
def rdB (K : PySem.W.Frag) (gb gu : List Str) : Bool := (gb.all fun y => eqO (PySem.W.nsIn K mainGlobals y) (some none) && ((bootBuiltins y).isSome && !(y == ("__name__" : Str)))) && gu.all fun y => match PySem.W.nsIn K mainGlobals y with
  | some (some _) => true
  | _ => false
def gOf (gb gu : List Str) (y : Str) : Bool := gb.contains y || gu.contains y
section
variable {P : Program} {w : World} {K : PySem.W.Frag} {mg : Str → Option Value} {base h : Heap} {CP CB : Addr} {k : Nat}
theorem rdB_ok {gb gu : List Str} (X : K.In h) (N : h.Ns mainGlobals mg) (c : rdB K gb gu = true) : ∀ y, gOf gb gu y = true → ∃ u, mg y = some u ∨ (mg y = none ∧ bootBuiltins y = some u ∧ y ≠ "__name__") := fun y hy => by
  obtain ⟨c1, c2⟩ := Bool.and_eq_true_iff.mp c
  rcases Bool.or_eq_true_iff.mp (show (gb.contains y || gu.contains y) = true from hy) with z | z
  · have q := List.all_eq_true.mp c1 y (by simpa using z)
    obtain ⟨q1, q2⟩ := Bool.and_eq_true_iff.mp q
    obtain ⟨q3, q4⟩ := Bool.and_eq_true_iff.mp q2
    obtain ⟨u, hu⟩ := Option.isSome_iff_exists.mp q3
    exact ⟨u, .inr ⟨PySem.W.mg_none_of X N (eqO_ok q1), hu, by simpa using q4⟩⟩
  · have q := List.all_eq_true.mp c2 y (by simpa using z)
    split at q
    · rename_i v e
      exact ⟨v, .inl (PySem.W.mg_of X N e)⟩
    · cases q
theorem lk_mem {α β : Type} [BEq α] [LawfulBEq α] {a : α} {o : β} : ∀ {l : List (α × β)}, l.lookup a = some o → (a, o) ∈ l
  | [], h => by cases h
  | (b, u) :: r, h => by
    rw [List.lookup_cons] at h
    split at h
    · rename_i q
      cases h
      rw [eq_of_beq q]
      exact List.mem_cons_self
    · exact List.mem_cons_of_mem _ (lk_mem h)
theorem GQ.mono {x : Str} {qs : List Str} {j : Nat} (g : GQ P w K mg base CP CB k x qs) (h : k ≤ j) : GQ P w K mg base CP CB j x qs := by
  obtain ⟨f, fd, e1, e2, e3, e4⟩ := g
  exact ⟨f, fd, e1, e2, e3.mono h, e4⟩
theorem lvB_ok {G : Str → Bool} {T0 L : NT} (X : K.In h) (N : h.Ns mainGlobals mg) (c : lvB K G T0 L = true) (hT : ∀ y qs, T0.lookup y = some qs → GQ P w K mg base CP CB k y qs)
    (hG : ∀ y, G y = true → ∃ u, mg y = some u ∨ (mg y = none ∧ bootBuiltins y = some u ∧ y ≠ "__name__")) : ∀ y qs, (T0 ++ L).lookup y = some qs → GQ P w K mg base CP CB (k + 1) y qs := fun y qs hy => by
  rw [List.lookup_append] at hy
  cases e : T0.lookup y with
  | some qs' =>
    rw [e] at hy
    have e' : qs' = qs := by simpa using hy
    subst e'
    exact (hT y _ e).mono (Nat.le_succ k)
  | none =>
    rw [e] at hy
    have e2 : L.lookup y = some qs := by simpa using hy
    have q := List.all_eq_true.mp c (y, qs) (lk_mem e2)
    cases e3 : fnRd K y with
    | none =>
      rw [e3] at q
      cases q
    | some r =>
      rw [e3] at q
      obtain ⟨q1, q2⟩ := Bool.and_eq_true_iff.mp (show (pbB r qs && (scB (ldN qs r.body) qs r.scope && ldB (ld qs r.scope (fun y => T0.lookup y) G 8) r.scope qs r.body)) = true from q)
      obtain ⟨q3, q4⟩ := Bool.and_eq_true_iff.mp q2
      have A := fnRd_ok e3
      exact ⟨r.f, r.fd, A.at_ X N, A.kp, fnB A.lk A.cd q3 q4 hT hG, pbB_ok q1⟩
/-- check_path -/
def ckB (K : PySem.W.Frag) (CP CB : Addr) : Bool := match fnRd K "check_path" with
  | some r => pbB r ["thing"] && (scB ["thing"] ["thing"] r.scope && ((match chk r.body with
    | some (t, c, b) => t == ("thing" : Str) && (c == ("Path" : Str) && b == ("BadPath" : Str))
    | none => false) && (glB r.scope "isinstance" && (glB r.scope "Path" && glB r.scope "BadPath"))))
  | none => false
theorem ckB_ok {fI : Addr} (X : K.In h) (N : h.Ns mainGlobals mg) (c : ckB K CP CB = true) (mi : mg "isinstance" = none) (mc : mg "Path" = some (.ref CP)) (mb : mg "BadPath" = some (.ref CB)) (sup : mg "super" = none) (top : (P.main.scope.names.lookup ("super" : Str)).isSome = false) (T : ErrC P.main.file K CB fI ["thing"])
    (rs : PySem.W.subIn K (.ref CB) (.type "BaseException") = some true ∧ PySem.W.typeIn K (.ref CB) = some (.type "type")) : GQ P w K mg base CP CB 2 "check_path" ["thing"] := by
  unfold ckB at c
  cases e3 : fnRd K "check_path" with
  | none =>
    rw [e3] at c
    cases c
  | some r =>
    rw [e3] at c
    simp only [Bool.and_eq_true] at c
    obtain ⟨c1, c2, c3, c4, c5, c6⟩ := c
    have A := fnRd_ok e3
    cases e4 : chk r.body with
    | none =>
      rw [e4] at c3
      cases c3
    | some tcb =>
      obtain ⟨t, cc, b⟩ := tcb
      rw [e4] at c3
      simp only [Bool.and_eq_true, beq_iff_eq] at c3
      obtain ⟨rfl, rfl, rfl⟩ := c3
      exact ⟨r.f, r.fd, A.at_ X N, A.kp, fnChk (k := 0) A.lk A.cd c2 e4 (by decide +kernel) (fun y hy => by simp at hy; rcases hy with rfl | rfl | rfl <;> assumption) mi mc mb sup top T rs, pbB_ok c1⟩
end
end RWk
end
section
/-! M36: the classes read out of the frozen heap. -/
namespace RWk
open PySem PySem.Spec PyProof.Rows L2 LamX He
/-- the order of an error class -/
def mroB (C W : Addr) : List Value → Bool
  | [.ref c1, .ref c2, .type a, .type b, .type c, .type d] => (c1 == C && c2 == W) && (decide (a = "ValueError") && (decide (b = "Exception") && (decide (c = "BaseException") && decide (d = "object"))))
  | _ => false
def mroL (C W : Addr) : List Value := [.ref C, .ref W, .type "ValueError", .type "Exception", .type "BaseException", .type "object"]
theorem mroB_ok {C W : Addr} {l : List Value} (h : mroB C W l = true) : l = mroL C W := by
  unfold mroB at h
  split at h
  · simp only [Bool.and_eq_true, beq_iff_eq, decide_eq_true_eq] at h
    obtain ⟨⟨rfl, rfl⟩, rfl, rfl, rfl, rfl⟩ := h
    rfl
  · cases h
/-- the class object -/
def objB (C W : Addr) : Option Obj → Bool
  | some ⟨.type t, _, .cls ⟨_, _, m, _, _, true, _, _, _, _, false⟩, ⟨[_, _, _, _, some (.builtin n), _]⟩⟩ => decide (t = "type") && (mroB C W m && decide (n = "ValueError.__new__"))
  | _ => false
theorem objB_ok {C W : Addr} {o : Option Obj} (h : objB C W o = true) : ∃ nm q N bs sn sub ab col dd k0 k1 k2 k3 k5, o = some (excClassObj nm q C N bs [.ref W, .type "ValueError", .type "Exception", .type "BaseException", .type "object"] true sn sub ab col dd k0 k1 k2 k3 k5 "ValueError.__new__") := by
  unfold objB at h
  split at h
  · simp only [Bool.and_eq_true, decide_eq_true_eq] at h
    obtain ⟨rfl, h2, rfl⟩ := h
    have e := mroB_ok h2
    subst e
    exact ⟨_, _, _, _, _, _, _, _, _, _, _, _, _, _, rfl⟩
  · cases h
def strAt (main : Str) : Option Value → Bool
  | some (.str m _) => m == main
  | _ => false
theorem strAt_ok {main : Str} {v : Option Value} (h : strAt main v = true) : ∃ t, v = some (.str main t) := by
  unfold strAt at h
  split at h
  · have e := eq_of_beq h
    subst e
    exact ⟨_, rfl⟩
  · cases h
def fileAt (main : Str) : Option Obj → Bool
  | some ⟨_, _, .fields vs, _⟩ => strAt main (vs[2]?)
  | _ => false
theorem fileAt_ok {main : Str} {o : Option Obj} (h : fileAt main o = true) : ∃ ccl cdd vs ccs tf, o = some ⟨ccl, cdd, .fields vs, ccs⟩ ∧ vs[2]? = some (.str main tf) := by
  unfold fileAt at h
  split at h
  · obtain ⟨t, e⟩ := strAt_ok h
    exact ⟨_, _, _, _, t, rfl, e⟩
  · cases h
def cellAt (C : Addr) : Option Obj → Bool
  | some ⟨_, _, .cell (some (.ref C')), _⟩ => C' == C
  | _ => false
theorem cellAt_ok {C : Addr} {o : Option Obj} (h : cellAt C o = true) : ∃ cl cld csl, o = some ⟨cl, cld, .cell (some (.ref C)), csl⟩ := by
  unfold cellAt at h
  split at h
  · have e := eq_of_beq h
    subst e
    exact ⟨_, _, _, rfl⟩
  · cases h
/-- the initialiser -/
def iniF (main : Str) (K : PySem.W.Frag) (C : Addr) (fs : List Str) (nm q : Str) (ps : Arguments) (b : List Stmt) (sc : Scope) (g : Addr) (cn : Str) (cc cda bl : Addr) : Bool :=
  (nm == ("__init__" : Str) && (cn == ("__class__" : Str) && (g == mainGlobals && bl == builtinsNs))) && (PySem.W.codeIn K (.ref cda) q && (iniBodyB fs b && (iniScopeB fs sc && (ps.posonlyargs.isEmpty && (decide (ps.args.map (·.arg) = ("self" : Str) :: fs) &&
    (ps.vararg.isNone && (ps.kwonlyargs.isEmpty && (ps.kwarg.isNone && (fileAt main (K.lookup cda) && cellAt C (K.lookup cc))))))))))
def iniO (main : Str) (K : PySem.W.Frag) (C : Addr) (fs : List Str) : Option Obj → Bool
  | some ⟨_, _, .func ⟨nm, q, ps, .stmts b, sc, g, [(cn, cc)], .none, _, _, _, _, .ref cda, _, bl⟩, _⟩ => iniF main K C fs nm q ps b sc g cn cc cda bl
  | _ => false
def iniB (main : Str) (K : PySem.W.Frag) (C fI : Addr) (fs : List Str) : Bool := iniO main K C fs (K.lookup fI)
def clAt (main : Str) (K : PySem.W.Frag) (W C fI : Addr) (fs : List Str) : Bool :=
  (decide (fs.length ≤ 2) && decide (("self" : Str) :: fs).Nodup) && (objB C W (K.lookup C) && (eqO (PySem.W.findIn K (.ref C) "__init__") (some (some (.ref fI))) && (decide (PySem.W.typeIn K (.ref fI) = some (.type "function")) && (PySem.W.keepIn K (.ref C) &&
    (eqO (PySem.W.findIn K (.ref C) "__setattr__") (some (some (.builtin "object.__setattr__"))) && (eqO (PySem.W.ks_superIn K C C "__init__") (some (some (.builtin "ValueError.__init__"))) && (eqO (PySem.W.nsIn K cStatics "thirdparty.any") (some none) && (fs.all (fun f => eqO (PySem.W.findIn K (.ref C) f) (some none)) &&
    (iniB main K C fI fs && (eqO (PySem.W.findIn K (.ref C) "__getattribute__") (some (some (.builtin "BaseException.__getattribute__"))) && (eqO (PySem.W.findIn K (.ref C) "__getattr__") (some none) && (eqO (PySem.W.findIn K (.ref C) "__class__") (some (some (.builtin "object.__class__")))))))))))))))
/-- the same for all classes -/
def cl0 (K : PySem.W.Frag) (W : Addr) : Bool := eqO (PySem.W.specialIn K (.builtin "object.__class__") "__get__") (some (some (.builtin "getset_descriptor.__get__"))) && (decide (PySem.W.takesIn K (.builtin "object.__class__") = some true) && ((PySem.W.clsIn K W).isSome && decide (PySem.W.typeIn K (.ref W) = some (.type "type"))))
structure ClsR (main : Str) (K : PySem.W.Frag) (W C fI : Addr) (fs : List Str) : Prop where
  err : ErrC main K C fI fs
  fld : FldF K C fs
  exc : ExcC K C
  mro : ∀ b, PySem.W.subIn K (.ref C) b = some ((mroL C W).contains b)
  cls : (PySem.W.clsIn K C).isSome = true
  typ : PySem.W.typeIn K (.ref C) = some (.type "type")
theorem clAt_ok {main : Str} {K : PySem.W.Frag} {W C fI : Addr} {fs : List Str} (c0 : cl0 K W = true) (h : clAt main K W C fI fs = true) : ClsR main K W C fI fs := by
  unfold clAt at h
  unfold cl0 at c0
  simp only [Bool.and_eq_true, decide_eq_true_eq] at h c0
  obtain ⟨z1, z2, z3, z4⟩ := c0
  obtain ⟨⟨a1, a2⟩, a3, a4, a5, a6, a7, a8, a9, a10, a11, a12, a13, a14⟩ := h
  obtain ⟨nm, q, N, bs, sn, sub, ab, col, dd, k0, k1, k2, k3, k5, e⟩ := objB_ok a3
  have hc : PySem.W.clsIn K C = some { name := nm, bases := bs, mro := mroL C W, ns := N, qualname := q, hasDict := true, slotNames := sn, subclasses := sub, abstract := ab, collection := col, hasDel := false } := by
    unfold PySem.W.clsIn
    rw [e]
    rfl
  have hm : ∀ b, PySem.W.subIn K (.ref C) b = some ((mroL C W).contains b) := fun b => by
    show PySem.W.mroIn K C b = _
    unfold PySem.W.mroIn
    rw [hc]
    rfl
  have ht : PySem.W.typeIn K (.ref C) = some (.type "type") := by
    show (K.lookup C).map _ = _
    rw [e]
    rfl
  have hd : PySem.W.hasDictIn K C = true := by
    unfold PySem.W.hasDictIn
    rw [hc]
    rfl
  have self : PySem.W.mroIn K C (.ref C) = some true := by
    rw [show PySem.W.mroIn K C (.ref C) = _ from hm _]
    simp [mroL]
  have isV : PySem.W.subIn K (.ref C) (.type "ValueError") = some true := by
    rw [hm]
    simp [mroL]
  have isB : PySem.W.subIn K (.ref C) (.type "BaseException") = some true := by
    rw [hm]
    simp [mroL]
  have isO : PySem.W.mroIn K C (.type "object") = some true := by
    rw [show PySem.W.mroIn K C (.type "object") = _ from hm _]
    simp [mroL]
  have fl : ∀ f ∈ fs, PySem.W.findIn K (.ref C) f = some none := fun f hf => eqO_ok (List.all_eq_true.mp a10 f hf)
  refine ⟨⟨a1, a2, ⟨nm, q, N, bs, _, sn, sub, ab, col, dd, k0, k1, k2, k3, k5, e, by rfl⟩, eqO_ok a4, a5, a6, eqO_ok a7, eqO_ok a8, eqO_ok a9, self, isV, fl, ?_⟩, ⟨⟨eqO_ok a12, eqO_ok a13, isB, hd⟩, fl⟩, ⟨eqO_ok a12, eqO_ok a13, isB, hd, eqO_ok a14, eqO_ok z1, z2, isO⟩, hm, by rw [hc]; rfl, ht⟩
  have a11' : iniO main K C fs (K.lookup fI) = true := a11
  generalize hO : K.lookup fI = o at a11'
  unfold iniO at a11'
  split at a11'
  · unfold iniF at a11'
    simp only [Bool.and_eq_true, beq_iff_eq, decide_eq_true_eq, List.isEmpty_iff, Option.isNone_iff_eq_none] at a11'
    obtain ⟨⟨rfl, rfl, rfl, rfl⟩, b2, b3, b4, b5, b6, b7, b8, b9, b10, b11⟩ := a11'
    exact ⟨_, _, _, _, _, _, _, _, _, _, _, _, _, _, rfl, b2, b3, b4, b5, b6, b7, b8, b9, fileAt_ok b10, cellAt_ok b11⟩
  · cases a11'
end RWk
end
section
/-! M37: the law's own defs read out of the frozen heap, 1: the tables, the makers, the askers. -/
namespace RWk
open PySem PySem.Spec PyProof.Rows L2 LamX He
def tabOfK (K : PySem.W.Frag) (c : Addr) : Addr := match K.lookup c with
  | some ⟨_, _, .fields vs, _⟩ => (match vs.getD 11 .none with
    | .ref P => P
    | _ => 0)
  | _ => 0
/-- a def's code object, its table -/
def cdAt (K : PySem.W.Frag) (x : Str) : Addr × Addr := match fnRd K x with
  | some r => (match r.cdv with
    | .ref c => (c, tabOfK K c)
    | _ => (0, 0))
  | none => (0, 0)
def lamQ (x : Str) : Str := x ++ ".<locals>." ++ "<lambda>"
def tbsOf (K : PySem.W.Frag) (ns : List Str) : List (Addr × Str) := ns.map fun x => ((cdAt K x).2, lamQ x)
/-- the tables apart -/
theorem tbs_one {K : PySem.W.Frag} {ns : List Str} (nd : (ns.map fun x => (cdAt K x).2).Nodup) {x : Str} (hx : x ∈ ns) : ((cdAt K x).2, lamQ x) ∈ tbsOf K ns ∧ ∀ p ∈ tbsOf K ns, p.1 = (cdAt K x).2 → p.2 = lamQ x := by
  refine ⟨List.mem_map.mpr ⟨x, hx, rfl⟩, fun p hp e => ?_⟩
  obtain ⟨y, hy, rfl⟩ := List.mem_map.mp hp
  have : y = x := by
    have e' : (cdAt K y).2 = (cdAt K x).2 := e
    obtain ⟨i, hi, rfl⟩ := List.mem_iff_getElem.mp hy
    obtain ⟨j, hj, rfl⟩ := List.mem_iff_getElem.mp hx
    have q := (List.getElem_inj (i := i) (j := j) (h₀ := by simpa using hi) (h₁ := by simpa using hj) nd).mp (by simpa using e')
    subst q
    rfl
  rw [this]
/-- a def of the law: it stands under its own name, with its code object -/
structure LawFn (K : PySem.W.Frag) (x : Str) (r : FnR) : Prop where
  at_ : FnAt K x r
  nm : r.nm = x
  q : r.q = x
def lfB (K : PySem.W.Frag) (x : Str) (f : FnR → Bool) : Bool := match fnRd K x with
  | some r => (r.nm == x && r.q == x) && f r
  | none => false
theorem lfB_ok {K : PySem.W.Frag} {x : Str} {f : FnR → Bool} (h : lfB K x f = true) : ∃ r, fnRd K x = some r ∧ LawFn K x r ∧ f r = true := by
  unfold lfB at h
  cases e : fnRd K x with
  | none =>
    rw [e] at h
    cases h
  | some r =>
    rw [e] at h
    simp only [Bool.and_eq_true, beq_iff_eq] at h
    exact ⟨r, rfl, ⟨fnRd_ok e, h.1.1, h.1.2⟩, h.2⟩
theorem LawFn.lk {K : PySem.W.Frag} {x : Str} {r : FnR} (L : LawFn K x r) : K.lookup r.f = some ⟨r.oc, r.od, .func (PySem.W.fnOf x x r.params r.body r.scope r.dV r.kV r.doc r.pm r.an r.cdv r.ct), r.osl⟩ := by
  have h := L.at_.lk
  unfold FnR.fd at h
  rw [L.nm, L.q] at h
  exact h
theorem LawFn.cd {K : PySem.W.Frag} {x : Str} {r : FnR} (L : LawFn K x r) : PySem.W.codeIn K r.cdv x = true := by
  have h := L.at_.cd
  rw [L.q] at h
  exact h
theorem LawFn.fd {K : PySem.W.Frag} {x : Str} {r : FnR} (L : LawFn K x r) : r.fd = PySem.W.fnOf x x r.params r.body r.scope r.dV r.kV r.doc r.pm r.an r.cdv r.ct := by
  unfold FnR.fd
  rw [L.nm, L.q]
theorem codeRef {K : PySem.W.Frag} {cd : Value} {q : Str} (h : PySem.W.codeIn K cd q = true) : ∃ c, cd = .ref c := by
  cases cd with
  | ref c => exact ⟨c, rfl⟩
  | _ => cases h
theorem cdAt_eq {K : PySem.W.Frag} {x : Str} {r : FnR} {c : Addr} (e : fnRd K x = some r) (h : r.cdv = .ref c) : (cdAt K x).1 = c := by
  unfold cdAt
  rw [e]
  show (match r.cdv with
    | .ref c => (c, tabOfK K c)
    | _ => (0, 0)).1 = c
  rw [h]
section
variable {P : Program} {w : World} {K : PySem.W.Frag} {mg : Str → Option Value} {base h : Heap} {CP CB : Addr} {k : Nat} {ns : List Str}
/-- a maker -/
def mdF (sp : List Spc) (r : FnR) : Bool := (match r.body with
  | st0 :: b => nilS st0 && itemsMB sp b
  | [] => false) && (scB ["_law_x", "_law_found"] ["_law_x"] r.scope && (decide (sp.length ≤ 900) && (decide (r.scope.names.lookup ("_law_found" : Str) = some .local) && (sp.all (fun p => glB r.scope p.1) && pbB r ["_law_x"]))))
theorem made_ok {x : Str} {sp : List Spc} {Cs : List Addr} (X : K.In h) (N : h.Ns mainGlobals mg) (c : lfB K x (mdF sp) = true) (nd : (ns.map fun x => (cdAt K x).2).Nodup) (hx : x ∈ ns) (TB : ∀ y ∈ ns, TabB base mg (cdAt K y).1 (cdAt K y).2) (hC : Paired (SpcF P.main.file K mg) sp Cs)
    (sup : mg "super" = none) (top : (P.main.scope.names.lookup ("super" : Str)).isSome = false) : MadeF P w K mg base (tbsOf K ns) (k + 2) x sp Cs := by
  obtain ⟨r, e, L, q⟩ := lfB_ok c
  unfold mdF at q
  simp only [Bool.and_eq_true, decide_eq_true_eq] at q
  obtain ⟨q1, q2, q3, q4, q5, q6⟩ := q
  obtain ⟨cd, hcd⟩ := codeRef L.cd
  have TBx := TB x hx
  rw [cdAt_eq e hcd] at TBx
  have B := pbB_ok q6
  obtain ⟨t1, t2⟩ := tbs_one nd hx
  refine ⟨⟨r.f, r.fd, L.at_.at_ X N, L.at_.kp, ?_, B⟩, (Paired.length hC).symm⟩
  rw [L.fd]
  have lk := L.lk
  have cdx := L.cd
  rw [hcd] at lk cdx ⊢
  generalize r.body = b at q1 lk
  cases b with
  | nil => cases q1
  | cons st0 b =>
    obtain ⟨q7, q8⟩ := Bool.and_eq_true_iff.mp (show (nilS st0 && itemsMB sp b) = true from q1)
    exact fnMade lk cdx q2 q7 q8 q3 q4 (fun p hp => List.all_eq_true.mp q5 p hp) hC sup top TBx t1 t2
/-- an asker -/
def akF (T : NT) (m : Nat) (r : FnR) : Bool := (match r.body with
  | st0 :: b => nilS st0 && (itemsB (askI r.scope fun y => T.lookup y) b && decide (b.length = m + 1))
  | [] => false) && (scB ["_law_odd", "_law_found"] ["_law_odd"] r.scope && (decide (r.scope.names.lookup ("_law_found" : Str) = some .local) && (decide (r.scope.names.lookup ("_law_path_met" : Str) = some .globalImplicit) && pbB r ["_law_odd"])))
theorem ask_ok {x : Str} {T : NT} {m : Nat} (X : K.In h) (N : h.Ns mainGlobals mg) (c : lfB K x (akF T m) = true) (few : m + 1 ≤ 900) (nd : (ns.map fun x => (cdAt K x).2).Nodup) (hx : x ∈ ns) (TB : ∀ y ∈ ns, TabB base mg (cdAt K y).1 (cdAt K y).2)
    (M : MetF K mg) (C : CatF K mg CB) (hT : ∀ y qs, T.lookup y = some qs → GQ P w K mg base CP CB k y qs) : AskF P w K mg base CP (tbsOf K ns) (k + 3) x m := by
  obtain ⟨r, e, L, q⟩ := lfB_ok c
  unfold akF at q
  simp only [Bool.and_eq_true, decide_eq_true_eq] at q
  obtain ⟨q1, q2, q3, q4, q6⟩ := q
  obtain ⟨cd, hcd⟩ := codeRef L.cd
  have TBx := TB x hx
  rw [cdAt_eq e hcd] at TBx
  have B := pbB_ok q6
  obtain ⟨t1, t2⟩ := tbs_one nd hx
  refine ⟨⟨r.f, r.fd, L.at_.at_ X N, L.at_.kp, ?_, B⟩⟩
  rw [L.fd]
  have lk := L.lk
  have cdx := L.cd
  rw [hcd] at lk cdx ⊢
  generalize r.body = b at q1 lk
  cases b with
  | nil => cases q1
  | cons st0 b =>
    obtain ⟨q7, q8⟩ := Bool.and_eq_true_iff.mp (show (nilS st0 && (itemsB (askI r.scope fun y => T.lookup y) b && decide (b.length = m + 1))) = true from q1)
    obtain ⟨q8, q9⟩ := Bool.and_eq_true_iff.mp q8
    have q9 := of_decide_eq_true q9
    have z := fnAsk (CX := C8.CX0) lk cdx q2 q7 q8 (by omega) q3 q4 M C hT TBx t1 t2
    have em : b.length - 1 = m := by omega
    rw [em] at z
    exact z
end
end RWk
end
section
/-! M38: the law's own defs read out of the frozen heap, 2. -/
namespace RWk
open PySem PySem.Spec PyProof.Rows L2 LamX He
def knF (cs : List Str) (r : FnR) : Bool := (match r.body with
  | st0 :: b => nilS st0 && decide (kndsB b = some cs)
  | [] => false) && (scB ["_law_e", "_law_found"] ["_law_e"] r.scope && (decide (r.scope.names.lookup ("_law_found" : Str) = some .local) && ((("isinstance" : Str) :: cs).all (fun c => glB r.scope c) && pbB r ["_law_e"])))
def smF (r : FnR) : Bool := scB ["_law_found", "_law_due"] ["_law_found", "_law_due"] r.scope && (sameB r.body && (decide (r.scope.names.lookup ("repr" : Str) = some .globalImplicit) && pbB r ["_law_found", "_law_due"]))
def stF (r : FnR) : Bool := scB ["_law_script"] ["_law_script"] r.scope && (streamB r.body && (glB r.scope "list" && pbB r ["_law_script"]))
def pkF (r : FnR) : Bool := scB ["_law_stream_here", "_law_things"] ["_law_stream_here", "_law_things"] r.scope && (pickB r.body && (([("len" : Str), "_law_draw"].all fun c => glB r.scope c) && pbB r ["_law_stream_here", "_law_things"]))
def drcB (D : DrP) : Bool := celI 2 E1 D.a1 && (ieI (.cel 1) D.c1 && (ieI (.lit 0) D.c2 && (s0E D.c3 && (cutI D.a2 && (celI 3 E2 D.a3 && (bigI D.a4 && (ieI (.cel 1) D.d1 && (ieI (.lit 0) D.d2 && (nmI "_law_digit" E4 D.a5 && (celI 1 E5 D.a6 && (ieI (.var 3) D.r1 && (nmI "_law_mixed" E6 D.a7 && ieI E7 D.r2))))))))))))
theorem drcB_ok {D : DrP} (h : drcB D = true) : DrC D := by
  unfold drcB at h
  simp only [Bool.and_eq_true] at h
  obtain ⟨h1, h2, h3, h4, h5, h6, h7, h8, h9, h10, h11, h12, h13, h14⟩ := h
  exact ⟨h1, h2, h3, h4, h5, h6, h7, h8, h9, h10, h11, h12, h13, h14⟩
def dwF (r : FnR) : Bool := scB NN ["_law_stream_here", "_law_many"] r.scope && ((match drawP r.body with
  | some D => drcB D
  | none => false) && ((["_law_cell", "_law_digit", "_law_mixed"] : List Str).all (fun y => decide (r.scope.names.lookup y = some .local)) && (([("int" : Str), "abs"].all fun c => glB r.scope c) && pbB r ["_law_stream_here", "_law_many"])))
section
variable {P : Program} {w : World} {K : PySem.W.Frag} {mg : Str → Option Value} {base h : Heap} {k : Nat}
theorem same_ok (X : K.In h) (N : h.Ns mainGlobals mg) (c : lfB K "_law_same" smF = true) (hm : mg "repr" = none) (hK : (K.lookup sysModules).isSome = true) : ∃ f fd, mg "_law_same" = some (.ref f) ∧ PySem.W.keepIn K (.ref f) = true ∧ FnG P w K mg base C8.CX0 (k + 1) f fd ["_law_found", "_law_due"] (spSame K) ∧ PB fd ["_law_found", "_law_due"] := by
  obtain ⟨r, e, L, q⟩ := lfB_ok c
  unfold smF at q
  simp only [Bool.and_eq_true, decide_eq_true_eq] at q
  obtain ⟨q1, q2, q3, q4⟩ := q
  refine ⟨r.f, r.fd, L.at_.at_ X N, L.at_.kp, ?_, pbB_ok q4⟩
  rw [L.fd]
  exact fnSame L.lk L.cd q1 q2 q3 hm hK
theorem stream_ok (X : K.In h) (N : h.Ns mainGlobals mg) (c : lfB K "_law_stream" stF = true) (hm : mg "list" = none) : ∃ f fd, mg "_law_stream" = some (.ref f) ∧ PySem.W.keepIn K (.ref f) = true ∧ FnOk P w K mg base C8.CX0 (k + 1) f fd ["_law_script"] (spStream K) ∧ PB fd ["_law_script"] := by
  obtain ⟨r, e, L, q⟩ := lfB_ok c
  unfold stF at q
  simp only [Bool.and_eq_true, decide_eq_true_eq] at q
  obtain ⟨q1, q2, q3, q4⟩ := q
  refine ⟨r.f, r.fd, L.at_.at_ X N, L.at_.kp, ?_, pbB_ok q4⟩
  rw [L.fd]
  exact fnStream L.lk L.cd q1 q2 q3 hm
theorem draw_ok (X : K.In h) (N : h.Ns mainGlobals mg) (c : lfB K "_law_draw" dwF = true) (mi : mg "int" = none) (ma : mg "abs" = none) : ∃ f fd, mg "_law_draw" = some (.ref f) ∧ PySem.W.keepIn K (.ref f) = true ∧ FnOk P w K mg base C8.CX0 (k + 1) f fd ["_law_stream_here", "_law_many"] spDraw ∧ PB fd ["_law_stream_here", "_law_many"] := by
  obtain ⟨r, e, L, q⟩ := lfB_ok c
  unfold dwF at q
  simp only [Bool.and_eq_true] at q
  obtain ⟨q1, q2, q3, q4, q5⟩ := q
  refine ⟨r.f, r.fd, L.at_.at_ X N, L.at_.kp, ?_, pbB_ok q5⟩
  rw [L.fd]
  cases e2 : drawP r.body with
  | none =>
    rw [e2] at q2
    cases q2
  | some D =>
    rw [e2] at q2
    exact fnDraw L.lk L.cd q1 e2 (drcB_ok q2) q3 (fun y hy => List.all_eq_true.mp q4 y hy) mi ma
theorem pick_ok (X : K.In h) (N : h.Ns mainGlobals mg) (c : lfB K "_law_pick" pkF = true) (cd : lfB K "_law_draw" dwF = true) (mi : mg "int" = none) (ma : mg "abs" = none) (ml : mg "len" = none) : ∃ f fd, mg "_law_pick" = some (.ref f) ∧ PySem.W.keepIn K (.ref f) = true ∧ FnOk P w K mg base C8.CX0 (k + 2) f fd ["_law_stream_here", "_law_things"] (spPick K) ∧ PB fd ["_law_stream_here", "_law_things"] := by
  obtain ⟨r, e, L, q⟩ := lfB_ok c
  unfold pkF at q
  simp only [Bool.and_eq_true] at q
  obtain ⟨q1, q2, q3, q4⟩ := q
  obtain ⟨fd', fdd, d1, d2, d3, d4⟩ := draw_ok (P := P) (w := w) (base := base) (k := k) X N cd mi ma
  refine ⟨r.f, r.fd, L.at_.at_ X N, L.at_.kp, ?_, pbB_ok q4⟩
  rw [L.fd]
  exact fnPick L.lk L.cd q1 q2 (fun y hy => List.all_eq_true.mp q3 y hy) ml d1 d2 d3 d4
theorem knd_ok {x : Str} {cs : List Str} {Ds : List Addr} {ok : Addr → Prop} (X : K.In h) (N : h.Ns mainGlobals mg) (c : lfB K x (knF cs) = true) (hm : mg "isinstance" = none) (few : Ds.length ≤ 900) (hok : ∀ C, ok C → ExcC K C ∧ Paired (KitF K mg C) cs Ds) :
    ∃ f fd, mg x = some (.ref f) ∧ PySem.W.keepIn K (.ref f) = true ∧ FnOk P w K mg base C8.CX0 (k + 1) f fd ["_law_e"] (spKnd Ds ok) ∧ PB fd ["_law_e"] := by
  obtain ⟨r, e, L, q⟩ := lfB_ok c
  unfold knF at q
  simp only [Bool.and_eq_true, decide_eq_true_eq] at q
  obtain ⟨q1, q2, q3, q4, q5⟩ := q
  refine ⟨r.f, r.fd, L.at_.at_ X N, L.at_.kp, ?_, pbB_ok q5⟩
  rw [L.fd]
  have lk := L.lk
  generalize r.body = b at q1 lk
  cases b with
  | nil => cases q1
  | cons st0 b =>
    obtain ⟨q7, q8⟩ := Bool.and_eq_true_iff.mp (show (nilS st0 && decide (kndsB b = some cs)) = true from q1)
    exact fnKnd lk L.cd q2 q7 (of_decide_eq_true q8) q3 (fun y hy => List.all_eq_true.mp q4 y hy) hm few hok
end
end RWk
end
section
/-! M39: the classes all together. -/
namespace RWk
open PySem PySem.Spec PyProof.Rows L2 LamX He
/-- the class of a name -/
def clOf (K : PySem.W.Frag) (x : Str) : Addr := match PySem.W.nsIn K mainGlobals x with
  | some (some (.ref C)) => C
  | _ => 0
def fIOf (K : PySem.W.Frag) (C : Addr) : Addr := match PySem.W.findIn K (.ref C) "__init__" with
  | some (some (.ref f)) => f
  | _ => 0
def clsB (main : Str) (K : PySem.W.Frag) (W : Addr) (sp : List Spc) : Bool := sp.all fun p => (match PySem.W.nsIn K mainGlobals p.1 with
  | some (some (.ref C)) => clAt main K W C (fIOf K C) p.2
  | _ => false)
def csOf (K : PySem.W.Frag) (sp : List Spc) : List Addr := sp.map fun p => clOf K p.1
section
variable {main : Str} {K : PySem.W.Frag} {mg : Str → Option Value} {h : Heap} {W : Addr}
theorem clsB_at {sp : List Spc} (X : K.In h) (N : h.Ns mainGlobals mg) (c0 : cl0 K W = true) (c : clsB main K W sp = true) {p : Spc} (hp : p ∈ sp) : mg p.1 = some (.ref (clOf K p.1)) ∧ ∃ fI, ClsR main K W (clOf K p.1) fI p.2 := by
  have q := List.all_eq_true.mp c p hp
  unfold clOf
  split at q
  · rename_i C e
    exact ⟨PySem.W.mg_of X N e, _, clAt_ok c0 q⟩
  · cases q
theorem spcs_of {sp : List Spc} (X : K.In h) (N : h.Ns mainGlobals mg) (c0 : cl0 K W = true) : ∀ {sp : List Spc}, clsB main K W sp = true → Paired (SpcF main K mg) sp (csOf K sp)
  | [], _ => .nil
  | p :: r, c => by
    obtain ⟨e, fI, R⟩ := clsB_at X N c0 c List.mem_cons_self
    have c' : clsB main K W r = true := by
      unfold clsB at c ⊢
      rw [List.all_cons] at c
      exact (Bool.and_eq_true_iff.mp c).2
    exact .cons ⟨e, fI, R.err⟩ (spcs_of (sp := sp) X N c0 c')
theorem ClsR.one {C fI D : Addr} {fs : List Str} (R : ClsR main K W C fI fs) {fI' : Addr} {fs' : List Str} (R' : ClsR main K W D fI' fs') (hD : D ≠ W) : PySem.W.kitOne K (.ref C) (.ref D) = some (decide (D = C)) := by
  unfold PySem.W.kitOne
  by_cases e : D = C
  · subst e
    rw [if_pos (by simp)]
    simp
  · rw [if_neg (by simp; exact fun z => e z.symm)]
    unfold PySem.W.kitCls
    show (if ((PySem.W.clsIn K D).isSome && PySem.W.typeIn K (.ref D) == some (.type "type")) = true then PySem.W.subIn K (.ref C) (.ref D) else none) = _
    rw [if_pos (by rw [R'.cls, R'.typ]; rfl), R.mro]
    congr 1
    rw [decide_eq_false e]
    simp [mroL, e, hD]
theorem ClsR.own {C fI : Addr} {fs : List Str} (R : ClsR main K W C fI fs) (c0 : cl0 K W = true) (hC : C ≠ W) : OwnF K W C := by
  unfold cl0 at c0
  simp only [Bool.and_eq_true, decide_eq_true_eq] at c0
  obtain ⟨z1, z2, z3, z4⟩ := c0
  have kt : ∀ T : String, PySem.W.kitMeta T = true → PySem.W.kitOne K (.ref C) (.type T) = some ((mroL C W).contains (.type T)) := fun T hT => by
    unfold PySem.W.kitOne
    rw [if_neg (by simp)]
    unfold PySem.W.kitCls
    show (if PySem.W.kitMeta T = true then PySem.W.subIn K (.ref C) (.type T) else none) = _
    rw [if_pos hT, R.mro]
  refine ⟨R.exc, ?_, ?_, ?_⟩
  · unfold PySem.W.kitOne
    rw [if_neg (by simp; exact fun z => hC z)]
    unfold PySem.W.kitCls
    show (if ((PySem.W.clsIn K W).isSome && PySem.W.typeIn K (.ref W) == some (.type "type")) = true then PySem.W.subIn K (.ref C) (.ref W) else none) = _
    rw [if_pos (by rw [z3, z4]; rfl), R.mro]
    congr 1
    simp [mroL]
  · rw [kt "ValueError" (by decide +kernel)]
    congr 1
  · rw [kt "LookupError" (by decide +kernel)]
    congr 1
theorem clsF_of {sp : List Spc} (X : K.In h) (N : h.Ns mainGlobals mg) (c0 : cl0 K W = true) (c : clsB main K W sp = true) : ClsF K sp (csOf K sp) := fun i x fs C h1 h2 => by
  have e : C = clOf K x := by
    unfold csOf at h2
    rw [List.getElem?_map, h1] at h2
    exact (Option.some.inj h2).symm
  subst e
  obtain ⟨_, fI, R⟩ := clsB_at X N c0 c (List.mem_of_getElem? h1)
  exact ⟨R.fld, (List.nodup_cons.mp R.err.nd).2, R.err.few⟩
theorem kits_of {sp : List Spc} (X : K.In h) (N : h.Ns mainGlobals mg) (c0 : cl0 K W = true) {C fI : Addr} {fs : List Str} (R : ClsR main K W C fI fs) : ∀ {sp : List Spc}, clsB main K W sp = true → W ∉ csOf K sp → Paired (KitF K mg C) (sp.map (·.1)) (csOf K sp)
  | [], _, _ => .nil
  | p :: r, c, hW => by
    obtain ⟨e, fI, R'⟩ := clsB_at X N c0 c List.mem_cons_self
    have c' : clsB main K W r = true := by
      unfold clsB at c ⊢
      rw [List.all_cons] at c
      exact (Bool.and_eq_true_iff.mp c).2
    have hW1 : clOf K p.1 ≠ W := fun z => hW (by unfold csOf; rw [List.map_cons, ← z]; exact List.mem_cons_self)
    exact .cons ⟨e, R.one R' hW1⟩ (kits_of (sp := sp) X N c0 R c' fun z => hW (List.mem_cons_of_mem _ z))
end
end RWk
end
section
/-! M40: the law's own defs read out of the frozen heap, 3. -/
namespace RWk
open PySem PySem.Spec PyProof.Rows L2 LamX He
def ownF (m : Nat) (r : FnR) : Bool := scB ["_law_e", "_law_at", "_law_k"] ["_law_e", "_law_at"] r.scope && ((match ownP r.body with
  | some (e1, e2, e3, e4, e5, e6) => (decide (isiE e1 = some ("WalkError" : Str)) && (decide (isiE e2 = some ("ValueError" : Str)) && decide (isiE e3 = some ("LookupError" : Str)))) && (decide (call1 e4 = some (("_law_kinds_a" : Str), ("_law_e" : Str))) && (decide (call1 e5 = some (("_law_kinds_b" : Str), ("_law_e" : Str))) &&
    (match lcEq e6 with
    | some (n, sc) => decide (n = (m : Int)) && (blkB ["_law_e", "_law_at", "_law_k"] r.scope sc [("_law_k", 2)] && (decide (sc.names.lookup ("_law_at" : Str) = some .free) && decide (sc.names.lookup ("_law_k" : Str) = some .local)))
    | none => false)))
  | none => false) && (([("isinstance" : Str), "WalkError", "ValueError", "LookupError", "range", "_law_kinds_a", "_law_kinds_b"].all fun c => glB r.scope c) && pbB r ["_law_e", "_law_at"]))
def mtF (r : FnR) : Bool := scB ["_law_ask", "_law_e"] ["_law_ask"] r.scope && (metB r.body && (decide (r.scope.names.lookup ("BadPath" : Str) = some .globalImplicit) && (decide (r.scope.names.lookup ("_law_e" : Str) = some .local) && pbB r ["_law_ask"])))
def ptD (sc0 : Scope) (D : PrP) : Bool := decide (call1 D.qa = some (("_law_asked_a" : Str), ("_law_odd" : Str))) && (decide (call1 D.qb = some (("_law_asked_b" : Str), ("_law_odd" : Str))) && (decide (call1 D.qc = some (("_law_asked_c" : Str), ("_law_odd" : Str))) && (decide (call1 D.qd = some (("_law_asked_d" : Str), ("_law_odd" : Str))) &&
  (match lcSame D.lc with
  | some sc => blkB NO sc0 sc [("_law_one", 2)] && (decide (sc.names.lookup ("_law_odd" : Str) = some .free) && (decide (sc.names.lookup ("_law_one" : Str) = some .local) && decide (sc.names.lookup ("_law_same" : Str) = some .globalImplicit)))
  | none => false))))
def ptF (r : FnR) : Bool := scB NO [] r.scope && ((match pathsP r.body with
  | some (_, bd) => (match bodyP bd with
    | some D => ptD r.scope D
    | none => false)
  | none => false) && (decide (r.scope.names.lookup ("_law_odd" : Str) = some .cell) && (decide (r.scope.names.lookup ("_law_found" : Str) = some .local) && (([("_law_asked_a" : Str), "_law_asked_b", "_law_asked_c", "_law_asked_d", "isinstance", "list", "all"].all fun c => glB r.scope c) && pbB r []))))
section
variable {P : Program} {w : World} {K : PySem.W.Frag} {mg : Str → Option Value} {base h : Heap} {k : Nat} {CP : Addr} {Tb : List (Addr × Str)}
theorem own_ok {W fa fb : Addr} {fda fdb : FuncData} {A1 A2 : List Addr} {ok : Addr → Prop} (X : K.In h) (N : h.Ns mainGlobals mg) (c : lfB K "_law_is_own" (ownF (A1 ++ A2).length) = true) (mi : mg "isinstance" = none) (mw : mg "WalkError" = some (.ref W)) (mv : mg "ValueError" = none) (ml : mg "LookupError" = none) (mr : mg "range" = none)
    (ma : mg "_law_kinds_a" = some (.ref fa)) (mb : mg "_law_kinds_b" = some (.ref fb)) (ka : PySem.W.keepIn K (.ref fa) = true) (kb : PySem.W.keepIn K (.ref fb) = true) (Fa : FnOk P w K mg base C8.CX0 k fa fda ["_law_e"] (spKnd A1 ok)) (Fb : FnOk P w K mg base C8.CX0 k fb fdb ["_law_e"] (spKnd A2 ok)) (Pa : PB fda ["_law_e"]) (Pb : PB fdb ["_law_e"])
    (nd : (A1 ++ A2).Nodup) (few : (A1 ++ A2).length < 900) (hok : ∀ C ∈ A1 ++ A2, ok C ∧ OwnF K W C) : ∃ f fd, mg "_law_is_own" = some (.ref f) ∧ PySem.W.keepIn K (.ref f) = true ∧ FnOk P w K mg base C8.CX0 (k + 1) f fd ["_law_e", "_law_at"] (spOwn (A1 ++ A2)) ∧ PB fd ["_law_e", "_law_at"] := by
  obtain ⟨r, e, L, q⟩ := lfB_ok c
  unfold ownF at q
  simp only [Bool.and_eq_true] at q
  obtain ⟨q1, q2, q3, q4⟩ := q
  refine ⟨r.f, r.fd, L.at_.at_ X N, L.at_.kp, ?_, pbB_ok q4⟩
  rw [L.fd]
  cases e2 : ownP r.body with
  | none =>
    rw [e2] at q2
    cases q2
  | some t =>
    obtain ⟨e1, e2', e3, e4, e5, e6⟩ := t
    rw [e2] at q2
    simp only [Bool.and_eq_true, decide_eq_true_eq] at q2
    obtain ⟨⟨h1, h2, h3⟩, h4, h5, h6⟩ := q2
    cases e7 : lcEq e6 with
    | none =>
      rw [e7] at h6
      cases h6
    | some nsc =>
      obtain ⟨n, sc⟩ := nsc
      rw [e7] at h6
      simp only [Bool.and_eq_true, decide_eq_true_eq] at h6
      obtain ⟨rfl, g2, g3, g4⟩ := h6
      exact fnOwn L.lk L.cd q1 e2 h1 h2 h3 h4 h5 e7 g2 g3 g4 (fun y hy => List.all_eq_true.mp q3 y hy) mi mw mv ml mr ma mb ka kb Fa Fb Pa Pb nd few hok
theorem met_ok (X : K.In h) (N : h.Ns mainGlobals mg) (c : lfB K "_law_path_met" mtF = true) : MetF K mg := by
  obtain ⟨r, e, L, q⟩ := lfB_ok c
  unfold mtF at q
  simp only [Bool.and_eq_true, decide_eq_true_eq] at q
  obtain ⟨q1, q2, q3, q4, q5⟩ := q
  have B := pbB_ok q5
  rw [L.fd] at B
  exact ⟨r.f, r.oc, r.od, r.osl, r.params, r.body, r.scope, r.dV, r.kV, r.doc, r.pm, r.cdv, r.ct, r.an, L.at_.at_ X N, L.at_.kp, L.lk, L.cd, B, q1, q2, q3, q4⟩
theorem paths_ok {fs : Addr} {fds : FuncData} {ma mb mc md : Nat} (X : K.In h) (N : h.Ns mainGlobals mg) (c : lfB K "_law_paths_right" ptF = true) (mi : mg "isinstance" = none) (ml : mg "list" = none) (mal : mg "all" = none)
    (Fa : AskF P w K mg base CP Tb k "_law_asked_a" ma) (Fb : AskF P w K mg base CP Tb k "_law_asked_b" mb) (Fc : AskF P w K mg base CP Tb k "_law_asked_c" mc) (Fd : AskF P w K mg base CP Tb k "_law_asked_d" md) (few : ma + mb + mc + md ≤ 1000) (many : 2 ≤ ma + mb + mc + md)
    (F : FnG P w K mg base C8.CX0 k fs fds ["_law_found", "_law_due"] (spSame K)) (B : PB fds ["_law_found", "_law_due"]) (hm : mg "_law_same" = some (.ref fs)) (hk : PySem.W.keepIn K (.ref fs) = true) (kc : ∀ n ∈ ["NoneType", "int", "str", "bool", "tuple", "dict", "list"], PySem.W.kitOne K (.type n) (.ref CP) = some false) :
    ∃ f fd, mg "_law_paths_right" = some (.ref f) ∧ PySem.W.keepIn K (.ref f) = true ∧ FnG P w K mg base C8.CX0 (k + 1) f fd [] (spPaths Tb) ∧ PB fd [] := by
  obtain ⟨r, e, L, q⟩ := lfB_ok c
  unfold ptF at q
  simp only [Bool.and_eq_true, decide_eq_true_eq] at q
  obtain ⟨q1, q2, q3, q4, q5, q6⟩ := q
  refine ⟨r.f, r.fd, L.at_.at_ X N, L.at_.kp, ?_, pbB_ok q6⟩
  rw [L.fd]
  cases e2 : pathsP r.body with
  | none =>
    rw [e2] at q2
    cases q2
  | some t =>
    obtain ⟨it, bd⟩ := t
    rw [e2] at q2
    have q2' : (match bodyP bd with
      | some D => ptD r.scope D
      | none => false) = true := q2
    cases e3 : bodyP bd with
    | none =>
      rw [e3] at q2'
      cases q2'
    | some D =>
      rw [e3] at q2'
      have q7 : ptD r.scope D = true := q2'
      unfold ptD at q7
      simp only [Bool.and_eq_true, decide_eq_true_eq] at q7
      obtain ⟨h1, h2, h3, h4, h5⟩ := q7
      cases e4 : lcSame D.lc with
      | none =>
        rw [e4] at h5
        cases h5
      | some sc =>
        rw [e4] at h5
        simp only [Bool.and_eq_true, decide_eq_true_eq] at h5
        obtain ⟨g1, g2, g3, g4⟩ := h5
        exact fnPaths L.lk L.cd q1 e2 q3 q4 (fun y hy => List.all_eq_true.mp q5 y hy) mi ml mal Fa Fb Fc Fd few many F B hm hk kc e3 h1 h2 h3 h4 e4 g1 g2 g3 g4
end
end RWk
end
section
/-! M41: the law's def read out of the frozen heap; all facts in one look. -/
namespace RWk
open PySem PySem.Spec PyProof.Rows L2 LamX He
def ckOwn (st : Stmt) : Bool := match chkP st with
  | some (a, b) => ownE "_law_mine" a && ownE "_law_twin" b
  | none => false
def ckFld (st : Stmt) : Bool := match chkP st with
  | some (a, b) => fldE "_law_mine" a && fldE "_law_twin" b
  | none => false
def lwT (D : LwP) : Bool := match turnP D.turn with
  | some (ea, eb, st) => decide (call1 ea = some (("_law_made_a" : Str), ("_law_x" : Str))) && (decide (call1 eb = some (("_law_made_b" : Str), ("_law_x" : Str))) && (match loop1P st with
    | some (s1, s2) => ckOwn s1 && ckFld s2
    | none => false))
  | none => false
def lwD (D : LwP) : Bool := lwT D && (decide (call1 D.ea = some (("_law_made_a" : Str), ("_law_held" : Str))) && (decide (call1 D.eb = some (("_law_made_b" : Str), ("_law_held" : Str))) && (match loop2P D.st with
  | some s2 => ckFld s2
  | none => false)))
theorem ckOwn_ok {st : Stmt} (h : ckOwn st = true) : ∃ a b, chkP st = some (a, b) ∧ ownE "_law_mine" a = true ∧ ownE "_law_twin" b = true := by
  unfold ckOwn at h
  split at h
  · rename_i a b e
    obtain ⟨h1, h2⟩ := Bool.and_eq_true_iff.mp h
    exact ⟨a, b, e, h1, h2⟩
  · cases h
theorem ckFld_ok {st : Stmt} (h : ckFld st = true) : ∃ a b, chkP st = some (a, b) ∧ fldE "_law_mine" a = true ∧ fldE "_law_twin" b = true := by
  unfold ckFld at h
  split at h
  · rename_i a b e
    obtain ⟨h1, h2⟩ := Bool.and_eq_true_iff.mp h
    exact ⟨a, b, e, h1, h2⟩
  · cases h
theorem lwD_ok {D : LwP} (h : lwD D = true) : ∃ D1 D2 s2 o1 o2 f1 f2 g1 g2, LwC D D1 D2 s2 o1 o2 f1 f2 g1 g2 := by
  unfold lwD at h
  simp only [Bool.and_eq_true, decide_eq_true_eq] at h
  obtain ⟨h1, h2, h3, h4⟩ := h
  unfold lwT at h1
  cases e1 : turnP D.turn with
  | none =>
    rw [e1] at h1
    cases h1
  | some t =>
    obtain ⟨ea, eb, st⟩ := t
    rw [e1] at h1
    simp only [Bool.and_eq_true, decide_eq_true_eq] at h1
    obtain ⟨a1, a2, a3⟩ := h1
    cases e2 : loop1P st with
    | none =>
      rw [e2] at a3
      cases a3
    | some u =>
      obtain ⟨s1, s2⟩ := u
      rw [e2] at a3
      obtain ⟨b1, b2⟩ := Bool.and_eq_true_iff.mp (show (ckOwn s1 && ckFld s2) = true from a3)
      obtain ⟨o1, o2, c1, c2, c3⟩ := ckOwn_ok b1
      obtain ⟨f1, f2, d1, d2, d3⟩ := ckFld_ok b2
      cases e3 : loop2P D.st with
      | none =>
        rw [e3] at h4
        cases h4
      | some s3 =>
        rw [e3] at h4
        obtain ⟨g1, g2, k1, k2, k3⟩ := ckFld_ok (show ckFld s3 = true from h4)
        exact ⟨(ea, eb, st), (s1, s2), s3, o1, o2, f1, f2, g1, g2, ⟨e1, a1, a2, e2, c1, c2, c3, d1, d2, d3, h2, h3, e3, k1, k2, k3⟩⟩
def lawF (r : FnR) : Bool := scB NL ["_law_script"] r.scope && ((match lawP r.body with
  | some D => lwD D
  | none => false) && ((NL.all fun y => decide (r.scope.names.lookup y = some .local)) && (([("_law_stream" : Str), "range", "_law_pick", "_law_made_a", "_law_made_b", "enumerate", "_law_is_own", "_law_same", "_law_paths_right"].all fun y => glB r.scope y) && pbB r ["_law_script"])))
/-! ### all facts -/
def freeNs : List Str := ["isinstance", "super", "len", "repr", "list", "range", "enumerate", "all", "abs", "int", "ValueError", "LookupError"]
def sixNs : List Str := ["_law_made_a", "_law_made_b", "_law_asked_a", "_law_asked_b", "_law_asked_c", "_law_asked_d"]
structure Lists where
  spA : List Spc
  spB : List Spc
  gb : List Str
  gu : List Str
  l1 : NT
  l2 : NT
  l3 : NT
  l4 : NT
  l5 : NT
def nt0 : NT := [("check_path", ["thing"])]
def Lists.t5 (L : Lists) : NT := ((((nt0 ++ L.l1) ++ L.l2) ++ L.l3) ++ L.l4) ++ L.l5
def exA (main : Str) (L : Lists) (K : PySem.W.Frag) : Bool := (freeNs.all fun x => eqO (PySem.W.nsIn K mainGlobals x) (some none)) && ((K.lookup sysModules).isSome && (cl0 K (clOf K "WalkError") && (eqO (PySem.W.nsIn K mainGlobals "WalkError") (some (some (.ref (clOf K "WalkError")))) && (eqO (PySem.W.nsIn K mainGlobals "Path") (some (some (.ref (clOf K "Path")))) &&
  (eqO (PySem.W.nsIn K mainGlobals "BadPath") (some (some (.ref (clOf K "BadPath")))) && (decide (PySem.W.exmOne K (.ref (clOf K "BadPath")) (.ref (clOf K "BadPath")) = some true) && ((["NoneType", "int", "str", "bool", "tuple", "dict", "list"].all fun n => decide (PySem.W.kitOne K (.type n) (.ref (clOf K "Path")) = some false)) &&
  (decide (sixNs.map fun x => (cdAt K x).2).Nodup && (decide (csOf K (L.spA ++ L.spB)).Nodup && (!(csOf K (L.spA ++ L.spB)).contains (clOf K "WalkError") && clAt main K (clOf K "WalkError") (clOf K "BadPath") (fIOf K (clOf K "BadPath")) ["thing"]))))))))))
def exB (main : Str) (L : Lists) (K : PySem.W.Frag) : Bool := clsB main K (clOf K "WalkError") L.spA && clsB main K (clOf K "WalkError") L.spB
def exC (L : Lists) (K : PySem.W.Frag) : Bool := ckB K (clOf K "Path") (clOf K "BadPath") && (rdB K L.gb L.gu && (lvB K (gOf L.gb L.gu) nt0 L.l1 && (lvB K (gOf L.gb L.gu) (nt0 ++ L.l1) L.l2 && (lvB K (gOf L.gb L.gu) ((nt0 ++ L.l1) ++ L.l2) L.l3 && (lvB K (gOf L.gb L.gu) (((nt0 ++ L.l1) ++ L.l2) ++ L.l3) L.l4 && lvB K (gOf L.gb L.gu) ((((nt0 ++ L.l1) ++ L.l2) ++ L.l3) ++ L.l4) L.l5)))))
def exD (L : Lists) (K : PySem.W.Frag) : Bool := lfB K "_law_made_a" (mdF L.spA) && (lfB K "_law_made_b" (mdF L.spB) && (lfB K "_law_kinds_a" (knF (L.spA.map (·.1))) && lfB K "_law_kinds_b" (knF (L.spB.map (·.1)))))
def exE (L : Lists) (K : PySem.W.Frag) : Bool := lfB K "_law_asked_a" (akF L.t5 48) && (lfB K "_law_asked_b" (akF L.t5 48) && (lfB K "_law_asked_c" (akF L.t5 48) && lfB K "_law_asked_d" (akF L.t5 43)))
def exG (L : Lists) (K : PySem.W.Frag) : Bool := lfB K "_law_same" smF && (lfB K "_law_stream" stF && (lfB K "_law_draw" dwF && (lfB K "_law_pick" pkF && (lfB K "_law_is_own" (ownF (L.spA.length + L.spB.length)) && (lfB K "_law_path_met" mtF && (lfB K "_law_paths_right" ptF && lfB K "law" lawF))))))
end RWk
end
section
/-! M42: the law's promise out of the looks at the frozen heap. -/
namespace RWk
open PySem PySem.Spec PyProof.Rows L2 LamX He
theorem tabs_empty {H : Hp} {K : PySem.W.Frag} {ns : List Str} (h : ∀ x ∈ ns, H (cdAt K x).2 = some (.tbl #[])) : Tabs (tbsOf K ns) H := fun p hp => by
  obtain ⟨x, hx, rfl⟩ := List.mem_map.mp hp
  exact ⟨#[], h x hx, True.intro, fun pos cv z => by cases z⟩
structure Looks6 (main : Str) (L : Lists) (K : PySem.W.Frag) : Prop where
  a : exA main L K = true
  b : exB main L K = true
  c : exC L K = true
  d : exD L K = true
  e : exE L K = true
  g : exG L K = true
section
variable {P : Program} {w : World} {K : PySem.W.Frag} {mg : Str → Option Value} {base h : Heap} {L : Lists}
theorem csOf_app {a b : List Spc} : csOf K (a ++ b) = csOf K a ++ csOf K b := List.map_append
theorem lawG (X : K.In h) (N : h.Ns mainGlobals mg) (E : Looks6 P.main.file L K) (top : (P.main.scope.names.lookup ("super" : Str)).isSome = false) (la : L.spA.length = 31) (lb : L.spB.length = 40) (TB : ∀ y ∈ sixNs, TabB base mg (cdAt K y).1 (cdAt K y).2) :
    ∃ r, fnRd K "law" = some r ∧ PB r.fd ["_law_script"] ∧ mg "law" = some (.ref r.f) ∧ FnG P w K mg base C8.CX0 12 r.f r.fd ["_law_script"] (spLaw K (tbsOf K sixNs)) := by
  have a := E.a
  unfold exA at a
  simp only [Bool.and_eq_true, decide_eq_true_eq, Bool.not_eq_true'] at a
  obtain ⟨fr, hsys, c0, eW, eP, eB, hex, kcs, ndT, ndC, noW, clB⟩ := a
  have free : ∀ x ∈ freeNs, mg x = none := fun x hx => PySem.W.mg_none_of X N (eqO_ok (List.all_eq_true.mp fr x hx))
  have mW : mg "WalkError" = some (.ref (clOf K "WalkError")) := PySem.W.mg_of X N (eqO_ok eW)
  have mP : mg "Path" = some (.ref (clOf K "Path")) := PySem.W.mg_of X N (eqO_ok eP)
  have mB : mg "BadPath" = some (.ref (clOf K "BadPath")) := PySem.W.mg_of X N (eqO_ok eB)
  have kc : ∀ n ∈ ["NoneType", "int", "str", "bool", "tuple", "dict", "list"], PySem.W.kitOne K (.type n) (.ref (clOf K "Path")) = some false := fun n hn => of_decide_eq_true (List.all_eq_true.mp kcs n hn)
  have RB := clAt_ok c0 clB
  obtain ⟨bA, bB⟩ := Bool.and_eq_true_iff.mp E.b
  have cE := E.c
  unfold exC at cE
  simp only [Bool.and_eq_true] at cE
  obtain ⟨g0, g1, g2, g3, g4, g5, g6⟩ := cE
  have sup := free "super" (by simp [freeNs])
  have hG := rdB_ok X N g1
  have q0 : ∀ y qs, nt0.lookup y = some qs → GQ P w K mg base (clOf K "Path") (clOf K "BadPath") 2 y qs := fun y qs hy => by
    have hm := lk_mem hy
    have e : (y, qs) = (("check_path" : Str), [("thing" : Str)]) := by simpa [nt0] using hm
    obtain ⟨rfl, rfl⟩ := Prod.mk.inj e
    exact ckB_ok X N g0 (free "isinstance" (by simp [freeNs])) mP mB sup top RB.err ⟨by rw [RB.mro]; simp [mroL], RB.typ⟩
  have q1 := lvB_ok (P := P) (w := w) (base := base) X N g2 q0 hG
  have q2 := lvB_ok X N g3 q1 hG
  have q3 := lvB_ok X N g4 q2 hG
  have q4 := lvB_ok X N g5 q3 hG
  have q5 := lvB_ok X N g6 q4 hG
  have gE := E.g
  unfold exG at gE
  simp only [Bool.and_eq_true] at gE
  obtain ⟨y1, y2, y3, y4, y5, y6, y7, y8⟩ := gE
  have M := met_ok X N y6
  have CF : CatF K mg (clOf K "BadPath") := ⟨mB, RB.fld.x, RB.fld.no "thing" (by simp), hex⟩
  have eE := E.e
  unfold exE at eE
  simp only [Bool.and_eq_true] at eE
  obtain ⟨k1, k2, k3, k4⟩ := eE
  have Fa := ask_ok (CP := clOf K "Path") X N k1 (by decide) ndT (by simp [sixNs]) TB M CF q5
  have Fb := ask_ok (CP := clOf K "Path") X N k2 (by decide) ndT (by simp [sixNs]) TB M CF q5
  have Fc := ask_ok (CP := clOf K "Path") X N k3 (by decide) ndT (by simp [sixNs]) TB M CF q5
  have Fd := ask_ok (CP := clOf K "Path") X N k4 (by decide) ndT (by simp [sixNs]) TB M CF q5
  obtain ⟨fs, fds, s1, s2, s3, s4⟩ := same_ok (P := P) (w := w) (base := base) (k := 9) X N y1 (free "repr" (by simp [freeNs])) hsys
  obtain ⟨fp, fdp, p1, p2, p3, p4⟩ := paths_ok X N y7 (free "isinstance" (by simp [freeNs])) (free "list" (by simp [freeNs])) (free "all" (by simp [freeNs])) Fa Fb Fc Fd (by decide) (by decide) s3 s4 s1 s2 kc
  obtain ⟨ft, fdt, t1, t2, t3, t4⟩ := stream_ok (P := P) (w := w) (base := base) (k := 10) X N y2 (free "list" (by simp [freeNs]))
  obtain ⟨fk, fdk, u1, u2, u3, u4⟩ := pick_ok (P := P) (w := w) (base := base) (k := 9) X N y4 y3 (free "int" (by simp [freeNs])) (free "abs" (by simp [freeNs])) (free "len" (by simp [freeNs]))
  have dE := E.d
  unfold exD at dE
  simp only [Bool.and_eq_true] at dE
  obtain ⟨d1, d2, d3, d4⟩ := dE
  have SA := spcs_of (sp := L.spA) X N c0 bA
  have SB := spcs_of (sp := L.spB) X N c0 bB
  have Ma := made_ok (w := w) (k := 9) X N d1 ndT (by simp [sixNs]) TB SA sup top
  have Mb := made_ok (w := w) (k := 9) X N d2 ndT (by simp [sixNs]) TB SB sup top
  have lcA : (csOf K L.spA).length = 31 := by rw [← la]; exact List.length_map _
  have lcB : (csOf K L.spB).length = 40 := by rw [← lb]; exact List.length_map _
  rw [csOf_app] at ndC noW
  have noW' : clOf K "WalkError" ∉ csOf K L.spA ++ csOf K L.spB := fun z => by
    rw [List.contains_iff_mem.mpr z] at noW
    cases noW
  have nwA : clOf K "WalkError" ∉ csOf K L.spA := fun z => noW' (List.mem_append_left _ z)
  have nwB : clOf K "WalkError" ∉ csOf K L.spB := fun z => noW' (List.mem_append_right _ z)
  have one : ∀ C ∈ csOf K L.spA ++ csOf K L.spB, ∃ fI fs, ClsR P.main.file K (clOf K "WalkError") C fI fs := fun C hC => by
    rcases List.mem_append.mp hC with hC | hC
    · obtain ⟨p, hp, rfl⟩ := List.mem_map.mp hC
      obtain ⟨_, fI, R⟩ := clsB_at X N c0 bA hp
      exact ⟨fI, _, R⟩
    · obtain ⟨p, hp, rfl⟩ := List.mem_map.mp hC
      obtain ⟨_, fI, R⟩ := clsB_at X N c0 bB hp
      exact ⟨fI, _, R⟩
  obtain ⟨fa, fda, a1, a2, a3, a4⟩ := knd_ok (P := P) (w := w) (base := base) (k := 9) (ok := fun C => C ∈ csOf K L.spA ++ csOf K L.spB) (Ds := csOf K L.spA) X N d3 (free "isinstance" (by simp [freeNs])) (by omega) (fun C hC => by
    obtain ⟨fI, fs, R⟩ := one C hC
    exact ⟨R.exc, kits_of (sp := L.spA) X N c0 R bA nwA⟩)
  obtain ⟨fb, fdb, b1, b2, b3, b4⟩ := knd_ok (P := P) (w := w) (base := base) (k := 9) (ok := fun C => C ∈ csOf K L.spA ++ csOf K L.spB) (Ds := csOf K L.spB) X N d4 (free "isinstance" (by simp [freeNs])) (by omega) (fun C hC => by
    obtain ⟨fI, fs, R⟩ := one C hC
    exact ⟨R.exc, kits_of (sp := L.spB) X N c0 R bB nwB⟩)
  have lenC : (csOf K L.spA ++ csOf K L.spB).length = L.spA.length + L.spB.length := by rw [List.length_append, lcA, lcB, la, lb]
  obtain ⟨fo, fdo, o1, o2, o3, o4⟩ := own_ok (P := P) (w := w) (base := base) (k := 10) X N (by rw [lenC]; exact y5) (free "isinstance" (by simp [freeNs])) mW (free "ValueError" (by simp [freeNs])) (free "LookupError" (by simp [freeNs])) (free "range" (by simp [freeNs])) a1 b1 a2 b2 a3 b3 a4 b4 ndC (by rw [lenC, la, lb]; decide) (fun C hC => by
    obtain ⟨fI, fs, R⟩ := one C hC
    exact ⟨hC, R.own c0 fun z => noW' (z ▸ hC)⟩)
  obtain ⟨r, er, LF, qr⟩ := lfB_ok y8
  unfold lawF at qr
  simp only [Bool.and_eq_true] at qr
  obtain ⟨r1, r2, r3, r4, r5⟩ := qr
  refine ⟨r, er, pbB_ok r5, LF.at_.at_ X N, ?_⟩
  rw [LF.fd]
  cases eD : lawP r.body with
  | none =>
    rw [eD] at r2
    cases r2
  | some D =>
    rw [eD] at r2
    obtain ⟨D1, D2, s2', z1, z2, z3, z4, z5, z6, C⟩ := lwD_ok (show lwD D = true from r2)
    have hC : ClsF K (L.spA ++ L.spB) (csOf K L.spA ++ csOf K L.spB) := by
      rw [← csOf_app]
      refine clsF_of (main := P.main.file) X N c0 ?_
      unfold clsB at bA bB ⊢
      rw [List.all_append, bA, bB]
      rfl
    exact fnLaw (k := 10) LF.lk LF.cd r1 eD C (fun y hy => of_decide_eq_true (List.all_eq_true.mp r3 y hy)) (fun y hy => List.all_eq_true.mp r4 y hy) (free "range" (by simp [freeNs])) (free "enumerate" (by simp [freeNs]))
      t3 t4 t1 t2 u3 u4 u1 u2 Ma Mb (by omega) (by omega) hC o3 o4 o1 o2 (s3.mono (by decide)) s4 s1 s2 p3 p4 p1 p2
end
end RWk
end
section
/-! M43: the Hook of the head; the joint. -/
namespace RWk
open PySem PySem.Spec PyProof.Rows L2 LamX He
/-- an empty table -/
def mtT : Obj → Bool
  | ⟨.none, none, .fields vs, sl⟩ => vs.isEmpty && sl.isEmpty
  | _ => false
theorem mtT_eq {o : Obj} (h : mtT o = true) : o = noTb := by
  unfold mtT at h
  split at h
  · obtain ⟨h1, h2⟩ := Bool.and_eq_true_iff.mp h
    rw [Array.isEmpty_iff.mp h1, Array.isEmpty_iff.mp h2]
  · cases h
/-- the objects at some addresses (in order), out of the row of all objects -/
noncomputable def frW (L : List Obj) : Nat → List Nat → PySem.W.Frag :=
  @List.rec Obj (fun _ => Nat → List Nat → PySem.W.Frag) (fun _ _ => [])
    (fun o _ ih i as => @List.rec Nat (fun _ => PySem.W.Frag) [] (fun a r _ => @Bool.rec (fun _ => PySem.W.Frag) (ih (Nat.succ i) as)
      (@Option.rec Obj (fun _ => PySem.W.Frag) (ih (Nat.succ i) r) (fun u => (i, u) :: ih (Nat.succ i) r) (PySem.W.alive o)) (Nat.beq a i)) as) L
theorem subOne (n i : Nat) (h : Nat.succ i ≤ n) : n - i = (n - Nat.succ i) + 1 := by omega
theorem frW_at : ∀ {L : List Obj} {i : Nat} {as : List Nat} {p : Addr × Obj}, p ∈ frW L i as → i ≤ p.1 ∧ ∃ u, L[p.1 - i]? = some u ∧ PySem.W.alive u = some p.2
  | [], i, as, p, h => by
    have h' : p ∈ ([] : List (Addr × Obj)) := h
    cases h'
  | o :: L, i, [], p, h => by
    have h' : p ∈ ([] : List (Addr × Obj)) := h
    cases h'
  | o :: L, i, a :: r, p, h => by
    have step : ∀ {as' : List Nat}, p ∈ frW L (Nat.succ i) as' → i ≤ p.1 ∧ ∃ u, (o :: L)[p.1 - i]? = some u ∧ PySem.W.alive u = some p.2 := fun h' => by
      obtain ⟨h1, u, h2, h3⟩ := frW_at h'
      refine ⟨Nat.le_of_succ_le h1, u, ?_, h3⟩
      rw [subOne p.1 i h1, List.getElem?_cons_succ]
      exact h2
    have h' : p ∈ (@Bool.rec (fun _ => PySem.W.Frag) (frW L (Nat.succ i) (a :: r)) (@Option.rec Obj (fun _ => PySem.W.Frag) (frW L (Nat.succ i) r) (fun u => (i, u) :: frW L (Nat.succ i) r) (PySem.W.alive o)) (Nat.beq a i) : PySem.W.Frag) := h
    cases c : Nat.beq a i with
    | false =>
      rw [c] at h'
      exact step h'
    | true =>
      rw [c] at h'
      cases e : PySem.W.alive o with
      | none =>
        rw [e] at h'
        exact step h'
      | some u =>
        rw [e] at h'
        rcases List.mem_cons.mp h' with rfl | h'
        · exact ⟨Nat.le_refl _, o, by rw [Nat.sub_self]; rfl, e⟩
        · exact step h'
noncomputable def KRw (L : List Obj) (rs : List (List Nat)) : PySem.W.Frag := rs.flatMap fun as => frW L 0 as
theorem get_alive {h : Heap} {a : Addr} {u o : Obj} (e : h.objs.toList[a]? = some u) (al : PySem.W.alive u = some o) : h.get? a = some o := by
  unfold Heap.get?
  rw [← Array.getElem?_toList, e]
  obtain ⟨c, d, dt, sl⟩ := u
  cases dt <;> first | exact al | cases al
theorem KRw_at {h : Heap} {rs : List (List Nat)} {a : Addr} {o : Obj} (e : (KRw h.objs.toList rs).lookup a = some o) : h.get? a = some o := by
  obtain ⟨as, _, m⟩ := List.mem_flatMap.mp (lk_mem e)
  obtain ⟨_, u, h2, h3⟩ := frW_at m
  exact get_alive h2 h3
theorem KRw_in {h : Heap} {rs : List (List Nat)} : (KRw h.objs.toList rs).In h := fun _ _ e => KRw_at e
noncomputable def tabC (T K : PySem.W.Frag) : Bool := sixNs.all fun x => PySem.W.codeHdIn K (cdAt K x).1 (cdAt K x).2 && ((K.lookup (cdAt K x).2).isNone && (match T.lookup (cdAt K x).2 with
  | some o => mtT o
  | none => false))
structure SaysR (main : Str) (L : Lists) (h : Heap) (K : PySem.W.Frag) : Prop where
  looks : Looks6 main L K
  hd : ∀ x ∈ sixNs, PySem.W.codeHdIn K (cdAt K x).1 (cdAt K x).2 = true
  out : ∀ x ∈ sixNs, K.lookup (cdAt K x).2 = none
  mt : ∀ x ∈ sixNs, h.get? (cdAt K x).2 = some noTb
abbrev Al7 : Type := Bool × (Bool × (Bool × (Bool × (Bool × (Bool × Bool)))))
noncomputable def obsR (rs : List (List Nat)) (tb : List Nat) (main : Str) (L : Lists) (O : List Obj) : Al7 := (exA main L (KRw O rs), exB main L (KRw O rs), exC L (KRw O rs), exD L (KRw O rs), exE L (KRw O rs), exG L (KRw O rs), tabC (KRw O [tb]) (KRw O rs))
noncomputable def hookR (rs : List (List Nat)) (tb : List Nat) (main : Str) (L : Lists) : PySem.W.Hook where
  α := Al7
  obs := fun s => obsR rs tb main L s.heap.objs.toList
  val := fun _ => (true, true, true, true, true, true, true)
  says := fun _ h => ∃ K : PySem.W.Frag, K.In h ∧ SaysR main L h K
  of := fun _ s e => by
    have e' : obsR rs tb main L s.heap.objs.toList = (true, true, true, true, true, true, true) := e
    unfold obsR at e'
    simp only [Prod.mk.injEq] at e'
    obtain ⟨e1, e2, e3, e4, e5, e6, e7⟩ := e'
    have each : ∀ x ∈ sixNs, PySem.W.codeHdIn (KRw s.heap.objs.toList rs) (cdAt (KRw s.heap.objs.toList rs) x).1 (cdAt (KRw s.heap.objs.toList rs) x).2 = true ∧ (KRw s.heap.objs.toList rs).lookup (cdAt (KRw s.heap.objs.toList rs) x).2 = none ∧ s.heap.get? (cdAt (KRw s.heap.objs.toList rs) x).2 = some noTb := fun x hx => by
      obtain ⟨q1, q2⟩ := Bool.and_eq_true_iff.mp (List.all_eq_true.mp e7 x hx)
      obtain ⟨q3, q4⟩ := Bool.and_eq_true_iff.mp q2
      refine ⟨q1, Option.isNone_iff_eq_none.mp q3, ?_⟩
      split at q4
      · rename_i o eo
        rw [KRw_at eo, mtT_eq q4]
      · cases q4
    exact ⟨_, KRw_in, ⟨⟨e1, e2, e3, e4, e5, e6⟩, fun x hx => (each x hx).1, fun x hx => (each x hx).2.1, fun x hx => (each x hx).2.2⟩⟩
  keeps := fun _ _ _ ⟨K, hK, c⟩ k => ⟨K, PySem.W.Frag.In.keeps hK k, ⟨c.looks, c.hd, c.out, fun x hx => k _ _ (c.mt x hx)⟩⟩
theorem room12 : Room 12 callerA := ⟨rfl, by decide +kernel, by decide +kernel⟩
theorem lawAtG_of {l : PySem.W.OpenLaw} {w : World} {K : PySem.W.Frag} {mg : Str → Option Value} {fa : Addr} {h : Heap} {L : Lists} {n : Nat} (X : K.In h) (N : h.Ns mainGlobals mg) (S : SaysR l.prog.main.file L h K) (top : (l.prog.main.scope.names.lookup ("super" : Str)).isSome = false) (la : L.spA.length = 31) (lb : L.spB.length = 40) (hn : n ≤ 100000000)
    (hfa : mg "law" = some (.ref fa)) : LawAtG l w K C8.CX0 12 n "_law_script" mg fa h := by
  have hd : ∀ p ∈ sixNs.map (cdAt K), ∃ x ∈ sixNs, p = cdAt K x := fun p hp => by
    obtain ⟨x, hx, rfl⟩ := List.mem_map.mp hp
    exact ⟨x, hx, rfl⟩
  cases er : fnRd K "law" with
  | none =>
    have g := S.looks.g
    unfold exG at g
    simp only [Bool.and_eq_true] at g
    have q := g.2.2.2.2.2.2.2
    unfold lfB at q
    rw [er] at q
    cases q
  | some r =>
    have A := fnRd_ok er
    have ef : r.f = fa := by
      have z := A.at_ X N
      rw [hfa] at z
      exact (Value.ref.inj (Option.some.inj z)).symm
    have g := S.looks.g
    unfold exG at g
    simp only [Bool.and_eq_true] at g
    obtain ⟨r', er', _, q⟩ := lfB_ok g.2.2.2.2.2.2.2
    rw [er] at er'
    cases er'
    unfold lawF at q
    simp only [Bool.and_eq_true] at q
    have B := pbB_ok q.2.2.2.2
    refine ⟨r.fd, sixNs.map (cdAt K), spLaw K (tbsOf K sixNs), fun p hp => ?_, fun p hp => ?_, fun p hp => ?_, fun s u => ?_, fun H a ns hl hT hS => ?_, fun base kB nB TB => ?_⟩
    · obtain ⟨x, hx, rfl⟩ := hd p hp
      exact S.mt x hx
    · obtain ⟨x, hx, rfl⟩ := hd p hp
      exact S.out x hx
    · obtain ⟨x, hx, rfl⟩ := hd p hp
      exact PySem.W.codeHd_of_K X (S.hd x hx)
    · have z := bind_all r.fd ["_law_script"] [] [u] [] B.po (by rw [List.append_nil]; exact B.ar) B.va B.ko B.ka B.df (by rw [List.append_nil]; exact B.nd) rfl rfl
      exact .of_eq (by simpa using z)
    · exact ⟨a, ns, rfl, hS, Nat.le_trans hl hn, tabs_empty fun x hx => hT _ (List.mem_map.mpr ⟨x, hx, rfl⟩), fun _ => rfl⟩
    · obtain ⟨r2, e2, _, _, F⟩ := lawG (P := l.prog) (w := w) (base := base) X N S.looks top la lb fun y hy => TB _ (List.mem_map.mpr ⟨y, hy, rfl⟩)
      rw [er] at e2
      cases e2
      rw [← ef]
      exact F
theorem walkR {l : PySem.W.OpenLaw} {n : Nat} {q : Program} {loose : List Str} {XP : (Str → Option Value) → Heap → Prop} {d : DefRec} {rs : List (List Nat)} {tb : List Nat} {L : Lists} (hn : l.most = some n) (hn2 : n ≤ 1000) (hdf : d.params.defaults = []) (hd : d.name = ("law" : Str)) (top : (l.prog.main.scope.names.lookup ("super" : Str)).isSome = false)
    (la : L.spA.length = 31) (lb : L.spB.length = 40) : PySem.W.WalkO q loose XP (hookR rs tb l.prog.main.file L).says l.row.toRowW d [] (fun f vs => PySem.call f vs) :=
  walk_ofG (CX := fun _ => C8.CX0) (k := 12) (x := "_law_script") hn (Nat.le_trans hn2 (by rw [sizeLine_eq]; decide)) hdf room12 (fun w mg fa h ⟨K, X, S⟩ N hfa => ⟨K, X, lawAtG_of X N S top la lb (Nat.le_trans hn2 (by decide)) (by rw [← hd]; exact hfa)⟩) fun _ _ _ _ _ z => z
end RWk
end
section
/-! M44: the joint, for any such law. -/
namespace RWk
open PySem PySem.W PySem.Calls PyProof.Rows
theorem joint {l : OpenLaw} {q : Program} {rs : List (List Nat)} {tb : List Nat} {L : Lists} {loose : List Str} {N n : Nat} {d : DefRec} (la : L.spA.length = 31) (lb : L.spB.length = 40) (said : l.wellSaid = true)
    (left : LeftO l.row.prog q loose (fun s => xlAt q [] s && recOk l.row.toRowW.records s) (hookR rs tb l.prog.main.file L).obs (hookR rs tb l.prog.main.file L).val N)
    (hdef : defOf q l.row.name = some (d, [])) (hp : l.row.prog.theDef l.row.name = some (d.params, d.body, d.scope)) (hdf : d.params.defaults = []) (hdn : d.name = ("law" : Str)) (hk : kwWritten? d.params.kwonlyargs d.params.kw_defaults = some []) (hwr : (!l.row.writes || l.row.records.isEmpty) = true)
    (ok : (chainsOk q && opensWell l.row.prog && (frees l.row.toRowW && l.row.within.isEmpty)) = true) (hb : l.row.prog.bare) (hw : l.row.toRowW.promised) (hn : l.most = some n) (hn2 : n ≤ 1000) (top : (l.prog.main.scope.names.lookup ("super" : Str)).isSome = false) : l.Holds :=
  holds_law said fun said2 => holds_open (r := l.row) (q := q) (loose := loose) (XP := XL q []) (YP := (hookR rs tb l.prog.main.file L).says) (d := d) (kwd := []) left (hookR rs tb l.prog.main.file L).of (hookR rs tb l.prog.main.file L).keeps (fun s z => xl_of s (Bool.and_eq_true_iff.mp z).1) XL.keeps hdef hp hk (fun s z => recFacts_of (Bool.and_eq_true_iff.mp z).2) hwr said2 ok hb hw
    (walkR (l := l) (n := n) hn hn2 hdf hdn top la lb)
end RWk
end
section
namespace RWk
open PySem PySem.W PySem.Calls PyProof.Rows
noncomputable def lkp (K : List (Nat × Obj)) (a : Nat) : Option Obj :=
  @List.rec (Nat × Obj) (fun _ => Option Obj) none (fun p _ ih => @Bool.rec (fun _ => Option Obj) ih (some p.2) (Nat.beq p.1 a)) K
noncomputable def upk (a : Nat) (f : Obj → Obj) (K : List (Nat × Obj)) : List (Nat × Obj) :=
  @List.rec (Nat × Obj) (fun _ => List (Nat × Obj)) [] (fun p r ih => @Bool.rec (fun _ => List (Nat × Obj)) (p :: ih) ((p.1, f p.2) :: r) (Nat.beq p.1 a)) K
theorem lkp_nil (a : Nat) : lkp [] a = none := rfl
theorem lkp_cons (p : Nat × Obj) (K : List (Nat × Obj)) (a : Nat) : lkp (p :: K) a = if p.1 = a then some p.2 else lkp K a := by
  show @Bool.rec (fun _ => Option Obj) (lkp K a) (some p.2) (Nat.beq p.1 a) = _
  rw [BT.beq_eq]
  by_cases h : p.1 = a
  · rw [if_pos h, decide_eq_true h]
  · rw [if_neg h, decide_eq_false h]
theorem upk_cons (p : Nat × Obj) (K : List (Nat × Obj)) (a : Nat) (f : Obj → Obj) : upk a f (p :: K) = if p.1 = a then (p.1, f p.2) :: K else p :: upk a f K := by
  show @Bool.rec (fun _ => List (Nat × Obj)) (p :: upk a f K) ((p.1, f p.2) :: K) (Nat.beq p.1 a) = _
  rw [BT.beq_eq]
  by_cases h : p.1 = a
  · rw [if_pos h, decide_eq_true h]
  · rw [if_neg h, decide_eq_false h]
theorem lkp_upk (f : Obj → Obj) (a i : Nat) : ∀ K : List (Nat × Obj), lkp (upk a f K) i = if i = a then (lkp K a).map f else lkp K i
  | [] => by
    show none = _
    by_cases h : i = a <;> simp [h, lkp_nil]
  | p :: K => by
    rw [upk_cons, lkp_cons p K a, lkp_cons p K i]
    by_cases h : p.1 = a
    · rw [if_pos h, lkp_cons, if_pos h]
      by_cases q : i = a
      · subst q
        rw [if_pos h, if_pos rfl]
        rfl
      · rw [if_neg q, if_neg (fun e => q (e.symm.trans h)), if_neg (fun e => q (e.symm.trans h))]
    · rw [if_neg h, lkp_cons, lkp_upk f a i K, if_neg h]
      by_cases q : i = a
      · subst q
        rw [if_pos rfl, if_neg h]
        simp
      · by_cases z : p.1 = i
        · rw [if_pos z, if_pos z, if_neg q]
        · rw [if_neg z, if_neg z]
structure SV where
  K : List (Nat × Obj)
  n : Nat
  gens : Array GenState
  drawn : Drawn
  toks : Nat
  os : OsState
noncomputable def stepV (den : Code → Sem Fin) (p : Program) (w : World) : SV → Thread → Option (SV × Thread)
  | ⟨K, n, gens, drawn, toks, os⟩, ⟨cur, code, pos, stack⟩ => match cur with
    | .load a _ k => match lkp K a with
      | some o => match alive o with
        | some o' => some (⟨K, n, gens, drawn, toks, os⟩, ⟨k o', code, pos, stack⟩)
        | none => none
      | none => none
    | .update a _ f k => match lkp K a with
      | some o => match alive o with
        | some _ => some (⟨upk a f K, n, gens, drawn, toks, os⟩, ⟨k (), code, pos, stack⟩)
        | none => none
      | none => none
    | .alloc o k => some (⟨(n, o) :: K, n + 1, gens, drawn, toks, os⟩, ⟨k n, code, pos, stack⟩)
    | .loadIfAlive a k => match lkp K a with
      | some o => some (⟨K, n, gens, drawn, toks, os⟩, ⟨k (alive o), code, pos, stack⟩)
      | none => none
    | c => match step den p w ⟨{}, gens, drawn, toks, os⟩ ⟨c, code, pos, stack⟩ with
      | .go s' t' => some (⟨K, n, s'.gens, s'.drawn, s'.toks, s'.os⟩, t')
      | .halt _ _ => none
/-- the known objects stand in the heap; it has so many -/
structure Rep (K : List (Nat × Obj)) (n : Nat) (h : Heap) : Prop where
  size : h.objs.size = n
  has : ∀ a o, lkp K a = some o → h.objs[a]? = some o
/-- what is not known stays, and the life -/
structure Frm (h h' : Heap) (K' : List (Nat × Obj)) : Prop where
  life : h'.life = h.life
  le : h.objs.size ≤ h'.objs.size
  same : ∀ a, lkp K' a = none → h'.objs[a]? = h.objs[a]?
def SV.at (s : SV) (h : Heap) : Shared := ⟨h, s.gens, s.drawn, s.toks, s.os⟩
theorem Rep.get {K : List (Nat × Obj)} {n : Nat} {h : Heap} (r : Rep K n h) {a : Nat} {o : Obj} (e : lkp K a = some o) : h.get? a = alive o := by
  unfold Heap.get?
  rw [r.has a o e]
  obtain ⟨c, d, dt, sl⟩ := o
  cases dt <;> rfl
theorem getq_modify (xs : Array Obj) (a i : Nat) (f : Obj → Obj) : (xs.modify a f)[i]? = if a = i then xs[i]?.map f else xs[i]? := Array.getElem?_modify ..
section
variable {den : Code → Sem Fin} {p : Program} {w : World}
/-- keys stay known -/
def Kn (K K' : List (Nat × Obj)) : Prop := ∀ a, lkp K' a = none → lkp K a = none
theorem stepV_spec {s s' : SV} {t t' : Thread} {h : Heap} (R : Rep s.K s.n h) (e : stepV den p w s t = some (s', t')) :
    ∃ h', step den p w (s.at h) t = .go (s'.at h') t' ∧ Rep s'.K s'.n h' ∧ Frm h h' s'.K ∧ Kn s.K s'.K := by
  obtain ⟨K, n, gens, drawn, toks, os⟩ := s
  obtain ⟨cur, code, pos, stack⟩ := t
  have other : (∀ a q k, cur ≠ .load a q k) → (∀ a q f k, cur ≠ .update a q f k) → (∀ o k, cur ≠ .alloc o k) → (∀ a k, cur ≠ .loadIfAlive a k) →
      (match step den p w ⟨{}, gens, drawn, toks, os⟩ ⟨cur, code, pos, stack⟩ with
        | .go s' t' => some ((⟨K, n, s'.gens, s'.drawn, s'.toks, s'.os⟩ : SV), t')
        | .halt _ _ => none) = some (s', t') → ∃ h', step den p w (SV.at ⟨K, n, gens, drawn, toks, os⟩ h) ⟨cur, code, pos, stack⟩ = .go (s'.at h') t' ∧ Rep s'.K s'.n h' ∧ Frm h h' s'.K ∧ Kn K s'.K := fun h1 h2 h3 h4 e => by
    cases q : step den p w ⟨{}, gens, drawn, toks, os⟩ ⟨cur, code, pos, stack⟩ with
    | halt o s => rw [q] at e; cases e
    | go s₀ t₀ =>
      rw [q] at e
      cases e
      exact ⟨h, step_heap h1 h2 h3 h4 q, R, ⟨rfl, Nat.le_refl _, fun _ _ => rfl⟩, fun _ z => z⟩
  cases cur with
  | load a q k =>
    cases g : lkp K a with
    | none => simp only [stepV, g] at e; cases e
    | some o =>
      cases al : alive o with
      | none => simp only [stepV, g, al] at e; cases e
      | some o' =>
        simp only [stepV, g, al] at e
        cases e
        refine ⟨h, ?_, R, ⟨rfl, Nat.le_refl _, fun _ _ => rfl⟩, fun _ z => z⟩
        show step den p w ⟨h, gens, drawn, toks, os⟩ ⟨.load a q k, code, pos, stack⟩ = _
        simp only [step, R.get g, al]
        rfl
  | update a q f k =>
    cases g : lkp K a with
    | none => simp only [stepV, g] at e; cases e
    | some o =>
      cases al : alive o with
      | none => simp only [stepV, g, al] at e; cases e
      | some o' =>
        simp only [stepV, g, al] at e
        cases e
        refine ⟨h.update a f, ?_, ⟨?_, fun b u z => ?_⟩, ⟨rfl, ?_, fun b z => ?_⟩, fun b z => ?_⟩
        · show step den p w ⟨h, gens, drawn, toks, os⟩ ⟨.update a q f k, code, pos, stack⟩ = _
          simp only [step, R.get g, al, Option.isSome_some, if_true]
          rfl
        · show (h.objs.modify a f).size = n
          rw [Array.size_modify]
          exact R.size
        · show (h.objs.modify a f)[b]? = some u
          rw [getq_modify]
          change lkp (upk a f K) b = some u at z
          rw [lkp_upk] at z
          by_cases c : b = a
          · subst c
            rw [if_pos rfl, g] at z
            rw [if_pos rfl, R.has _ _ g]
            exact z
          · rw [if_neg c] at z
            rw [if_neg (fun q => c q.symm)]
            exact R.has _ _ z
        · show h.objs.size ≤ (h.objs.modify a f).size
          rw [Array.size_modify]
          exact Nat.le_refl _
        · show (h.objs.modify a f)[b]? = _
          rw [getq_modify]
          change lkp (upk a f K) b = none at z
          rw [lkp_upk] at z
          by_cases c : b = a
          · subst c
            rw [if_pos rfl, g] at z
            cases z
          · rw [if_neg (fun q => c q.symm)]
        · change lkp (upk a f K) b = none at z
          rw [lkp_upk] at z
          by_cases c : b = a
          · subst c
            rw [if_pos rfl, g] at z
            cases z
          · rw [if_neg c] at z
            exact z
  | alloc o k =>
    simp only [stepV] at e
    cases e
    have sz := R.size
    refine ⟨h.push o, ?_, ⟨?_, fun b u z => ?_⟩, ⟨rfl, ?_, fun b z => ?_⟩, fun b z => ?_⟩
    · show step den p w ⟨h, gens, drawn, toks, os⟩ ⟨.alloc o k, code, pos, stack⟩ = _
      simp only [step]
      rw [show h.objs.size = n from R.size]
      rfl
    · show (h.objs.push o).size = n + 1
      rw [Array.size_push]
      exact congrArg (· + 1) R.size
    · show (h.objs.push o)[b]? = some u
      rw [Array.getElem?_push]
      change lkp ((n, o) :: K) b = some u at z
      rw [lkp_cons] at z
      rw [show h.objs.size = n from R.size]
      by_cases c : n = b
      · rw [if_pos c] at z
        rw [if_pos c.symm]
        exact z
      · rw [if_neg c] at z
        rw [if_neg (fun q => c q.symm)]
        exact R.has _ _ z
    · show h.objs.size ≤ (h.objs.push o).size
      rw [Array.size_push]
      exact Nat.le_succ _
    · show (h.objs.push o)[b]? = _
      rw [Array.getElem?_push]
      change lkp ((n, o) :: K) b = none at z
      rw [lkp_cons] at z
      rw [show h.objs.size = n from R.size]
      by_cases c : n = b
      · rw [if_pos c] at z
        cases z
      · rw [if_neg (fun q => c q.symm)]
    · change lkp ((n, o) :: K) b = none at z
      rw [lkp_cons] at z
      by_cases c : n = b
      · rw [if_pos c] at z
        cases z
      · rw [if_neg c] at z
        exact z
  | loadIfAlive a k =>
    cases g : lkp K a with
    | none => simp only [stepV, g] at e; cases e
    | some o =>
      simp only [stepV, g] at e
      cases e
      refine ⟨h, ?_, R, ⟨rfl, Nat.le_refl _, fun _ _ => rfl⟩, fun _ z => z⟩
      show step den p w ⟨h, gens, drawn, toks, os⟩ ⟨.loadIfAlive a k, code, pos, stack⟩ = _
      simp only [step, R.get g]
      rfl
  | _ => exact other (by intros; intro e; cases e) (by intros; intro e; cases e) (by intros; intro e; cases e) (by intros; intro e; cases e) e
end
noncomputable def segRunV (tb : String → Option Builtin) (p : Program) (w : World) (n₀ : Nat) (ann : Option Value) (b : Nat) : Nat → SV → Thread → Option (Flow × SV × Code × Pos)
  | 0, _, _ => none
  | n + 1, s, t => match endAt b t with
    | some f => some (f, s, t.code, t.pos)
    | none => match stepOk n₀ ann t with
      | false => none
      | true => match stepV (denote tb) p w s t with
        | some (s', t') => segRunV tb p w n₀ ann b n s' t'
        | none => none
section
variable {tb : String → Option Builtin} {p : Program} {w : World} {n₀ : Nat} {ann : Option Value} {b : Nat}
theorem segRunV_of : ∀ {n : Nat} {s s' : SV} {t : Thread} {f : Flow} {c : Code} {q : Pos} {h : Heap}, Rep s.K s.n h → segRunV tb p w n₀ ann b n s t = some (f, s', c, q) →
    ∃ h', segRun tb p w n₀ ann b n (s.at h) t = some (f, s'.at h', c, q) ∧ Rep s'.K s'.n h' ∧ Frm h h' s'.K ∧ Kn s.K s'.K
  | 0, _, _, _, _, _, _, _, _, e => by cases e
  | n + 1, s, s', t, f, c, q, h, R, e => by
    unfold segRunV at e
    unfold segRun
    cases he : endAt b t with
    | some x =>
      rw [he] at e
      cases e
      exact ⟨h, rfl, R, ⟨rfl, Nat.le_refl _, fun _ _ => rfl⟩, fun _ z => z⟩
    | none =>
      rw [he] at e
      cases hk : stepOk n₀ ann t with
      | false => rw [hk] at e; cases e
      | true =>
        rw [hk] at e
        cases hs : stepV (denote tb) p w s t with
        | none => rw [hs] at e; cases e
        | some r =>
          obtain ⟨s₂, t₂⟩ := r
          rw [hs] at e
          obtain ⟨h₂, e₂, R₂, F₂, N₂⟩ := stepV_spec R hs
          obtain ⟨h₃, e₃, R₃, F₃, N₃⟩ := segRunV_of R₂ e
          refine ⟨h₃, ?_, R₃, ⟨F₃.life.trans F₂.life, Nat.le_trans F₂.le F₃.le, fun a z => (F₃.same a z).trans (F₂.same a (N₃ a z))⟩, fun a z => N₂ a (N₃ a z)⟩
          dsimp only
          rw [e₂]
          exact e₃
end
/-- a heap: a row of objects, of which a few are put anew -/
noncomputable def ov (hot : List (Nat × Obj)) (L : List Obj) : Nat → List Obj :=
  @List.rec Obj (fun _ => Nat → List Obj) (fun _ => []) (fun o _ ih i => (@Option.rec Obj (fun _ => Obj) o (fun u => u) (lkp hot i)) :: ih (Nat.succ i)) L
theorem ov_at (hot : List (Nat × Obj)) : ∀ (L : List Obj) (k i : Nat), (ov hot L k)[i]? = L[i]?.map fun o => (lkp hot (k + i)).getD o
  | [], k, i => by
    show ([] : List Obj)[i]? = _
    simp
  | o :: L, k, 0 => by
    show (((@Option.rec Obj (fun _ => Obj) o (fun u => u) (lkp hot k)) :: ov hot L (Nat.succ k)) : List Obj)[0]? = _
    rw [Nat.add_zero]
    cases lkp hot k <;> rfl
  | o :: L, k, i + 1 => by
    show (((@Option.rec Obj (fun _ => Obj) o (fun u => u) (lkp hot k)) :: ov hot L (Nat.succ k)) : List Obj)[i + 1]? = _
    rw [List.getElem?_cons_succ, List.getElem?_cons_succ, ov_at hot L (Nat.succ k) i, show Nat.succ k + i = k + (i + 1) by omega]
theorem ov_length (hot : List (Nat × Obj)) : ∀ (L : List Obj) (k : Nat), (ov hot L k).length = L.length
  | [], _ => rfl
  | _ :: L, k => congrArg (· + 1) (ov_length hot L (Nat.succ k))
noncomputable def heapOf (hot : List (Nat × Obj)) (L : List Obj) (life : Life) : Heap := ⟨⟨ov hot L 0⟩, life⟩
noncomputable def prs (A : List Obj) : Nat → List (Nat × Obj) → List (Nat × Obj) :=
  @List.rec Obj (fun _ => Nat → List (Nat × Obj) → List (Nat × Obj)) (fun _ r => r) (fun o _ ih n r => ih (Nat.succ n) ((n, o) :: r)) A
theorem prs_lkp : ∀ (A : List Obj) (n : Nat) (r : List (Nat × Obj)) (a : Nat), lkp (prs A n r) a = if n ≤ a ∧ a < n + A.length then A[a - n]? else lkp r a
  | [], n, r, a => by
    have e : ¬ (n ≤ a ∧ a < n + ([] : List Obj).length) := by
      rintro ⟨h1, h2⟩
      rw [List.length_nil] at h2
      omega
    rw [if_neg e]
    rfl
  | o :: A, n, r, a => by
    show lkp (prs A (Nat.succ n) ((n, o) :: r)) a = _
    rw [prs_lkp A (Nat.succ n) ((n, o) :: r) a, lkp_cons, List.length_cons]
    by_cases h : n = a
    · subst h
      rw [if_neg (by omega), if_pos rfl, if_pos (by omega), Nat.sub_self]
      rfl
    · by_cases q : Nat.succ n ≤ a ∧ a < Nat.succ n + A.length
      · rw [if_pos q, if_pos (by omega), show a - n = (a - Nat.succ n) + 1 by omega, List.getElem?_cons_succ]
      · rw [if_neg q, if_neg h, if_neg (by omega)]
/-- the heap behind a run is told by what is known -/
theorem heap_behind {hot hot' : List (Nat × Obj)} {L A : List Obj} {life : Life} {h' : Heap} (R : Rep (prs A L.length hot') (L.length + A.length) h') (F : Frm (heapOf hot L life) h' (prs A L.length hot')) (N : ∀ a, lkp hot' a = none → lkp hot a = none) (low : ∀ a, (lkp hot' a).isSome = true → a < L.length) :
    h' = heapOf hot' (L ++ A) life := by
  obtain ⟨objs, lf⟩ := h'
  have e1 : lf = life := F.life
  subst e1
  refine congrArg (Heap.mk · lf) ?_
  apply Array.ext_getElem?
  intro i
  refine Eq.trans ?_ (List.getElem?_toArray (xs := ov hot' (L ++ A) 0)).symm
  rw [ov_at, Nat.zero_add]
  have hz : objs.size = L.length + A.length := R.size
  cases c : lkp (prs A L.length hot') i with
  | some o =>
    rw [show objs[i]? = some o from R.has i o c]
    rw [prs_lkp] at c
    by_cases q : L.length ≤ i ∧ i < L.length + A.length
    · rw [if_pos q] at c
      rw [List.getElem?_append_right q.1, c]
      cases z : lkp hot' i with
      | none => rfl
      | some u =>
        have := low i (by rw [z]; rfl)
        omega
    · rw [if_neg q] at c
      have l := low i (by rw [c]; rfl)
      rw [List.getElem?_append_left l, c]
      rw [List.getElem?_eq_getElem l]
      rfl
  | none =>
    rw [show objs[i]? = (heapOf hot L lf).objs[i]? from F.same i c]
    rw [prs_lkp] at c
    by_cases q : L.length ≤ i ∧ i < L.length + A.length
    · rw [if_pos q] at c
      rw [List.getElem?_eq_none_iff] at c
      omega
    · rw [if_neg q] at c
      refine (List.getElem?_toArray (xs := ov hot L 0)).trans ?_
      rw [ov_at, Nat.zero_add, N i c, c]
      by_cases l : i < L.length
      · rw [List.getElem?_append_left l]
      · rw [List.getElem?_eq_none (by omega), List.getElem?_eq_none (by rw [List.length_append]; omega)]
def iV (n : Nat) : Value := .int (Int.ofNat n) 0
def tpO (xs : List Value) : Obj := ⟨.type "tuple", none, .seq ⟨xs⟩ 0, #[]⟩
def fsO (c : Value) (xs : List Value) : Obj := ⟨c, none, .fields ⟨xs⟩, #[]⟩
def tbO : Obj := ⟨.none, none, .fields #[], #[]⟩
def txs : List Str → Nat → List Value
  | [], _ => []
  | x :: l, k => .str x k :: txs l (k + 1)
def flO : Str := "/claim/cut.py"
structure DF where
  name : Str
  args : Arguments
  body : List Stmt
  scope : Scope
  pos : Pos
def dfOf : Stmt → DF
  | .FunctionDef n a b _ _ _ s _ _ p => ⟨n, a, b, s, p⟩
  | _ => ⟨Str.empty, ⟨[], [], none, [], [], none, []⟩, [], ⟨.module, [], false, false, []⟩, ⟨0, 0, 0, 0⟩⟩
def flags (sc : Scope) : Nat := 3 + (match sc.isGenerator with | true => 32 | false => 0)
/-- a def: its free names, whether its locals are known; the address of its first object, the first mark -/
def dfO (md : Value) (qual : Str) (fr : List Str) (clo : List (Str × Addr)) (ct : Value) (lk : Bool) (n tk : Nat) (d : DF) : List Obj :=
  let ps := (d.args.posonlyargs ++ d.args.args ++ d.args.kwonlyargs ++ d.args.vararg.toList ++ d.args.kwarg.toList).map (·.arg)
  let l1 : List Str := match lk with | true => (d.scope.names.filter fun (n, k) => k == .local || (k == .cell && ps.contains n)).map (·.1) | false => []
  let l2 : List Str := match lk with | true => (d.scope.names.filter (·.2 == .cell)).map (·.1) | false => []
  let k := tk + 3 + fr.length + l1.length + l2.length
  let m := match lk with | true => n + 2 | false => n
  let cd := m + 3
  [tpO (txs fr (tk + 3)), tbO] ++ ((match lk with | true => [tpO (txs l1 (tk + 3 + fr.length)), tpO (txs l2 (tk + 3 + fr.length + l1.length))] | false => []) ++
  [⟨.none, none, .func { name := d.name, qualname := qual, params := d.args, body := .stmts d.body, scope := d.scope, globals := builtinsNs, closure := [], defaults := .none, kwdefaults := .none }, #[]⟩,
   fsO (.type "code") [.str d.name tk, .str qual (tk + 1), .str flO (tk + 2), iV d.pos.line, iV (d.args.posonlyargs.length + d.args.args.length), iV 0, iV 0, iV (flags d.scope), .ref n, .bool true, iV 457, .ref (n + 1), .none,
     (match lk with | true => .ref (n + 2) | false => .none), (match lk with | true => .ref (n + 3) | false => .none), .ref (m + 2), iV k, iV d.pos.line, .str flO (k + 1)],
   ⟨.type "function", none, .func { name := d.name, qualname := qual, params := d.args, body := .stmts d.body, scope := d.scope, globals := mainGlobals, closure := clo, defaults := .none, kwdefaults := .none, pyModule := md, code := .ref cd, closureTuple := ct }, #[]⟩])
def ent (P : Params) (x : Str) (k : Nat) (v : Value) : DictEntry := ⟨PyData.keyHash P x, .str x k, v⟩
structure CF where
  name : Str
  body : List Stmt
  sas : List Str
  pos : Pos
def cfOf : Stmt → CF
  | .ClassDef n _ _ b _ _ _ _ _ sa p => ⟨n, b, sa, p⟩
  | _ => ⟨Str.empty, [], [], ⟨0, 0, 0, 0⟩⟩
/-- a method: whether its locals are known, its first address (behind the closure's tuple) and mark -/
structure MF where
  lk : Bool
  n : Nat
  tk : Nat
  f : Nat      -- the function's address
  k : Nat      -- the mark of its key
/-- a class: its base values, the rest of its mro, whether it has a cell, a __dict__, a __weakref__, a __hash__; its maker -/
structure CK where
  tp : List Value
  bs : List Value
  mro : List Value
  cell : Bool
  dct : Bool
  weak : Bool
  hsh : Bool
  new : String
  ms : List MF
def mtsO (md : Value) (q : Str) (cell : Option Nat) : List Stmt → List MF → List Obj
  | st :: b, m :: ms => (match cell with
      | some c => tpO [.ref c] :: dfO md (q ++ ("." : Str) ++ (dfOf st).name) ["__class__"] [("__class__", c)] (.ref (m.n - 1)) m.lk m.n m.tk (dfOf st)
      | none => dfO md (q ++ ("." : Str) ++ (dfOf st).name) [] [] .none m.lk m.n m.tk (dfOf st)) ++ mtsO md q cell b ms
  | _, _ => []
def mEnt (P : Params) : List Stmt → List MF → List DictEntry
  | st :: b, m :: ms => ent P (dfOf st).name m.k (.ref m.f) :: mEnt P b ms
  | _, _ => []
def mTab : List Stmt → List MF → List Value
  | st :: b, m :: ms => iV (dfOf st).pos.line :: iV (dfOf st).pos.col :: .ref (m.f - 1) :: mTab b ms
  | _, _ => []
def clO (P : Params) (md : Value) (ck : CK) (n tk : Nat) (c : CF) : List Obj :=
  let h := match ck.cell with | true => n + 4 | false => n + 3   -- the code's first object
  let b := h + 4                                                  -- behind the frame
  let nm := ck.ms.foldl (fun a m => m.f + 1) b                    -- behind the methods
  let k0 := tk + 12
  let k1 := ck.ms.foldl (fun a m => m.k + 1) k0                   -- behind the methods' marks
  let k2 := k1 + c.sas.length                                     -- the key of the static names
  let cls := nm + 2
  let eM := ent P ("__module__" : Str) (tk + 7) md
  let eF := ent P ("__firstlineno__" : Str) (tk + 11) (.int (Int.ofNat c.pos.line) (tk + 10))
  let eS := ent P ("__static_attributes__" : Str) k2 (.ref nm)
  let ms := mEnt P c.body ck.ms
  let k3 := match ck.cell with | true => k2 + 2 | false => k2 + 1
  let k4 := match ck.dct with | true => k3 + 2 | false => k3
  let k5 := match ck.weak with | true => k4 + 2 | false => k4
  let a1 := cls + 1
  let a2 := match ck.dct with | true => a1 + 1 | false => a1
  tpO ck.tp :: fsO (.type "builtin_function_or_method") [.builtin "type.__prepare__", .type "type"] ::
  ⟨.type "dict", none, .dict ⟨eM :: ent P ("__qualname__" : Str) (tk + 9) (.str c.name (tk + 8)) :: eF :: (ms ++ (eS :: (match ck.cell with | true => [ent P ("__classcell__" : Str) (k2 + 1) (.ref (n + 3))] | false => [])))⟩
     (match ck.cell with | true => ck.ms.length + 5 | false => ck.ms.length + 4), #[]⟩ ::
  ((match ck.cell with | true => [⟨.type "cell", none, .cell (some (.ref cls)), #[]⟩] | false => []) ++
  (tpO [] :: fsO .none (mTab c.body ck.ms) ::
   fsO (.type "code") [.str c.name (tk + 2), .str c.name (tk + 3), .str flO (tk + 4), iV c.pos.line, iV 0, iV 0, iV 0, iV 0, .ref h, .bool false, iV 457, .ref (h + 1), .none, .none, .none, .none, iV (tk + 5), iV c.pos.line, .str flO (tk + 6)] ::
   ⟨.type "frame", none, .plain, ⟨[some (.ref (h + 2)), some (.ref mainGlobals), some (.ref (n + 2)), none, some md, none, some (.ref builtinsNs)]⟩⟩ ::
   (mtsO md c.name (match ck.cell with | true => some (n + 3) | false => none) c.body ck.ms ++
   (tpO (txs c.sas k1) ::
    ⟨.type "dict", none, .dict ⟨eM :: eF :: (ms ++ (eS :: ((match ck.dct with | true => [ent P ("__dict__" : Str) (k3 + 1) (.ref a1)] | false => []) ++ ((match ck.weak with | true => [ent P ("__weakref__" : Str) (k4 + 1) (.ref a2)] | false => []) ++
       (ent P ("__doc__" : Str) k5 .none :: (match ck.hsh with | true => [ent P ("__hash__" : Str) (k5 + 1) .none] | false => []))))))⟩
       ((match ck.cell with | true => 2 | false => 1) + (match ck.dct with | true => 1 | false => 0) + (match ck.weak with | true => 1 | false => 0) + (match ck.hsh with | true => 2 | false => 1)), #[]⟩ ::
    ⟨.type "type", none, .cls { name := c.name, bases := ck.bs, mro := .ref cls :: ck.mro, ns := nm + 1, qualname := c.name }, ⟨[(match ck.tp with | [] => none | _ => some (.ref n)), none, some (.str c.name tk), some (.str c.name (tk + 8)), some (.builtin ck.new), some (.bool true)]⟩⟩ ::
    ((match ck.dct with | true => [fsO (.type "getset_descriptor") [.str ("__dict__" : Str) k3, .ref cls, .builtin "function.__dict__", .builtin "function.__dict__#set"]] | false => []) ++
     ((match ck.weak with | true => [fsO (.type "getset_descriptor") [.str ("__weakref__" : Str) k4, .ref cls, .builtin "ExceptionGroup.__weakref__", .none]] | false => []) ++
      [fsO (.type "super") [.ref cls, .ref cls, .ref cls], fsO (.type "builtin_function_or_method") [.builtin "object.__init_subclass__", .ref cls]]))))))
inductive Sp where
  | d (md : Value) (lk : Bool) (n tk : Nat)
  | c (md : Value) (ck : CK) (n tk : Nat)
  | a
def oneO (P : Params) : Sp → Stmt → List Obj
  | .d md lk n tk, st => dfO md (dfOf st).name [] [] .none lk n tk (dfOf st)
  | .c md ck n tk, st => clO P md ck n tk (cfOf st)
  | .a, _ => []
noncomputable def app {α : Type} (x y : List α) : List α := @List.rec α (fun _ => List α) y (fun a _ ih => a :: ih) x
theorem app_eq {α : Type} (x y : List α) : app x y = x ++ y := by
  induction x with
  | nil => rfl
  | cons a x ih => exact congrArg (a :: ·) ih
noncomputable def objsO (P : Params) (ss : List Sp) : List Stmt → List Obj :=
  @List.rec Sp (fun _ => List Stmt → List Obj) (fun _ => []) (fun s _ ih l => @List.rec Stmt (fun _ => List Obj) [] (fun st r _ => app (oneO P s st) (ih r)) l) ss
def excK (m : MF) : CK := ⟨[.ref 70], [.ref 70], [.ref 70, .type "ValueError", .type "Exception", .type "BaseException", .type "object"], true, false, false, false, "ValueError.__new__", [m]⟩
def wlkK : CK := ⟨[.type "ValueError"], [.type "ValueError"], [.type "ValueError", .type "Exception", .type "BaseException", .type "object"], false, false, true, false, "ValueError.__new__", []⟩
def plnK (ms : List MF) : CK := ⟨[], [.type "object"], [.type "object"], false, true, true, true, "object.__new__", ms⟩
def life0 : Life := {}
def drawn0 : Drawn := {}
def ps0 : Pos := ⟨0, 0, 0, 0⟩
def envM (p : Program) : Env := { scope := p.main.scope, locals := mainNs, globals := mainNs, cells := [], code := .ref 52, frame := some 53 }
def cdM (p : Program) : Code := .body (behindTheImports p) (envM p)
def stsO (p : Program) (a k : Nat) : List Stmt := ((behindTheImports p).drop a).take k
noncomputable def PV (p : Program) (w : World) (os : OsState) (a k N n tk : Nat) (hot : List (Nat × Obj)) (q : Pos) : Option (Flow × SV × Code × Pos) :=
  segRunV treeTable p w 50 (some (.ref 6)) 1 N ⟨hot, n, #[], drawn0, tk, os⟩ (piecesOf (stsO p a k) (envM p) (cdM p) q [topFrame ps0])
noncomputable def RV (p : Program) (w : World) (os : OsState) (a k : Nat) (ss : List Sp) (n n' tk' : Nat) (hot' : List (Nat × Obj)) (q' : Pos) : Option (Flow × SV × Code × Pos) :=
  some (.next, ⟨prs (objsO w.params ss (stsO p a k)) n hot', n', #[], drawn0, tk', os⟩, cdM p, q')
noncomputable def lowB (n : Nat) (hot hot' : List (Nat × Obj)) : Bool :=
  hot'.all (fun x => Nat.blt x.1 n) && hot.all fun x => hot'.any fun y => Nat.beq x.1 y.1
theorem lkp_mem {K : List (Nat × Obj)} {a : Nat} {o : Obj} (h : lkp K a = some o) : ∃ p ∈ K, p.1 = a := by
  induction K with
  | nil => rw [lkp_nil] at h; cases h
  | cons p K ih =>
    rw [lkp_cons] at h
    by_cases q : p.1 = a
    · exact ⟨p, List.mem_cons_self .., q⟩
    · rw [if_neg q] at h
      obtain ⟨x, hx, e⟩ := ih h
      exact ⟨x, List.mem_cons_of_mem _ hx, e⟩
theorem lkp_some {K : List (Nat × Obj)} {p : Nat × Obj} (h : p ∈ K) : (lkp K p.1).isSome = true := by
  induction K with
  | nil => cases h
  | cons x K ih =>
    rw [lkp_cons]
    by_cases q : x.1 = p.1
    · rw [if_pos q]; rfl
    · rw [if_neg q]
      rcases List.mem_cons.mp h with rfl | h
      · exact absurd rfl q
      · exact ih h
theorem low_of {n : Nat} {hot hot' : List (Nat × Obj)} (h : lowB n hot hot' = true) : (∀ a, lkp hot' a = none → lkp hot a = none) ∧ ∀ a, (lkp hot' a).isSome = true → a < n := by
  unfold lowB at h
  obtain ⟨h1, h2⟩ := Bool.and_eq_true_iff.mp h
  refine ⟨fun a e => ?_, fun a e => ?_⟩
  · cases c : lkp hot a with
    | none => rfl
    | some o =>
      obtain ⟨p, hp, rfl⟩ := lkp_mem c
      obtain ⟨y, hy, e2⟩ := List.any_eq_true.mp (List.all_eq_true.mp h2 p hp)
      have e3 : p.1 = y.1 := Nat.eq_of_beq_eq_true e2
      have := lkp_some hy
      rw [← e3, e] at this
      cases this
  · obtain ⟨o, e⟩ := Option.isSome_iff_exists.mp e
    obtain ⟨p, hp, rfl⟩ := lkp_mem e
    exact Nat.le_of_ble_eq_true (List.all_eq_true.mp h1 p hp)
/-- pieces are joined -/
theorem glue {p : Program} {w : World} {os : OsState} {a k N n tk tk' n' M : Nat} {hot hot' : List (Nat × Obj)} {q q' : Pos} {ss : List Sp} {L : List Obj} {r : Shared}
    (run : PV p w os a k N n tk hot q = RV p w os a k ss n n' tk' hot' q') (hL : L.length = n) (hA : (objsO w.params ss (stsO p a k)).length + n = n') (lo : lowB n hot hot' = true)
    (go : topRun treeTable p w 50 (some (.ref 6)) M ⟨heapOf hot' (L ++ objsO w.params ss (stsO p a k)) life0, #[], drawn0, tk', os⟩ (restOf ((behindTheImports p).drop (a + k)) (envM p) (cdM p) q' [topFrame ps0]) = some r) :
    topRun treeTable p w 50 (some (.ref 6)) (N + M) ⟨heapOf hot L life0, #[], drawn0, tk, os⟩ (restOf ((behindTheImports p).drop a) (envM p) (cdM p) q [topFrame ps0]) = some r := by
  subst hL
  have rep : ∀ x ∈ hot, x.1 < L.length := fun x hx => by
    unfold lowB at lo
    obtain ⟨h1, h2⟩ := Bool.and_eq_true_iff.mp lo
    obtain ⟨y, hy, e2⟩ := List.any_eq_true.mp (List.all_eq_true.mp h2 x hx)
    rw [show x.1 = y.1 from Nat.eq_of_beq_eq_true e2]
    exact Nat.le_of_ble_eq_true (List.all_eq_true.mp h1 y hy)
  have R0 : Rep hot L.length (heapOf hot L life0) := by
    refine ⟨?_, fun b o e => ?_⟩
    · show (ov hot L 0).length = _
      exact ov_length ..
    · refine (List.getElem?_toArray (xs := ov hot L 0)).trans ?_
      obtain ⟨x, hx, ex⟩ := lkp_mem e
      have lt := rep x hx
      rw [ex] at lt
      rw [ov_at, Nat.zero_add, e, List.getElem?_eq_getElem lt]
      rfl
  unfold PV RV at run
  obtain ⟨h', e, R, F, Kn'⟩ := segRunV_of (h := heapOf hot L life0) R0 run
  obtain ⟨l1, l2⟩ := low_of lo
  dsimp only at R F Kn' e
  rw [Nat.add_comm] at hA
  rw [← hA] at R
  have eh := heap_behind R F l1 l2
  subst eh
  have := piece_app (rest := (behindTheImports p).drop (a + k)) e go
  have d : stsO p a k ++ (behindTheImports p).drop (a + k) = (behindTheImports p).drop a := by
    unfold stsO
    rw [← List.drop_drop]
    exact List.take_append_drop ..
  rw [d] at this
  exact this
/-- an object more is known -/
theorem heap_more {hot : List (Nat × Obj)} {L : List Obj} {life : Life} {a : Nat} {o : Obj} (h : lkp hot a = none) (e : L[a]? = some o) : heapOf ((a, o) :: hot) L life = heapOf hot L life := by
  refine congrArg (Heap.mk · life) ?_
  apply Array.ext_getElem?
  intro i
  refine (List.getElem?_toArray (xs := ov ((a, o) :: hot) L 0)).trans (Eq.trans ?_ (List.getElem?_toArray (xs := ov hot L 0)).symm)
  rw [ov_at, ov_at, Nat.zero_add, lkp_cons]
  by_cases c : a = i
  · subst c
    rw [if_pos rfl, h, e]
    rfl
  · rw [if_neg c]
theorem ov_app (hot : List (Nat × Obj)) (X Y : List Obj) (h : ∀ a, (lkp hot a).isSome = true → a < X.length) : ov hot (X ++ Y) 0 = ov hot X 0 ++ Y := by
  apply List.ext_getElem?
  intro i
  rw [ov_at, Nat.zero_add]
  by_cases l : i < X.length
  · rw [List.getElem?_append_left l, List.getElem?_append_left (by rw [ov_length]; exact l), ov_at, Nat.zero_add]
  · rw [List.getElem?_append_right (by omega), List.getElem?_append_right (by rw [ov_length]; omega), ov_length]
    have z : lkp hot i = none := by
      cases c : lkp hot i with
      | none => rfl
      | some o => exact absurd (h i (by rw [c]; rfl)) l
    rw [z]
    cases Y[i - X.length]? <;> rfl
noncomputable def BV (p : Program) (w : World) (s : Shared) : Option (Flow × Shared × Code × Pos) := segRun treeTable p w 50 (some (.ref 6)) 1 1 s (blockOf (behindTheImports p) (envM p) (cdM p) ps0 [topFrame ps0])
noncomputable def BR (p : Program) (s : Shared) : Option (Flow × Shared × Code × Pos) := some (.next, s, cdM p, ps0)
theorem mentionBV : (fun (_ : Program → World → Shared → Option (Flow × Shared × Code × Pos)) (_ : Program → Shared → Option (Flow × Shared × Code × Pos)) => true) BV BR = true := by k_qdec
noncomputable def OV (p : Program) (w : World) : Option Shared := importEnds treeTable (opening p) w 1600 (start (opening p)).1 (start (opening p)).2
theorem mentionO : (fun (_ : Program → World → Option Shared) => true) OV = true := by k_qdec
theorem mentionA : (fun (_ : Program → World → OsState → Nat → Nat → Nat → Nat → Nat → List (Nat × Obj) → Pos → Option (Flow × SV × Code × Pos)) => true) PV = true := by k_qdec
theorem mentionB : (fun (_ : Program → World → OsState → Nat → Nat → List Sp → Nat → Nat → Nat → List (Nat × Obj) → Pos → Option (Flow × SV × Code × Pos)) => true) RV = true := by k_qdec
end RWk
end
section
namespace RWk
open PySem PySem.W
abbrev PG : Program := PySem.Challenge.pw_ringwalkers_k00_errors_made
noncomputable def z0 (P : Params) : Obj := ⟨.type "dict", none, .dict ⟨[ent P (Str.ofString "__name__") 1 (.str (Str.ofString "builtins") 160), ent P (Str.ofString "__doc__") 2 (.builtin "builtins.__doc__:str#opaque"), ent P (Str.ofString "__package__") 3 (.builtin "builtins.__package__:str#opaque"), ent P (Str.ofString "__loader__") 4 (.builtin "builtins.__loader__:shared#opaque"), ent P (Str.ofString "__spec__") 5 (.builtin "builtins.__spec__#opaque"), ent P (Str.ofString "__build_class__") 6 (.builtin "__build_class__"), ent P (Str.ofString "__import__") 7 (.builtin "__import__"), ent P (Str.ofString "abs") 8 (.builtin "abs"), ent P (Str.ofString "all") 9 (.builtin "all"), ent P (Str.ofString "any") 10 (.builtin "any"), ent P (Str.ofString "ascii") 11 (.builtin "ascii"), ent P (Str.ofString "bin") 12 (.builtin "bin"), ent P (Str.ofString "breakpoint") 13 (.builtin "breakpoint"), ent P (Str.ofString "callable") 14 (.builtin "callable"), ent P (Str.ofString "chr") 15 (.builtin "chr"), ent P (Str.ofString "compile") 16 (.builtin "compile"), ent P (Str.ofString "delattr") 17 (.builtin "delattr"), ent P (Str.ofString "dir") 18 (.builtin "dir"), ent P (Str.ofString "divmod") 19 (.builtin "divmod"), ent P (Str.ofString "eval") 20 (.builtin "eval"), ent P (Str.ofString "exec") 21 (.builtin "exec"), ent P (Str.ofString "format") 22 (.builtin "format"), ent P (Str.ofString "getattr") 23 (.builtin "getattr"), ent P (Str.ofString "globals") 24 (.builtin "globals"), ent P (Str.ofString "hasattr") 25 (.builtin "hasattr"), ent P (Str.ofString "hash") 26 (.builtin "hash"), ent P (Str.ofString "hex") 27 (.builtin "hex"), ent P (Str.ofString "id") 28 (.builtin "id"), ent P (Str.ofString "input") 29 (.builtin "input"), ent P (Str.ofString "isinstance") 30 (.builtin "isinstance"), ent P (Str.ofString "issubclass") 31 (.builtin "issubclass"), ent P (Str.ofString "iter") 32 (.builtin "iter"), ent P (Str.ofString "aiter") 33 (.builtin "aiter"), ent P (Str.ofString "len") 34 (.builtin "len"), ent P (Str.ofString "locals") 35 (.builtin "locals"), ent P (Str.ofString "max") 36 (.builtin "max"), ent P (Str.ofString "min") 37 (.builtin "min"), ent P (Str.ofString "next") 38 (.builtin "next"), ent P (Str.ofString "anext") 39 (.builtin "anext"), ent P (Str.ofString "oct") 40 (.builtin "oct"), ent P (Str.ofString "ord") 41 (.builtin "ord"), ent P (Str.ofString "pow") 42 (.builtin "pow"), ent P (Str.ofString "print") 43 (.builtin "print"), ent P (Str.ofString "repr") 44 (.builtin "repr"), ent P (Str.ofString "round") 45 (.builtin "round"), ent P (Str.ofString "setattr") 46 (.builtin "setattr"), ent P (Str.ofString "sorted") 47 (.builtin "sorted"), ent P (Str.ofString "sum") 48 (.builtin "sum"), ent P (Str.ofString "vars") 49 (.builtin "vars"), ent P (Str.ofString "None") 50 (.none), ent P (Str.ofString "Ellipsis") 51 (.ellipsis), ent P (Str.ofString "NotImplemented") 52 (.notImplemented), ent P (Str.ofString "False") 53 (.bool false), ent P (Str.ofString "True") 54 (.bool true), ent P (Str.ofString "bool") 55 (.type "bool"), ent P (Str.ofString "memoryview") 56 (.type "memoryview"), ent P (Str.ofString "bytearray") 57 (.type "bytearray"), ent P (Str.ofString "bytes") 58 (.type "bytes"), ent P (Str.ofString "classmethod") 59 (.type "classmethod"), ent P (Str.ofString "complex") 60 (.type "complex"), ent P (Str.ofString "dict") 61 (.type "dict"), ent P (Str.ofString "enumerate") 62 (.type "enumerate"), ent P (Str.ofString "filter") 63 (.type "filter"), ent P (Str.ofString "float") 64 (.type "float"), ent P (Str.ofString "frozenset") 65 (.type "frozenset"), ent P (Str.ofString "property") 66 (.type "property"), ent P (Str.ofString "int") 67 (.type "int"), ent P (Str.ofString "list") 68 (.type "list"), ent P (Str.ofString "map") 69 (.type "map"), ent P (Str.ofString "object") 70 (.type "object"), ent P (Str.ofString "range") 71 (.type "range"), ent P (Str.ofString "reversed") 72 (.type "reversed"), ent P (Str.ofString "set") 73 (.type "set"), ent P (Str.ofString "slice") 74 (.type "slice"), ent P (Str.ofString "staticmethod") 75 (.type "staticmethod"), ent P (Str.ofString "str") 76 (.type "str"), ent P (Str.ofString "super") 77 (.type "super"), ent P (Str.ofString "tuple") 78 (.type "tuple"), ent P (Str.ofString "type") 79 (.type "type"), ent P (Str.ofString "zip") 80 (.type "zip"), ent P (Str.ofString "__debug__") 81 (.bool true), ent P (Str.ofString "BaseException") 82 (.type "BaseException"), ent P (Str.ofString "BaseExceptionGroup") 83 (.type "BaseExceptionGroup"), ent P (Str.ofString "Exception") 84 (.type "Exception"), ent P (Str.ofString "GeneratorExit") 85 (.type "GeneratorExit"), ent P (Str.ofString "KeyboardInterrupt") 86 (.type "KeyboardInterrupt"), ent P (Str.ofString "SystemExit") 87 (.type "SystemExit"), ent P (Str.ofString "ArithmeticError") 88 (.type "ArithmeticError"), ent P (Str.ofString "AssertionError") 89 (.type "AssertionError"), ent P (Str.ofString "AttributeError") 90 (.type "AttributeError"), ent P (Str.ofString "BufferError") 91 (.type "BufferError"), ent P (Str.ofString "EOFError") 92 (.type "EOFError"), ent P (Str.ofString "ImportError") 93 (.type "ImportError"), ent P (Str.ofString "LookupError") 94 (.type "LookupError"), ent P (Str.ofString "MemoryError") 95 (.type "MemoryError"), ent P (Str.ofString "NameError") 96 (.type "NameError"), ent P (Str.ofString "OSError") 97 (.type "OSError"), ent P (Str.ofString "ReferenceError") 98 (.type "ReferenceError"), ent P (Str.ofString "RuntimeError") 99 (.type "RuntimeError"), ent P (Str.ofString "StopAsyncIteration") 100 (.type "StopAsyncIteration"), ent P (Str.ofString "StopIteration") 101 (.type "StopIteration"), ent P (Str.ofString "SyntaxError") 102 (.type "SyntaxError"), ent P (Str.ofString "SystemError") 103 (.type "SystemError"), ent P (Str.ofString "TypeError") 104 (.type "TypeError"), ent P (Str.ofString "ValueError") 105 (.type "ValueError"), ent P (Str.ofString "Warning") 106 (.type "Warning"), ent P (Str.ofString "FloatingPointError") 107 (.type "FloatingPointError"), ent P (Str.ofString "OverflowError") 108 (.type "OverflowError"), ent P (Str.ofString "ZeroDivisionError") 109 (.type "ZeroDivisionError"), ent P (Str.ofString "BytesWarning") 110 (.type "BytesWarning"), ent P (Str.ofString "DeprecationWarning") 111 (.type "DeprecationWarning"), ent P (Str.ofString "EncodingWarning") 112 (.type "EncodingWarning"), ent P (Str.ofString "FutureWarning") 113 (.type "FutureWarning"), ent P (Str.ofString "ImportWarning") 114 (.type "ImportWarning"), ent P (Str.ofString "PendingDeprecationWarning") 115 (.type "PendingDeprecationWarning"), ent P (Str.ofString "ResourceWarning") 116 (.type "ResourceWarning"), ent P (Str.ofString "RuntimeWarning") 117 (.type "RuntimeWarning"), ent P (Str.ofString "SyntaxWarning") 118 (.type "SyntaxWarning"), ent P (Str.ofString "UnicodeWarning") 119 (.type "UnicodeWarning"), ent P (Str.ofString "UserWarning") 120 (.type "UserWarning"), ent P (Str.ofString "BlockingIOError") 121 (.type "BlockingIOError"), ent P (Str.ofString "ChildProcessError") 122 (.type "ChildProcessError"), ent P (Str.ofString "ConnectionError") 123 (.type "ConnectionError"), ent P (Str.ofString "FileExistsError") 124 (.type "FileExistsError"), ent P (Str.ofString "FileNotFoundError") 125 (.type "FileNotFoundError"), ent P (Str.ofString "InterruptedError") 126 (.type "InterruptedError"), ent P (Str.ofString "IsADirectoryError") 127 (.type "IsADirectoryError"), ent P (Str.ofString "NotADirectoryError") 128 (.type "NotADirectoryError"), ent P (Str.ofString "PermissionError") 129 (.type "PermissionError"), ent P (Str.ofString "ProcessLookupError") 130 (.type "ProcessLookupError"), ent P (Str.ofString "TimeoutError") 131 (.type "TimeoutError"), ent P (Str.ofString "IndentationError") 132 (.type "IndentationError"), ent P (Str.ofString "_IncompleteInputError") 133 (.type "_IncompleteInputError"), ent P (Str.ofString "IndexError") 134 (.type "IndexError"), ent P (Str.ofString "KeyError") 135 (.type "KeyError"), ent P (Str.ofString "ModuleNotFoundError") 136 (.type "ModuleNotFoundError"), ent P (Str.ofString "NotImplementedError") 137 (.type "NotImplementedError"), ent P (Str.ofString "PythonFinalizationError") 138 (.type "PythonFinalizationError"), ent P (Str.ofString "RecursionError") 139 (.type "RecursionError"), ent P (Str.ofString "UnboundLocalError") 140 (.type "UnboundLocalError"), ent P (Str.ofString "UnicodeError") 141 (.type "UnicodeError"), ent P (Str.ofString "BrokenPipeError") 142 (.type "BrokenPipeError"), ent P (Str.ofString "ConnectionAbortedError") 143 (.type "ConnectionAbortedError"), ent P (Str.ofString "ConnectionRefusedError") 144 (.type "ConnectionRefusedError"), ent P (Str.ofString "ConnectionResetError") 145 (.type "ConnectionResetError"), ent P (Str.ofString "TabError") 146 (.type "TabError"), ent P (Str.ofString "UnicodeDecodeError") 147 (.type "UnicodeDecodeError"), ent P (Str.ofString "UnicodeEncodeError") 148 (.type "UnicodeEncodeError"), ent P (Str.ofString "UnicodeTranslateError") 149 (.type "UnicodeTranslateError"), ent P (Str.ofString "ExceptionGroup") 150 (.type "ExceptionGroup"), ent P (Str.ofString "EnvironmentError") 151 (.type "OSError"), ent P (Str.ofString "IOError") 152 (.type "OSError"), ent P (Str.ofString "open") 153 (.builtin "open"), ent P (Str.ofString "quit") 154 (.builtin "builtins.quit#opaque"), ent P (Str.ofString "exit") 155 (.builtin "builtins.exit#opaque"), ent P (Str.ofString "copyright") 156 (.builtin "builtins.copyright#opaque"), ent P (Str.ofString "credits") 157 (.builtin "builtins.credits#opaque"), ent P (Str.ofString "license") 158 (.builtin "builtins.license#opaque"), ent P (Str.ofString "help") 159 (.builtin "builtins.help#opaque")]⟩ 159, ⟨[]⟩⟩
noncomputable def z1 (P : Params) : Obj := ⟨.type "dict", none, .dict ⟨[ent P (Str.ofString "builtins") 162 (.ref 4), ent P (Str.ofString "__main__") 163 (.ref 5), ent P (Str.ofString "itertools") 246 (.ref 13), ent P (Str.ofString "math") 366 (.ref 31)]⟩ 4, ⟨[]⟩⟩
noncomputable def z2 (P : Params) : Obj := ⟨.none, none, .dict ⟨[ent P (Str.ofString "import.loaded.itertools") 185 (.bool true), ent P (Str.ofString "class._frozen_importlib.BuiltinImporter") 187 (.ref 15), ent P (Str.ofString "watched.import") 208 (.ref 19), ent P (Str.ofString "class._frozen_importlib.ModuleSpec") 218 (.ref 23), ent P (Str.ofString "sys.modules.booked-epoch") 247 (.int 4 0), ent P (Str.ofString "sys.modules.landed.itertools") 248 (.bool true), ent P (Str.ofString "import.later-laid.itertools") 279 (.bool true), ent P (Str.ofString "watched.library") 281 (.ref 28), ent P (Str.ofString "watched.library-objects") 0 (.str ⟨⟨[nat_lit 13, nat_lit 31]⟩⟩ 0), ent P (Str.ofString "watched.library-deep.itertools") 282 (.str ⟨⟨[nat_lit 4, nat_lit 0, nat_lit 0, nat_lit 12, nat_lit 4, nat_lit 0, nat_lit 0, nat_lit 12, nat_lit 4, nat_lit 0, nat_lit 0, nat_lit 3, nat_lit 4, nat_lit 0, nat_lit 0, nat_lit 12, nat_lit 8, nat_lit 4, nat_lit 100, nat_lit 105, nat_lit 99, nat_lit 116, nat_lit 2]⟩⟩ 0), ent P (Str.ofString "import.loaded.math") 295 (.bool true), ent P (Str.ofString "class._frozen_importlib_external._LoaderBasics") 300 (.ref 34), ent P (Str.ofString "class._frozen_importlib_external.FileLoader") 316 (.ref 39), ent P (Str.ofString "class._frozen_importlib_external.ExtensionFileLoader") 337 (.ref 44), ent P (Str.ofString "import.later-laid.math") 443 (.bool true)]⟩ 15, ⟨[]⟩⟩
noncomputable def z3 (P : Params) : Obj := ⟨.type "dict", none, .dict ⟨[ent P (Str.ofString "__name__") 165 (.str (Str.ofString "__main__") 164), ent P (Str.ofString "__doc__") 166 (.none), ent P (Str.ofString "__package__") 167 (.none), ent P (Str.ofString "__loader__") 168 (.builtin "__main__.__loader__#opaque"), ent P (Str.ofString "__spec__") 169 (.none), ent P (Str.ofString "__annotations__") 170 (.ref 6), ent P (Str.ofString "__builtins__") 171 (.ref 4), ent P (Str.ofString "__file__") 173 (.str (Str.ofString "/claim/cut.py") 172), ent P (Str.ofString "__cached__") 174 (.none), ent P (Str.ofString "permutations") 288 (.type "itertools.permutations"), ent P (Str.ofString "comb") 450 (.builtin "math.comb"), ent P (Str.ofString "factorial") 453 (.builtin "math.factorial"), ent P (Str.ofString "gcd") 456 (.builtin "math.gcd")]⟩ 13, ⟨[]⟩⟩
noncomputable def z4 (P : Params) : Obj := ⟨.type "module", (some 0), .plain, ⟨[]⟩⟩
noncomputable def z5 (P : Params) : Obj := ⟨.type "module", (some 3), .plain, ⟨[]⟩⟩
noncomputable def z6 (P : Params) : Obj := ⟨.type "dict", none, .dict ⟨[]⟩ 0, ⟨[]⟩⟩
noncomputable def z7 (P : Params) : Obj := ⟨.type "tuple", none, .seq ⟨[]⟩ 0, ⟨[]⟩⟩
noncomputable def z8 (P : Params) : Obj := ⟨.none, none, .fields ⟨[]⟩, ⟨[]⟩⟩
noncomputable def z9 (P : Params) : Obj := ⟨.type "code", none, .fields ⟨[.str (Str.ofString "<module>") 176, .str (Str.ofString "<module>") 177, .str (Str.ofString "/claim/cut.py") 178, .int 1 0, .int 0 0, .int 0 0, .int 0 0, .int 0 0, .ref 7, .bool false, .int 175 0, .ref 8, .none, .none, .none, .none, .int 179 0, .int 1 0, .str (Str.ofString "/claim/cut.py") 180]⟩, ⟨[]⟩⟩
noncomputable def z10 (P : Params) : Obj := ⟨.type "frame", none, .plain, ⟨[some (.ref 9), some (.ref 3), some (.ref 3), none, some (.str (Str.ofString "__main__") 164), none, some (.ref 0)]⟩⟩
noncomputable def z11 (P : Params) : Obj := ⟨.type "tuple", none, .seq ⟨[.str (Str.ofString "permutations") 182]⟩ 0, ⟨[]⟩⟩
noncomputable def z12 (P : Params) : Obj := ⟨.type "dict", none, .dict ⟨[ent P (Str.ofString "__name__") 250 (.str (Str.ofString "itertools") 249), ent P (Str.ofString "__doc__") 251 (.builtin "off-the-table:itertools.__doc__:shared#opaque"), ent P (Str.ofString "__package__") 253 (.str (Str.ofString "") 252), ent P (Str.ofString "__loader__") 254 (.builtin "off-the-table:itertools.__loader__:shared#opaque"), ent P (Str.ofString "__spec__") 255 (.builtin "off-the-table:itertools.__spec__:shared#opaque"), ent P (Str.ofString "tee") 256 (.builtin "itertools.tee"), ent P (Str.ofString "accumulate") 257 (.type "itertools.accumulate"), ent P (Str.ofString "batched") 258 (.type "itertools.batched"), ent P (Str.ofString "chain") 259 (.type "itertools.chain"), ent P (Str.ofString "combinations") 260 (.type "itertools.combinations"), ent P (Str.ofString "compress") 261 (.type "itertools.compress"), ent P (Str.ofString "count") 262 (.type "itertools.count"), ent P (Str.ofString "combinations_with_replacement") 263 (.type "itertools.combinations_with_replacement"), ent P (Str.ofString "cycle") 264 (.type "itertools.cycle"), ent P (Str.ofString "dropwhile") 265 (.type "itertools.dropwhile"), ent P (Str.ofString "filterfalse") 266 (.type "itertools.filterfalse"), ent P (Str.ofString "groupby") 267 (.builtin "off-the-table:itertools.groupby:shared#opaque"), ent P (Str.ofString "_grouper") 268 (.builtin "off-the-table:itertools._grouper:shared#opaque"), ent P (Str.ofString "islice") 269 (.type "itertools.islice"), ent P (Str.ofString "pairwise") 270 (.type "itertools.pairwise"), ent P (Str.ofString "permutations") 271 (.type "itertools.permutations"), ent P (Str.ofString "product") 272 (.type "itertools.product"), ent P (Str.ofString "repeat") 273 (.type "itertools.repeat"), ent P (Str.ofString "starmap") 274 (.type "itertools.starmap"), ent P (Str.ofString "takewhile") 275 (.type "itertools.takewhile"), ent P (Str.ofString "_tee") 276 (.builtin "off-the-table:itertools._tee:shared#opaque"), ent P (Str.ofString "_tee_dataobject") 277 (.builtin "off-the-table:itertools._tee_dataobject:shared#opaque"), ent P (Str.ofString "zip_longest") 278 (.type "itertools.zip_longest")]⟩ 28, ⟨[]⟩⟩
noncomputable def z13 (P : Params) : Obj := ⟨.type "module", (some 12), .plain, ⟨[]⟩⟩
noncomputable def z14 (P : Params) : Obj := ⟨.type "dict", none, .dict ⟨[ent P (Str.ofString "__module__") 191 (.str (Str.ofString "_frozen_importlib") 188), ent P (Str.ofString "__firstlineno__") 192 (.int 971 189), ent P (Str.ofString "__doc__") 193 (.builtin "_frozen_importlib.BuiltinImporter.__doc__:str#opaque"), ent P (Str.ofString "_ORIGIN") 194 (.str (Str.ofString "built-in") 190), ent P (Str.ofString "find_spec") 195 (.builtin "_frozen_importlib.BuiltinImporter.find_spec#opaque"), ent P (Str.ofString "create_module") 196 (.builtin "_frozen_importlib.BuiltinImporter.create_module#opaque"), ent P (Str.ofString "exec_module") 197 (.builtin "_frozen_importlib.BuiltinImporter.exec_module#opaque"), ent P (Str.ofString "get_code") 198 (.builtin "_frozen_importlib.BuiltinImporter.get_code#opaque"), ent P (Str.ofString "get_source") 199 (.builtin "_frozen_importlib.BuiltinImporter.get_source#opaque"), ent P (Str.ofString "is_package") 200 (.builtin "_frozen_importlib.BuiltinImporter.is_package#opaque"), ent P (Str.ofString "load_module") 201 (.builtin "_frozen_importlib.BuiltinImporter.load_module#opaque"), ent P (Str.ofString "__static_attributes__") 202 (.ref 16), ent P (Str.ofString "__dict__") 204 (.ref 17), ent P (Str.ofString "__weakref__") 206 (.ref 18)]⟩ 14, ⟨[]⟩⟩
noncomputable def z15 (P : Params) : Obj := ⟨.type "type", none, .cls { name := (Str.ofString "BuiltinImporter"), bases := [.type "object"], mro := [.ref 15, .type "object"], ns := 14, qualname := (Str.ofString "BuiltinImporter"), hasDict := true, slotNames := [], subclasses := [], abstract := false, collection := none, hasDel := false }, ⟨[]⟩⟩
noncomputable def z16 (P : Params) : Obj := ⟨.type "tuple", none, .seq ⟨[]⟩ 0, ⟨[]⟩⟩
noncomputable def z17 (P : Params) : Obj := ⟨.type "getset_descriptor", none, .fields ⟨[.str (Str.ofString "__dict__") 203, .ref 15, .builtin "function.__dict__", .builtin "function.__dict__#set"]⟩, ⟨[]⟩⟩
noncomputable def z18 (P : Params) : Obj := ⟨.type "getset_descriptor", none, .fields ⟨[.str (Str.ofString "__weakref__") 205, .ref 15, .builtin "ExceptionGroup.__weakref__", .none]⟩, ⟨[]⟩⟩
noncomputable def z19 (P : Params) : Obj := ⟨.none, none, .seq ⟨[.int 14 0, .str ⟨⟨[nat_lit 6, nat_lit 191, nat_lit 10, nat_lit 95, nat_lit 95, nat_lit 109, nat_lit 111, nat_lit 100, nat_lit 117, nat_lit 108, nat_lit 101, nat_lit 95, nat_lit 95, nat_lit 6, nat_lit 188, nat_lit 17, nat_lit 95, nat_lit 102, nat_lit 114, nat_lit 111, nat_lit 122, nat_lit 101, nat_lit 110, nat_lit 95, nat_lit 105, nat_lit 109, nat_lit 112, nat_lit 111, nat_lit 114, nat_lit 116, nat_lit 108, nat_lit 105, nat_lit 98, nat_lit 6, nat_lit 192, nat_lit 15, nat_lit 95, nat_lit 95, nat_lit 102, nat_lit 105, nat_lit 114, nat_lit 115, nat_lit 116, nat_lit 108, nat_lit 105, nat_lit 110, nat_lit 101, nat_lit 110, nat_lit 111, nat_lit 95, nat_lit 95, nat_lit 4, nat_lit 189, nat_lit 0, nat_lit 971, nat_lit 6, nat_lit 193, nat_lit 7, nat_lit 95, nat_lit 95, nat_lit 100, nat_lit 111, nat_lit 99, nat_lit 95, nat_lit 95, nat_lit 9, nat_lit 52, nat_lit 95, nat_lit 102, nat_lit 114, nat_lit 111, nat_lit 122, nat_lit 101, nat_lit 110, nat_lit 95, nat_lit 105, nat_lit 109, nat_lit 112, nat_lit 111, nat_lit 114, nat_lit 116, nat_lit 108, nat_lit 105, nat_lit 98, nat_lit 46, nat_lit 66, nat_lit 117, nat_lit 105, nat_lit 108, nat_lit 116, nat_lit 105, nat_lit 110, nat_lit 73, nat_lit 109, nat_lit 112, nat_lit 111, nat_lit 114, nat_lit 116, nat_lit 101, nat_lit 114, nat_lit 46, nat_lit 95, nat_lit 95, nat_lit 100, nat_lit 111, nat_lit 99, nat_lit 95, nat_lit 95, nat_lit 58, nat_lit 115, nat_lit 116, nat_lit 114, nat_lit 35, nat_lit 111, nat_lit 112, nat_lit 97, nat_lit 113, nat_lit 117, nat_lit 101, nat_lit 6, nat_lit 194, nat_lit 7, nat_lit 95, nat_lit 79, nat_lit 82, nat_lit 73, nat_lit 71, nat_lit 73, nat_lit 78, nat_lit 6, nat_lit 190, nat_lit 8, nat_lit 98, nat_lit 117, nat_lit 105, nat_lit 108, nat_lit 116, nat_lit 45, nat_lit 105, nat_lit 110, nat_lit 6, nat_lit 195, nat_lit 9, nat_lit 102, nat_lit 105, nat_lit 110, nat_lit 100, nat_lit 95, nat_lit 115, nat_lit 112, nat_lit 101, nat_lit 99, nat_lit 9, nat_lit 50, nat_lit 95, nat_lit 102, nat_lit 114, nat_lit 111, nat_lit 122, nat_lit 101, nat_lit 110, nat_lit 95, nat_lit 105, nat_lit 109, nat_lit 112, nat_lit 111, nat_lit 114, nat_lit 116, nat_lit 108, nat_lit 105, nat_lit 98, nat_lit 46, nat_lit 66, nat_lit 117, nat_lit 105, nat_lit 108, nat_lit 116, nat_lit 105, nat_lit 110, nat_lit 73, nat_lit 109, nat_lit 112, nat_lit 111, nat_lit 114, nat_lit 116, nat_lit 101, nat_lit 114, nat_lit 46, nat_lit 102, nat_lit 105, nat_lit 110, nat_lit 100, nat_lit 95, nat_lit 115, nat_lit 112, nat_lit 101, nat_lit 99, nat_lit 35, nat_lit 111, nat_lit 112, nat_lit 97, nat_lit 113, nat_lit 117, nat_lit 101, nat_lit 6, nat_lit 196, nat_lit 13, nat_lit 99, nat_lit 114, nat_lit 101, nat_lit 97, nat_lit 116, nat_lit 101, nat_lit 95, nat_lit 109, nat_lit 111, nat_lit 100, nat_lit 117, nat_lit 108, nat_lit 101, nat_lit 9, nat_lit 54, nat_lit 95, nat_lit 102, nat_lit 114, nat_lit 111, nat_lit 122, nat_lit 101, nat_lit 110, nat_lit 95, nat_lit 105, nat_lit 109, nat_lit 112, nat_lit 111, nat_lit 114, nat_lit 116, nat_lit 108, nat_lit 105, nat_lit 98, nat_lit 46, nat_lit 66, nat_lit 117, nat_lit 105, nat_lit 108, nat_lit 116, nat_lit 105, nat_lit 110, nat_lit 73, nat_lit 109, nat_lit 112, nat_lit 111, nat_lit 114, nat_lit 116, nat_lit 101, nat_lit 114, nat_lit 46, nat_lit 99, nat_lit 114, nat_lit 101, nat_lit 97, nat_lit 116, nat_lit 101, nat_lit 95, nat_lit 109, nat_lit 111, nat_lit 100, nat_lit 117, nat_lit 108, nat_lit 101, nat_lit 35, nat_lit 111, nat_lit 112, nat_lit 97, nat_lit 113, nat_lit 117, nat_lit 101, nat_lit 6, nat_lit 197, nat_lit 11, nat_lit 101, nat_lit 120, nat_lit 101, nat_lit 99, nat_lit 95, nat_lit 109, nat_lit 111, nat_lit 100, nat_lit 117, nat_lit 108, nat_lit 101, nat_lit 9, nat_lit 52, nat_lit 95, nat_lit 102, nat_lit 114, nat_lit 111, nat_lit 122, nat_lit 101, nat_lit 110, nat_lit 95, nat_lit 105, nat_lit 109, nat_lit 112, nat_lit 111, nat_lit 114, nat_lit 116, nat_lit 108, nat_lit 105, nat_lit 98, nat_lit 46, nat_lit 66, nat_lit 117, nat_lit 105, nat_lit 108, nat_lit 116, nat_lit 105, nat_lit 110, nat_lit 73, nat_lit 109, nat_lit 112, nat_lit 111, nat_lit 114, nat_lit 116, nat_lit 101, nat_lit 114, nat_lit 46, nat_lit 101, nat_lit 120, nat_lit 101, nat_lit 99, nat_lit 95, nat_lit 109, nat_lit 111, nat_lit 100, nat_lit 117, nat_lit 108, nat_lit 101, nat_lit 35, nat_lit 111, nat_lit 112, nat_lit 97, nat_lit 113, nat_lit 117, nat_lit 101, nat_lit 6, nat_lit 198, nat_lit 8, nat_lit 103, nat_lit 101, nat_lit 116, nat_lit 95, nat_lit 99, nat_lit 111, nat_lit 100, nat_lit 101, nat_lit 9, nat_lit 49, nat_lit 95, nat_lit 102, nat_lit 114, nat_lit 111, nat_lit 122, nat_lit 101, nat_lit 110, nat_lit 95, nat_lit 105, nat_lit 109, nat_lit 112, nat_lit 111, nat_lit 114, nat_lit 116, nat_lit 108, nat_lit 105, nat_lit 98, nat_lit 46, nat_lit 66, nat_lit 117, nat_lit 105, nat_lit 108, nat_lit 116, nat_lit 105, nat_lit 110, nat_lit 73, nat_lit 109, nat_lit 112, nat_lit 111, nat_lit 114, nat_lit 116, nat_lit 101, nat_lit 114, nat_lit 46, nat_lit 103, nat_lit 101, nat_lit 116, nat_lit 95, nat_lit 99, nat_lit 111, nat_lit 100, nat_lit 101, nat_lit 35, nat_lit 111, nat_lit 112, nat_lit 97, nat_lit 113, nat_lit 117, nat_lit 101, nat_lit 6, nat_lit 199, nat_lit 10, nat_lit 103, nat_lit 101, nat_lit 116, nat_lit 95, nat_lit 115, nat_lit 111, nat_lit 117, nat_lit 114, nat_lit 99, nat_lit 101, nat_lit 9, nat_lit 51, nat_lit 95, nat_lit 102, nat_lit 114, nat_lit 111, nat_lit 122, nat_lit 101, nat_lit 110, nat_lit 95, nat_lit 105, nat_lit 109, nat_lit 112, nat_lit 111, nat_lit 114, nat_lit 116, nat_lit 108, nat_lit 105, nat_lit 98, nat_lit 46, nat_lit 66, nat_lit 117, nat_lit 105, nat_lit 108, nat_lit 116, nat_lit 105, nat_lit 110, nat_lit 73, nat_lit 109, nat_lit 112, nat_lit 111, nat_lit 114, nat_lit 116, nat_lit 101, nat_lit 114, nat_lit 46, nat_lit 103, nat_lit 101, nat_lit 116, nat_lit 95, nat_lit 115, nat_lit 111, nat_lit 117, nat_lit 114, nat_lit 99, nat_lit 101, nat_lit 35, nat_lit 111, nat_lit 112, nat_lit 97, nat_lit 113, nat_lit 117, nat_lit 101, nat_lit 6, nat_lit 200, nat_lit 10, nat_lit 105, nat_lit 115, nat_lit 95, nat_lit 112, nat_lit 97, nat_lit 99, nat_lit 107, nat_lit 97, nat_lit 103, nat_lit 101, nat_lit 9, nat_lit 51, nat_lit 95, nat_lit 102, nat_lit 114, nat_lit 111, nat_lit 122, nat_lit 101, nat_lit 110, nat_lit 95, nat_lit 105, nat_lit 109, nat_lit 112, nat_lit 111, nat_lit 114, nat_lit 116, nat_lit 108, nat_lit 105, nat_lit 98, nat_lit 46, nat_lit 66, nat_lit 117, nat_lit 105, nat_lit 108, nat_lit 116, nat_lit 105, nat_lit 110, nat_lit 73, nat_lit 109, nat_lit 112, nat_lit 111, nat_lit 114, nat_lit 116, nat_lit 101, nat_lit 114, nat_lit 46, nat_lit 105, nat_lit 115, nat_lit 95, nat_lit 112, nat_lit 97, nat_lit 99, nat_lit 107, nat_lit 97, nat_lit 103, nat_lit 101, nat_lit 35, nat_lit 111, nat_lit 112, nat_lit 97, nat_lit 113, nat_lit 117, nat_lit 101, nat_lit 6, nat_lit 201, nat_lit 11, nat_lit 108, nat_lit 111, nat_lit 97, nat_lit 100, nat_lit 95, nat_lit 109, nat_lit 111, nat_lit 100, nat_lit 117, nat_lit 108, nat_lit 101, nat_lit 9, nat_lit 52, nat_lit 95, nat_lit 102, nat_lit 114, nat_lit 111, nat_lit 122, nat_lit 101, nat_lit 110, nat_lit 95, nat_lit 105, nat_lit 109, nat_lit 112, nat_lit 111, nat_lit 114, nat_lit 116, nat_lit 108, nat_lit 105, nat_lit 98, nat_lit 46, nat_lit 66, nat_lit 117, nat_lit 105, nat_lit 108, nat_lit 116, nat_lit 105, nat_lit 110, nat_lit 73, nat_lit 109, nat_lit 112, nat_lit 111, nat_lit 114, nat_lit 116, nat_lit 101, nat_lit 114, nat_lit 46, nat_lit 108, nat_lit 111, nat_lit 97, nat_lit 100, nat_lit 95, nat_lit 109, nat_lit 111, nat_lit 100, nat_lit 117, nat_lit 108, nat_lit 101, nat_lit 35, nat_lit 111, nat_lit 112, nat_lit 97, nat_lit 113, nat_lit 117, nat_lit 101, nat_lit 6, nat_lit 202, nat_lit 21, nat_lit 95, nat_lit 95, nat_lit 115, nat_lit 116, nat_lit 97, nat_lit 116, nat_lit 105, nat_lit 99, nat_lit 95, nat_lit 97, nat_lit 116, nat_lit 116, nat_lit 114, nat_lit 105, nat_lit 98, nat_lit 117, nat_lit 116, nat_lit 101, nat_lit 115, nat_lit 95, nat_lit 95, nat_lit 4, nat_lit 0, nat_lit 0, nat_lit 16, nat_lit 6, nat_lit 204, nat_lit 8, nat_lit 95, nat_lit 95, nat_lit 100, nat_lit 105, nat_lit 99, nat_lit 116, nat_lit 95, nat_lit 95, nat_lit 4, nat_lit 0, nat_lit 0, nat_lit 17, nat_lit 6, nat_lit 206, nat_lit 11, nat_lit 95, nat_lit 95, nat_lit 119, nat_lit 101, nat_lit 97, nat_lit 107, nat_lit 114, nat_lit 101, nat_lit 102, nat_lit 95, nat_lit 95, nat_lit 4, nat_lit 0, nat_lit 0, nat_lit 18]⟩⟩ 0, .bool true, .bool true, .str (Str.ofString "") 207, .int 22 0, .str ⟨⟨[nat_lit 6, nat_lit 229, nat_lit 10, nat_lit 95, nat_lit 95, nat_lit 109, nat_lit 111, nat_lit 100, nat_lit 117, nat_lit 108, nat_lit 101, nat_lit 95, nat_lit 95, nat_lit 6, nat_lit 219, nat_lit 17, nat_lit 95, nat_lit 102, nat_lit 114, nat_lit 111, nat_lit 122, nat_lit 101, nat_lit 110, nat_lit 95, nat_lit 105, nat_lit 109, nat_lit 112, nat_lit 111, nat_lit 114, nat_lit 116, nat_lit 108, nat_lit 105, nat_lit 98, nat_lit 6, nat_lit 230, nat_lit 15, nat_lit 95, nat_lit 95, nat_lit 102, nat_lit 105, nat_lit 114, nat_lit 115, nat_lit 116, nat_lit 108, nat_lit 105, nat_lit 110, nat_lit 101, nat_lit 110, nat_lit 111, nat_lit 95, nat_lit 95, nat_lit 4, nat_lit 220, nat_lit 0, nat_lit 562, nat_lit 6, nat_lit 231, nat_lit 7, nat_lit 95, nat_lit 95, nat_lit 100, nat_lit 111, nat_lit 99, nat_lit 95, nat_lit 95, nat_lit 9, nat_lit 47, nat_lit 95, nat_lit 102, nat_lit 114, nat_lit 111, nat_lit 122, nat_lit 101, nat_lit 110, nat_lit 95, nat_lit 105, nat_lit 109, nat_lit 112, nat_lit 111, nat_lit 114, nat_lit 116, nat_lit 108, nat_lit 105, nat_lit 98, nat_lit 46, nat_lit 77, nat_lit 111, nat_lit 100, nat_lit 117, nat_lit 108, nat_lit 101, nat_lit 83, nat_lit 112, nat_lit 101, nat_lit 99, nat_lit 46, nat_lit 95, nat_lit 95, nat_lit 100, nat_lit 111, nat_lit 99, nat_lit 95, nat_lit 95, nat_lit 58, nat_lit 115, nat_lit 116, nat_lit 114, nat_lit 35, nat_lit 111, nat_lit 112, nat_lit 97, nat_lit 113, nat_lit 117, nat_lit 101, nat_lit 6, nat_lit 232, nat_lit 8, nat_lit 95, nat_lit 95, nat_lit 105, nat_lit 110, nat_lit 105, nat_lit 116, nat_lit 95, nat_lit 95, nat_lit 9, nat_lit 44, nat_lit 95, nat_lit 102, nat_lit 114, nat_lit 111, nat_lit 122, nat_lit 101, nat_lit 110, nat_lit 95, nat_lit 105, nat_lit 109, nat_lit 112, nat_lit 111, nat_lit 114, nat_lit 116, nat_lit 108, nat_lit 105, nat_lit 98, nat_lit 46, nat_lit 77, nat_lit 111, nat_lit 100, nat_lit 117, nat_lit 108, nat_lit 101, nat_lit 83, nat_lit 112, nat_lit 101, nat_lit 99, nat_lit 46, nat_lit 95, nat_lit 95, nat_lit 105, nat_lit 110, nat_lit 105, nat_lit 116, nat_lit 95, nat_lit 95, nat_lit 35, nat_lit 111, nat_lit 112, nat_lit 97, nat_lit 113, nat_lit 117, nat_lit 101, nat_lit 6, nat_lit 233, nat_lit 8, nat_lit 95, nat_lit 95, nat_lit 114, nat_lit 101, nat_lit 112, nat_lit 114, nat_lit 95, nat_lit 95, nat_lit 9, nat_lit 44, nat_lit 95, nat_lit 102, nat_lit 114, nat_lit 111, nat_lit 122, nat_lit 101, nat_lit 110, nat_lit 95, nat_lit 105, nat_lit 109, nat_lit 112, nat_lit 111, nat_lit 114, nat_lit 116, nat_lit 108, nat_lit 105, nat_lit 98, nat_lit 46, nat_lit 77, nat_lit 111, nat_lit 100, nat_lit 117, nat_lit 108, nat_lit 101, nat_lit 83, nat_lit 112, nat_lit 101, nat_lit 99, nat_lit 46, nat_lit 95, nat_lit 95, nat_lit 114, nat_lit 101, nat_lit 112, nat_lit 114, nat_lit 95, nat_lit 95, nat_lit 35, nat_lit 111, nat_lit 112, nat_lit 97, nat_lit 113, nat_lit 117, nat_lit 101, nat_lit 6, nat_lit 234, nat_lit 6, nat_lit 95, nat_lit 95, nat_lit 101, nat_lit 113, nat_lit 95, nat_lit 95, nat_lit 9, nat_lit 42, nat_lit 95, nat_lit 102, nat_lit 114, nat_lit 111, nat_lit 122, nat_lit 101, nat_lit 110, nat_lit 95, nat_lit 105, nat_lit 109, nat_lit 112, nat_lit 111, nat_lit 114, nat_lit 116, nat_lit 108, nat_lit 105, nat_lit 98, nat_lit 46, nat_lit 77, nat_lit 111, nat_lit 100, nat_lit 117, nat_lit 108, nat_lit 101, nat_lit 83, nat_lit 112, nat_lit 101, nat_lit 99, nat_lit 46, nat_lit 95, nat_lit 95, nat_lit 101, nat_lit 113, nat_lit 95, nat_lit 95, nat_lit 35, nat_lit 111, nat_lit 112, nat_lit 97, nat_lit 113, nat_lit 117, nat_lit 101, nat_lit 6, nat_lit 235, nat_lit 6, nat_lit 99, nat_lit 97, nat_lit 99, nat_lit 104, nat_lit 101, nat_lit 100, nat_lit 9, nat_lit 42, nat_lit 95, nat_lit 102, nat_lit 114, nat_lit 111, nat_lit 122, nat_lit 101, nat_lit 110, nat_lit 95, nat_lit 105, nat_lit 109, nat_lit 112, nat_lit 111, nat_lit 114, nat_lit 116, nat_lit 108, nat_lit 105, nat_lit 98, nat_lit 46, nat_lit 77, nat_lit 111, nat_lit 100, nat_lit 117, nat_lit 108, nat_lit 101, nat_lit 83, nat_lit 112, nat_lit 101, nat_lit 99, nat_lit 46, nat_lit 99, nat_lit 97, nat_lit 99, nat_lit 104, nat_lit 101, nat_lit 100, nat_lit 35, nat_lit 111, nat_lit 112, nat_lit 97, nat_lit 113, nat_lit 117, nat_lit 101, nat_lit 6, nat_lit 236, nat_lit 6, nat_lit 112, nat_lit 97, nat_lit 114, nat_lit 101, nat_lit 110, nat_lit 116, nat_lit 9, nat_lit 42, nat_lit 95, nat_lit 102, nat_lit 114, nat_lit 111, nat_lit 122, nat_lit 101, nat_lit 110, nat_lit 95, nat_lit 105, nat_lit 109, nat_lit 112, nat_lit 111, nat_lit 114, nat_lit 116, nat_lit 108, nat_lit 105, nat_lit 98, nat_lit 46, nat_lit 77, nat_lit 111, nat_lit 100, nat_lit 117, nat_lit 108, nat_lit 101, nat_lit 83, nat_lit 112, nat_lit 101, nat_lit 99, nat_lit 46, nat_lit 112, nat_lit 97, nat_lit 114, nat_lit 101, nat_lit 110, nat_lit 116, nat_lit 35, nat_lit 111, nat_lit 112, nat_lit 97, nat_lit 113, nat_lit 117, nat_lit 101, nat_lit 6, nat_lit 237, nat_lit 12, nat_lit 104, nat_lit 97, nat_lit 115, nat_lit 95, nat_lit 108, nat_lit 111, nat_lit 99, nat_lit 97, nat_lit 116, nat_lit 105, nat_lit 111, nat_lit 110, nat_lit 9, nat_lit 48, nat_lit 95, nat_lit 102, nat_lit 114, nat_lit 111, nat_lit 122, nat_lit 101, nat_lit 110, nat_lit 95, nat_lit 105, nat_lit 109, nat_lit 112, nat_lit 111, nat_lit 114, nat_lit 116, nat_lit 108, nat_lit 105, nat_lit 98, nat_lit 46, nat_lit 77, nat_lit 111, nat_lit 100, nat_lit 117, nat_lit 108, nat_lit 101, nat_lit 83, nat_lit 112, nat_lit 101, nat_lit 99, nat_lit 46, nat_lit 104, nat_lit 97, nat_lit 115, nat_lit 95, nat_lit 108, nat_lit 111, nat_lit 99, nat_lit 97, nat_lit 116, nat_lit 105, nat_lit 111, nat_lit 110, nat_lit 35, nat_lit 111, nat_lit 112, nat_lit 97, nat_lit 113, nat_lit 117, nat_lit 101, nat_lit 6, nat_lit 238, nat_lit 21, nat_lit 95, nat_lit 95, nat_lit 115, nat_lit 116, nat_lit 97, nat_lit 116, nat_lit 105, nat_lit 99, nat_lit 95, nat_lit 97, nat_lit 116, nat_lit 116, nat_lit 114, nat_lit 105, nat_lit 98, nat_lit 117, nat_lit 116, nat_lit 101, nat_lit 115, nat_lit 95, nat_lit 95, nat_lit 4, nat_lit 0, nat_lit 0, nat_lit 24, nat_lit 6, nat_lit 240, nat_lit 8, nat_lit 95, nat_lit 95, nat_lit 100, nat_lit 105, nat_lit 99, nat_lit 116, nat_lit 95, nat_lit 95, nat_lit 4, nat_lit 0, nat_lit 0, nat_lit 25, nat_lit 6, nat_lit 242, nat_lit 11, nat_lit 95, nat_lit 95, nat_lit 119, nat_lit 101, nat_lit 97, nat_lit 107, nat_lit 114, nat_lit 101, nat_lit 102, nat_lit 95, nat_lit 95, nat_lit 4, nat_lit 0, nat_lit 0, nat_lit 26, nat_lit 6, nat_lit 243, nat_lit 8, nat_lit 95, nat_lit 95, nat_lit 104, nat_lit 97, nat_lit 115, nat_lit 104, nat_lit 95, nat_lit 95, nat_lit 0]⟩⟩ 0, .bool true, .bool true, .str (Str.ofString "") 244, .int 33 0, .str ⟨⟨[nat_lit 6, nat_lit 303, nat_lit 10, nat_lit 95, nat_lit 95, nat_lit 109, nat_lit 111, nat_lit 100, nat_lit 117, nat_lit 108, nat_lit 101, nat_lit 95, nat_lit 95, nat_lit 6, nat_lit 301, nat_lit 26, nat_lit 95, nat_lit 102, nat_lit 114, nat_lit 111, nat_lit 122, nat_lit 101, nat_lit 110, nat_lit 95, nat_lit 105, nat_lit 109, nat_lit 112, nat_lit 111, nat_lit 114, nat_lit 116, nat_lit 108, nat_lit 105, nat_lit 98, nat_lit 95, nat_lit 101, nat_lit 120, nat_lit 116, nat_lit 101, nat_lit 114, nat_lit 110, nat_lit 97, nat_lit 108, nat_lit 6, nat_lit 304, nat_lit 15, nat_lit 95, nat_lit 95, nat_lit 102, nat_lit 105, nat_lit 114, nat_lit 115, nat_lit 116, nat_lit 108, nat_lit 105, nat_lit 110, nat_lit 101, nat_lit 110, nat_lit 111, nat_lit 95, nat_lit 95, nat_lit 4, nat_lit 302, nat_lit 0, nat_lit 1001, nat_lit 6, nat_lit 305, nat_lit 7, nat_lit 95, nat_lit 95, nat_lit 100, nat_lit 111, nat_lit 99, nat_lit 95, nat_lit 95, nat_lit 9, nat_lit 59, nat_lit 95, nat_lit 102, nat_lit 114, nat_lit 111, nat_lit 122, nat_lit 101, nat_lit 110, nat_lit 95, nat_lit 105, nat_lit 109, nat_lit 112, nat_lit 111, nat_lit 114, nat_lit 116, nat_lit 108, nat_lit 105, nat_lit 98, nat_lit 95, nat_lit 101, nat_lit 120, nat_lit 116, nat_lit 101, nat_lit 114, nat_lit 110, nat_lit 97, nat_lit 108, nat_lit 46, nat_lit 95, nat_lit 76, nat_lit 111, nat_lit 97, nat_lit 100, nat_lit 101, nat_lit 114, nat_lit 66, nat_lit 97, nat_lit 115, nat_lit 105, nat_lit 99, nat_lit 115, nat_lit 46, nat_lit 95, nat_lit 95, nat_lit 100, nat_lit 111, nat_lit 99, nat_lit 95, nat_lit 95, nat_lit 58, nat_lit 115, nat_lit 116, nat_lit 114, nat_lit 35, nat_lit 111, nat_lit 112, nat_lit 97, nat_lit 113, nat_lit 117, nat_lit 101, nat_lit 6, nat_lit 306, nat_lit 10, nat_lit 105, nat_lit 115, nat_lit 95, nat_lit 112, nat_lit 97, nat_lit 99, nat_lit 107, nat_lit 97, nat_lit 103, nat_lit 101, nat_lit 9, nat_lit 58, nat_lit 95, nat_lit 102, nat_lit 114, nat_lit 111, nat_lit 122, nat_lit 101, nat_lit 110, nat_lit 95, nat_lit 105, nat_lit 109, nat_lit 112, nat_lit 111, nat_lit 114, nat_lit 116, nat_lit 108, nat_lit 105, nat_lit 98, nat_lit 95, nat_lit 101, nat_lit 120, nat_lit 116, nat_lit 101, nat_lit 114, nat_lit 110, nat_lit 97, nat_lit 108, nat_lit 46, nat_lit 95, nat_lit 76, nat_lit 111, nat_lit 97, nat_lit 100, nat_lit 101, nat_lit 114, nat_lit 66, nat_lit 97, nat_lit 115, nat_lit 105, nat_lit 99, nat_lit 115, nat_lit 46, nat_lit 105, nat_lit 115, nat_lit 95, nat_lit 112, nat_lit 97, nat_lit 99, nat_lit 107, nat_lit 97, nat_lit 103, nat_lit 101, nat_lit 35, nat_lit 111, nat_lit 112, nat_lit 97, nat_lit 113, nat_lit 117, nat_lit 101, nat_lit 6, nat_lit 307, nat_lit 13, nat_lit 99, nat_lit 114, nat_lit 101, nat_lit 97, nat_lit 116, nat_lit 101, nat_lit 95, nat_lit 109, nat_lit 111, nat_lit 100, nat_lit 117, nat_lit 108, nat_lit 101, nat_lit 9, nat_lit 61, nat_lit 95, nat_lit 102, nat_lit 114, nat_lit 111, nat_lit 122, nat_lit 101, nat_lit 110, nat_lit 95, nat_lit 105, nat_lit 109, nat_lit 112, nat_lit 111, nat_lit 114, nat_lit 116, nat_lit 108, nat_lit 105, nat_lit 98, nat_lit 95, nat_lit 101, nat_lit 120, nat_lit 116, nat_lit 101, nat_lit 114, nat_lit 110, nat_lit 97, nat_lit 108, nat_lit 46, nat_lit 95, nat_lit 76, nat_lit 111, nat_lit 97, nat_lit 100, nat_lit 101, nat_lit 114, nat_lit 66, nat_lit 97, nat_lit 115, nat_lit 105, nat_lit 99, nat_lit 115, nat_lit 46, nat_lit 99, nat_lit 114, nat_lit 101, nat_lit 97, nat_lit 116, nat_lit 101, nat_lit 95, nat_lit 109, nat_lit 111, nat_lit 100, nat_lit 117, nat_lit 108, nat_lit 101, nat_lit 35, nat_lit 111, nat_lit 112, nat_lit 97, nat_lit 113, nat_lit 117, nat_lit 101, nat_lit 6, nat_lit 308, nat_lit 11, nat_lit 101, nat_lit 120, nat_lit 101, nat_lit 99, nat_lit 95, nat_lit 109, nat_lit 111, nat_lit 100, nat_lit 117, nat_lit 108, nat_lit 101, nat_lit 9, nat_lit 59, nat_lit 95, nat_lit 102, nat_lit 114, nat_lit 111, nat_lit 122, nat_lit 101, nat_lit 110, nat_lit 95, nat_lit 105, nat_lit 109, nat_lit 112, nat_lit 111, nat_lit 114, nat_lit 116, nat_lit 108, nat_lit 105, nat_lit 98, nat_lit 95, nat_lit 101, nat_lit 120, nat_lit 116, nat_lit 101, nat_lit 114, nat_lit 110, nat_lit 97, nat_lit 108, nat_lit 46, nat_lit 95, nat_lit 76, nat_lit 111, nat_lit 97, nat_lit 100, nat_lit 101, nat_lit 114, nat_lit 66, nat_lit 97, nat_lit 115, nat_lit 105, nat_lit 99, nat_lit 115, nat_lit 46, nat_lit 101, nat_lit 120, nat_lit 101, nat_lit 99, nat_lit 95, nat_lit 109, nat_lit 111, nat_lit 100, nat_lit 117, nat_lit 108, nat_lit 101, nat_lit 35, nat_lit 111, nat_lit 112, nat_lit 97, nat_lit 113, nat_lit 117, nat_lit 101, nat_lit 6, nat_lit 309, nat_lit 11, nat_lit 108, nat_lit 111, nat_lit 97, nat_lit 100, nat_lit 95, nat_lit 109, nat_lit 111, nat_lit 100, nat_lit 117, nat_lit 108, nat_lit 101, nat_lit 9, nat_lit 59, nat_lit 95, nat_lit 102, nat_lit 114, nat_lit 111, nat_lit 122, nat_lit 101, nat_lit 110, nat_lit 95, nat_lit 105, nat_lit 109, nat_lit 112, nat_lit 111, nat_lit 114, nat_lit 116, nat_lit 108, nat_lit 105, nat_lit 98, nat_lit 95, nat_lit 101, nat_lit 120, nat_lit 116, nat_lit 101, nat_lit 114, nat_lit 110, nat_lit 97, nat_lit 108, nat_lit 46, nat_lit 95, nat_lit 76, nat_lit 111, nat_lit 97, nat_lit 100, nat_lit 101, nat_lit 114, nat_lit 66, nat_lit 97, nat_lit 115, nat_lit 105, nat_lit 99, nat_lit 115, nat_lit 46, nat_lit 108, nat_lit 111, nat_lit 97, nat_lit 100, nat_lit 95, nat_lit 109, nat_lit 111, nat_lit 100, nat_lit 117, nat_lit 108, nat_lit 101, nat_lit 35, nat_lit 111, nat_lit 112, nat_lit 97, nat_lit 113, nat_lit 117, nat_lit 101, nat_lit 6, nat_lit 310, nat_lit 21, nat_lit 95, nat_lit 95, nat_lit 115, nat_lit 116, nat_lit 97, nat_lit 116, nat_lit 105, nat_lit 99, nat_lit 95, nat_lit 97, nat_lit 116, nat_lit 116, nat_lit 114, nat_lit 105, nat_lit 98, nat_lit 117, nat_lit 116, nat_lit 101, nat_lit 115, nat_lit 95, nat_lit 95, nat_lit 4, nat_lit 0, nat_lit 0, nat_lit 35, nat_lit 6, nat_lit 312, nat_lit 8, nat_lit 95, nat_lit 95, nat_lit 100, nat_lit 105, nat_lit 99, nat_lit 116, nat_lit 95, nat_lit 95, nat_lit 4, nat_lit 0, nat_lit 0, nat_lit 36, nat_lit 6, nat_lit 314, nat_lit 11, nat_lit 95, nat_lit 95, nat_lit 119, nat_lit 101, nat_lit 97, nat_lit 107, nat_lit 114, nat_lit 101, nat_lit 102, nat_lit 95, nat_lit 95, nat_lit 4, nat_lit 0, nat_lit 0, nat_lit 37]⟩⟩ 0, .bool true, .bool true, .str (Str.ofString "") 315, .int 38 0, .str ⟨⟨[nat_lit 6, nat_lit 321, nat_lit 10, nat_lit 95, nat_lit 95, nat_lit 109, nat_lit 111, nat_lit 100, nat_lit 117, nat_lit 108, nat_lit 101, nat_lit 95, nat_lit 95, nat_lit 6, nat_lit 317, nat_lit 26, nat_lit 95, nat_lit 102, nat_lit 114, nat_lit 111, nat_lit 122, nat_lit 101, nat_lit 110, nat_lit 95, nat_lit 105, nat_lit 109, nat_lit 112, nat_lit 111, nat_lit 114, nat_lit 116, nat_lit 108, nat_lit 105, nat_lit 98, nat_lit 95, nat_lit 101, nat_lit 120, nat_lit 116, nat_lit 101, nat_lit 114, nat_lit 110, nat_lit 97, nat_lit 108, nat_lit 6, nat_lit 322, nat_lit 15, nat_lit 95, nat_lit 95, nat_lit 102, nat_lit 105, nat_lit 114, nat_lit 115, nat_lit 116, nat_lit 108, nat_lit 105, nat_lit 110, nat_lit 101, nat_lit 110, nat_lit 111, nat_lit 95, nat_lit 95, nat_lit 4, nat_lit 318, nat_lit 0, nat_lit 1176, nat_lit 6, nat_lit 323, nat_lit 7, nat_lit 95, nat_lit 95, nat_lit 100, nat_lit 111, nat_lit 99, nat_lit 95, nat_lit 95, nat_lit 9, nat_lit 56, nat_lit 95, nat_lit 102, nat_lit 114, nat_lit 111, nat_lit 122, nat_lit 101, nat_lit 110, nat_lit 95, nat_lit 105, nat_lit 109, nat_lit 112, nat_lit 111, nat_lit 114, nat_lit 116, nat_lit 108, nat_lit 105, nat_lit 98, nat_lit 95, nat_lit 101, nat_lit 120, nat_lit 116, nat_lit 101, nat_lit 114, nat_lit 110, nat_lit 97, nat_lit 108, nat_lit 46, nat_lit 70, nat_lit 105, nat_lit 108, nat_lit 101, nat_lit 76, nat_lit 111, nat_lit 97, nat_lit 100, nat_lit 101, nat_lit 114, nat_lit 46, nat_lit 95, nat_lit 95, nat_lit 100, nat_lit 111, nat_lit 99, nat_lit 95, nat_lit 95, nat_lit 58, nat_lit 115, nat_lit 116, nat_lit 114, nat_lit 35, nat_lit 111, nat_lit 112, nat_lit 97, nat_lit 113, nat_lit 117, nat_lit 101, nat_lit 6, nat_lit 324, nat_lit 8, nat_lit 95, nat_lit 95, nat_lit 105, nat_lit 110, nat_lit 105, nat_lit 116, nat_lit 95, nat_lit 95, nat_lit 9, nat_lit 53, nat_lit 95, nat_lit 102, nat_lit 114, nat_lit 111, nat_lit 122, nat_lit 101, nat_lit 110, nat_lit 95, nat_lit 105, nat_lit 109, nat_lit 112, nat_lit 111, nat_lit 114, nat_lit 116, nat_lit 108, nat_lit 105, nat_lit 98, nat_lit 95, nat_lit 101, nat_lit 120, nat_lit 116, nat_lit 101, nat_lit 114, nat_lit 110, nat_lit 97, nat_lit 108, nat_lit 46, nat_lit 70, nat_lit 105, nat_lit 108, nat_lit 101, nat_lit 76, nat_lit 111, nat_lit 97, nat_lit 100, nat_lit 101, nat_lit 114, nat_lit 46, nat_lit 95, nat_lit 95, nat_lit 105, nat_lit 110, nat_lit 105, nat_lit 116, nat_lit 95, nat_lit 95, nat_lit 35, nat_lit 111, nat_lit 112, nat_lit 97, nat_lit 113, nat_lit 117, nat_lit 101, nat_lit 6, nat_lit 325, nat_lit 6, nat_lit 95, nat_lit 95, nat_lit 101, nat_lit 113, nat_lit 95, nat_lit 95, nat_lit 9, nat_lit 51, nat_lit 95, nat_lit 102, nat_lit 114, nat_lit 111, nat_lit 122, nat_lit 101, nat_lit 110, nat_lit 95, nat_lit 105, nat_lit 109, nat_lit 112, nat_lit 111, nat_lit 114, nat_lit 116, nat_lit 108, nat_lit 105, nat_lit 98, nat_lit 95, nat_lit 101, nat_lit 120, nat_lit 116, nat_lit 101, nat_lit 114, nat_lit 110, nat_lit 97, nat_lit 108, nat_lit 46, nat_lit 70, nat_lit 105, nat_lit 108, nat_lit 101, nat_lit 76, nat_lit 111, nat_lit 97, nat_lit 100, nat_lit 101, nat_lit 114, nat_lit 46, nat_lit 95, nat_lit 95, nat_lit 101, nat_lit 113, nat_lit 95, nat_lit 95, nat_lit 35, nat_lit 111, nat_lit 112, nat_lit 97, nat_lit 113, nat_lit 117, nat_lit 101, nat_lit 6, nat_lit 326, nat_lit 8, nat_lit 95, nat_lit 95, nat_lit 104, nat_lit 97, nat_lit 115, nat_lit 104, nat_lit 95, nat_lit 95, nat_lit 9, nat_lit 53, nat_lit 95, nat_lit 102, nat_lit 114, nat_lit 111, nat_lit 122, nat_lit 101, nat_lit 110, nat_lit 95, nat_lit 105, nat_lit 109, nat_lit 112, nat_lit 111, nat_lit 114, nat_lit 116, nat_lit 108, nat_lit 105, nat_lit 98, nat_lit 95, nat_lit 101, nat_lit 120, nat_lit 116, nat_lit 101, nat_lit 114, nat_lit 110, nat_lit 97, nat_lit 108, nat_lit 46, nat_lit 70, nat_lit 105, nat_lit 108, nat_lit 101, nat_lit 76, nat_lit 111, nat_lit 97, nat_lit 100, nat_lit 101, nat_lit 114, nat_lit 46, nat_lit 95, nat_lit 95, nat_lit 104, nat_lit 97, nat_lit 115, nat_lit 104, nat_lit 95, nat_lit 95, nat_lit 35, nat_lit 111, nat_lit 112, nat_lit 97, nat_lit 113, nat_lit 117, nat_lit 101, nat_lit 6, nat_lit 327, nat_lit 11, nat_lit 108, nat_lit 111, nat_lit 97, nat_lit 100, nat_lit 95, nat_lit 109, nat_lit 111, nat_lit 100, nat_lit 117, nat_lit 108, nat_lit 101, nat_lit 9, nat_lit 56, nat_lit 95, nat_lit 102, nat_lit 114, nat_lit 111, nat_lit 122, nat_lit 101, nat_lit 110, nat_lit 95, nat_lit 105, nat_lit 109, nat_lit 112, nat_lit 111, nat_lit 114, nat_lit 116, nat_lit 108, nat_lit 105, nat_lit 98, nat_lit 95, nat_lit 101, nat_lit 120, nat_lit 116, nat_lit 101, nat_lit 114, nat_lit 110, nat_lit 97, nat_lit 108, nat_lit 46, nat_lit 70, nat_lit 105, nat_lit 108, nat_lit 101, nat_lit 76, nat_lit 111, nat_lit 97, nat_lit 100, nat_lit 101, nat_lit 114, nat_lit 46, nat_lit 108, nat_lit 111, nat_lit 97, nat_lit 100, nat_lit 95, nat_lit 109, nat_lit 111, nat_lit 100, nat_lit 117, nat_lit 108, nat_lit 101, nat_lit 35, nat_lit 111, nat_lit 112, nat_lit 97, nat_lit 113, nat_lit 117, nat_lit 101, nat_lit 6, nat_lit 328, nat_lit 12, nat_lit 103, nat_lit 101, nat_lit 116, nat_lit 95, nat_lit 102, nat_lit 105, nat_lit 108, nat_lit 101, nat_lit 110, nat_lit 97, nat_lit 109, nat_lit 101, nat_lit 9, nat_lit 57, nat_lit 95, nat_lit 102, nat_lit 114, nat_lit 111, nat_lit 122, nat_lit 101, nat_lit 110, nat_lit 95, nat_lit 105, nat_lit 109, nat_lit 112, nat_lit 111, nat_lit 114, nat_lit 116, nat_lit 108, nat_lit 105, nat_lit 98, nat_lit 95, nat_lit 101, nat_lit 120, nat_lit 116, nat_lit 101, nat_lit 114, nat_lit 110, nat_lit 97, nat_lit 108, nat_lit 46, nat_lit 70, nat_lit 105, nat_lit 108, nat_lit 101, nat_lit 76, nat_lit 111, nat_lit 97, nat_lit 100, nat_lit 101, nat_lit 114, nat_lit 46, nat_lit 103, nat_lit 101, nat_lit 116, nat_lit 95, nat_lit 102, nat_lit 105, nat_lit 108, nat_lit 101, nat_lit 110, nat_lit 97, nat_lit 109, nat_lit 101, nat_lit 35, nat_lit 111, nat_lit 112, nat_lit 97, nat_lit 113, nat_lit 117, nat_lit 101, nat_lit 6, nat_lit 329, nat_lit 8, nat_lit 103, nat_lit 101, nat_lit 116, nat_lit 95, nat_lit 100, nat_lit 97, nat_lit 116, nat_lit 97, nat_lit 9, nat_lit 53, nat_lit 95, nat_lit 102, nat_lit 114, nat_lit 111, nat_lit 122, nat_lit 101, nat_lit 110, nat_lit 95, nat_lit 105, nat_lit 109, nat_lit 112, nat_lit 111, nat_lit 114, nat_lit 116, nat_lit 108, nat_lit 105, nat_lit 98, nat_lit 95, nat_lit 101, nat_lit 120, nat_lit 116, nat_lit 101, nat_lit 114, nat_lit 110, nat_lit 97, nat_lit 108, nat_lit 46, nat_lit 70, nat_lit 105, nat_lit 108, nat_lit 101, nat_lit 76, nat_lit 111, nat_lit 97, nat_lit 100, nat_lit 101, nat_lit 114, nat_lit 46, nat_lit 103, nat_lit 101, nat_lit 116, nat_lit 95, nat_lit 100, nat_lit 97, nat_lit 116, nat_lit 97, nat_lit 35, nat_lit 111, nat_lit 112, nat_lit 97, nat_lit 113, nat_lit 117, nat_lit 101, nat_lit 6, nat_lit 330, nat_lit 19, nat_lit 103, nat_lit 101, nat_lit 116, nat_lit 95, nat_lit 114, nat_lit 101, nat_lit 115, nat_lit 111, nat_lit 117, nat_lit 114, nat_lit 99, nat_lit 101, nat_lit 95, nat_lit 114, nat_lit 101, nat_lit 97, nat_lit 100, nat_lit 101, nat_lit 114, nat_lit 9, nat_lit 64, nat_lit 95, nat_lit 102, nat_lit 114, nat_lit 111, nat_lit 122, nat_lit 101, nat_lit 110, nat_lit 95, nat_lit 105, nat_lit 109, nat_lit 112, nat_lit 111, nat_lit 114, nat_lit 116, nat_lit 108, nat_lit 105, nat_lit 98, nat_lit 95, nat_lit 101, nat_lit 120, nat_lit 116, nat_lit 101, nat_lit 114, nat_lit 110, nat_lit 97, nat_lit 108, nat_lit 46, nat_lit 70, nat_lit 105, nat_lit 108, nat_lit 101, nat_lit 76, nat_lit 111, nat_lit 97, nat_lit 100, nat_lit 101, nat_lit 114, nat_lit 46, nat_lit 103, nat_lit 101, nat_lit 116, nat_lit 95, nat_lit 114, nat_lit 101, nat_lit 115, nat_lit 111, nat_lit 117, nat_lit 114, nat_lit 99, nat_lit 101, nat_lit 95, nat_lit 114, nat_lit 101, nat_lit 97, nat_lit 100, nat_lit 101, nat_lit 114, nat_lit 35, nat_lit 111, nat_lit 112, nat_lit 97, nat_lit 113, nat_lit 117, nat_lit 101, nat_lit 6, nat_lit 331, nat_lit 21, nat_lit 95, nat_lit 95, nat_lit 115, nat_lit 116, nat_lit 97, nat_lit 116, nat_lit 105, nat_lit 99, nat_lit 95, nat_lit 97, nat_lit 116, nat_lit 116, nat_lit 114, nat_lit 105, nat_lit 98, nat_lit 117, nat_lit 116, nat_lit 101, nat_lit 115, nat_lit 95, nat_lit 95, nat_lit 4, nat_lit 0, nat_lit 0, nat_lit 40, nat_lit 6, nat_lit 333, nat_lit 8, nat_lit 95, nat_lit 95, nat_lit 100, nat_lit 105, nat_lit 99, nat_lit 116, nat_lit 95, nat_lit 95, nat_lit 4, nat_lit 0, nat_lit 0, nat_lit 41, nat_lit 6, nat_lit 335, nat_lit 11, nat_lit 95, nat_lit 95, nat_lit 119, nat_lit 101, nat_lit 97, nat_lit 107, nat_lit 114, nat_lit 101, nat_lit 102, nat_lit 95, nat_lit 95, nat_lit 4, nat_lit 0, nat_lit 0, nat_lit 42]⟩⟩ 0, .bool true, .bool true, .str (Str.ofString "") 336, .int 43 0, .str ⟨⟨[nat_lit 6, nat_lit 342, nat_lit 10, nat_lit 95, nat_lit 95, nat_lit 109, nat_lit 111, nat_lit 100, nat_lit 117, nat_lit 108, nat_lit 101, nat_lit 95, nat_lit 95, nat_lit 6, nat_lit 338, nat_lit 26, nat_lit 95, nat_lit 102, nat_lit 114, nat_lit 111, nat_lit 122, nat_lit 101, nat_lit 110, nat_lit 95, nat_lit 105, nat_lit 109, nat_lit 112, nat_lit 111, nat_lit 114, nat_lit 116, nat_lit 108, nat_lit 105, nat_lit 98, nat_lit 95, nat_lit 101, nat_lit 120, nat_lit 116, nat_lit 101, nat_lit 114, nat_lit 110, nat_lit 97, nat_lit 108, nat_lit 6, nat_lit 343, nat_lit 15, nat_lit 95, nat_lit 95, nat_lit 102, nat_lit 105, nat_lit 114, nat_lit 115, nat_lit 116, nat_lit 108, nat_lit 105, nat_lit 110, nat_lit 101, nat_lit 110, nat_lit 111, nat_lit 95, nat_lit 95, nat_lit 4, nat_lit 339, nat_lit 0, nat_lit 1296, nat_lit 6, nat_lit 344, nat_lit 7, nat_lit 95, nat_lit 95, nat_lit 100, nat_lit 111, nat_lit 99, nat_lit 95, nat_lit 95, nat_lit 9, nat_lit 65, nat_lit 95, nat_lit 102, nat_lit 114, nat_lit 111, nat_lit 122, nat_lit 101, nat_lit 110, nat_lit 95, nat_lit 105, nat_lit 109, nat_lit 112, nat_lit 111, nat_lit 114, nat_lit 116, nat_lit 108, nat_lit 105, nat_lit 98, nat_lit 95, nat_lit 101, nat_lit 120, nat_lit 116, nat_lit 101, nat_lit 114, nat_lit 110, nat_lit 97, nat_lit 108, nat_lit 46, nat_lit 69, nat_lit 120, nat_lit 116, nat_lit 101, nat_lit 110, nat_lit 115, nat_lit 105, nat_lit 111, nat_lit 110, nat_lit 70, nat_lit 105, nat_lit 108, nat_lit 101, nat_lit 76, nat_lit 111, nat_lit 97, nat_lit 100, nat_lit 101, nat_lit 114, nat_lit 46, nat_lit 95, nat_lit 95, nat_lit 100, nat_lit 111, nat_lit 99, nat_lit 95, nat_lit 95, nat_lit 58, nat_lit 115, nat_lit 116, nat_lit 114, nat_lit 35, nat_lit 111, nat_lit 112, nat_lit 97, nat_lit 113, nat_lit 117, nat_lit 101, nat_lit 6, nat_lit 345, nat_lit 8, nat_lit 95, nat_lit 95, nat_lit 105, nat_lit 110, nat_lit 105, nat_lit 116, nat_lit 95, nat_lit 95, nat_lit 9, nat_lit 62, nat_lit 95, nat_lit 102, nat_lit 114, nat_lit 111, nat_lit 122, nat_lit 101, nat_lit 110, nat_lit 95, nat_lit 105, nat_lit 109, nat_lit 112, nat_lit 111, nat_lit 114, nat_lit 116, nat_lit 108, nat_lit 105, nat_lit 98, nat_lit 95, nat_lit 101, nat_lit 120, nat_lit 116, nat_lit 101, nat_lit 114, nat_lit 110, nat_lit 97, nat_lit 108, nat_lit 46, nat_lit 69, nat_lit 120, nat_lit 116, nat_lit 101, nat_lit 110, nat_lit 115, nat_lit 105, nat_lit 111, nat_lit 110, nat_lit 70, nat_lit 105, nat_lit 108, nat_lit 101, nat_lit 76, nat_lit 111, nat_lit 97, nat_lit 100, nat_lit 101, nat_lit 114, nat_lit 46, nat_lit 95, nat_lit 95, nat_lit 105, nat_lit 110, nat_lit 105, nat_lit 116, nat_lit 95, nat_lit 95, nat_lit 35, nat_lit 111, nat_lit 112, nat_lit 97, nat_lit 113, nat_lit 117, nat_lit 101, nat_lit 6, nat_lit 346, nat_lit 6, nat_lit 95, nat_lit 95, nat_lit 101, nat_lit 113, nat_lit 95, nat_lit 95, nat_lit 9, nat_lit 60, nat_lit 95, nat_lit 102, nat_lit 114, nat_lit 111, nat_lit 122, nat_lit 101, nat_lit 110, nat_lit 95, nat_lit 105, nat_lit 109, nat_lit 112, nat_lit 111, nat_lit 114, nat_lit 116, nat_lit 108, nat_lit 105, nat_lit 98, nat_lit 95, nat_lit 101, nat_lit 120, nat_lit 116, nat_lit 101, nat_lit 114, nat_lit 110, nat_lit 97, nat_lit 108, nat_lit 46, nat_lit 69, nat_lit 120, nat_lit 116, nat_lit 101, nat_lit 110, nat_lit 115, nat_lit 105, nat_lit 111, nat_lit 110, nat_lit 70, nat_lit 105, nat_lit 108, nat_lit 101, nat_lit 76, nat_lit 111, nat_lit 97, nat_lit 100, nat_lit 101, nat_lit 114, nat_lit 46, nat_lit 95, nat_lit 95, nat_lit 101, nat_lit 113, nat_lit 95, nat_lit 95, nat_lit 35, nat_lit 111, nat_lit 112, nat_lit 97, nat_lit 113, nat_lit 117, nat_lit 101, nat_lit 6, nat_lit 347, nat_lit 8, nat_lit 95, nat_lit 95, nat_lit 104, nat_lit 97, nat_lit 115, nat_lit 104, nat_lit 95, nat_lit 95, nat_lit 9, nat_lit 62, nat_lit 95, nat_lit 102, nat_lit 114, nat_lit 111, nat_lit 122, nat_lit 101, nat_lit 110, nat_lit 95, nat_lit 105, nat_lit 109, nat_lit 112, nat_lit 111, nat_lit 114, nat_lit 116, nat_lit 108, nat_lit 105, nat_lit 98, nat_lit 95, nat_lit 101, nat_lit 120, nat_lit 116, nat_lit 101, nat_lit 114, nat_lit 110, nat_lit 97, nat_lit 108, nat_lit 46, nat_lit 69, nat_lit 120, nat_lit 116, nat_lit 101, nat_lit 110, nat_lit 115, nat_lit 105, nat_lit 111, nat_lit 110, nat_lit 70, nat_lit 105, nat_lit 108, nat_lit 101, nat_lit 76, nat_lit 111, nat_lit 97, nat_lit 100, nat_lit 101, nat_lit 114, nat_lit 46, nat_lit 95, nat_lit 95, nat_lit 104, nat_lit 97, nat_lit 115, nat_lit 104, nat_lit 95, nat_lit 95, nat_lit 35, nat_lit 111, nat_lit 112, nat_lit 97, nat_lit 113, nat_lit 117, nat_lit 101, nat_lit 6, nat_lit 348, nat_lit 13, nat_lit 99, nat_lit 114, nat_lit 101, nat_lit 97, nat_lit 116, nat_lit 101, nat_lit 95, nat_lit 109, nat_lit 111, nat_lit 100, nat_lit 117, nat_lit 108, nat_lit 101, nat_lit 9, nat_lit 67, nat_lit 95, nat_lit 102, nat_lit 114, nat_lit 111, nat_lit 122, nat_lit 101, nat_lit 110, nat_lit 95, nat_lit 105, nat_lit 109, nat_lit 112, nat_lit 111, nat_lit 114, nat_lit 116, nat_lit 108, nat_lit 105, nat_lit 98, nat_lit 95, nat_lit 101, nat_lit 120, nat_lit 116, nat_lit 101, nat_lit 114, nat_lit 110, nat_lit 97, nat_lit 108, nat_lit 46, nat_lit 69, nat_lit 120, nat_lit 116, nat_lit 101, nat_lit 110, nat_lit 115, nat_lit 105, nat_lit 111, nat_lit 110, nat_lit 70, nat_lit 105, nat_lit 108, nat_lit 101, nat_lit 76, nat_lit 111, nat_lit 97, nat_lit 100, nat_lit 101, nat_lit 114, nat_lit 46, nat_lit 99, nat_lit 114, nat_lit 101, nat_lit 97, nat_lit 116, nat_lit 101, nat_lit 95, nat_lit 109, nat_lit 111, nat_lit 100, nat_lit 117, nat_lit 108, nat_lit 101, nat_lit 35, nat_lit 111, nat_lit 112, nat_lit 97, nat_lit 113, nat_lit 117, nat_lit 101, nat_lit 6, nat_lit 349, nat_lit 11, nat_lit 101, nat_lit 120, nat_lit 101, nat_lit 99, nat_lit 95, nat_lit 109, nat_lit 111, nat_lit 100, nat_lit 117, nat_lit 108, nat_lit 101, nat_lit 9, nat_lit 65, nat_lit 95, nat_lit 102, nat_lit 114, nat_lit 111, nat_lit 122, nat_lit 101, nat_lit 110, nat_lit 95, nat_lit 105, nat_lit 109, nat_lit 112, nat_lit 111, nat_lit 114, nat_lit 116, nat_lit 108, nat_lit 105, nat_lit 98, nat_lit 95, nat_lit 101, nat_lit 120, nat_lit 116, nat_lit 101, nat_lit 114, nat_lit 110, nat_lit 97, nat_lit 108, nat_lit 46, nat_lit 69, nat_lit 120, nat_lit 116, nat_lit 101, nat_lit 110, nat_lit 115, nat_lit 105, nat_lit 111, nat_lit 110, nat_lit 70, nat_lit 105, nat_lit 108, nat_lit 101, nat_lit 76, nat_lit 111, nat_lit 97, nat_lit 100, nat_lit 101, nat_lit 114, nat_lit 46, nat_lit 101, nat_lit 120, nat_lit 101, nat_lit 99, nat_lit 95, nat_lit 109, nat_lit 111, nat_lit 100, nat_lit 117, nat_lit 108, nat_lit 101, nat_lit 35, nat_lit 111, nat_lit 112, nat_lit 97, nat_lit 113, nat_lit 117, nat_lit 101, nat_lit 6, nat_lit 350, nat_lit 10, nat_lit 105, nat_lit 115, nat_lit 95, nat_lit 112, nat_lit 97, nat_lit 99, nat_lit 107, nat_lit 97, nat_lit 103, nat_lit 101, nat_lit 9, nat_lit 64, nat_lit 95, nat_lit 102, nat_lit 114, nat_lit 111, nat_lit 122, nat_lit 101, nat_lit 110, nat_lit 95, nat_lit 105, nat_lit 109, nat_lit 112, nat_lit 111, nat_lit 114, nat_lit 116, nat_lit 108, nat_lit 105, nat_lit 98, nat_lit 95, nat_lit 101, nat_lit 120, nat_lit 116, nat_lit 101, nat_lit 114, nat_lit 110, nat_lit 97, nat_lit 108, nat_lit 46, nat_lit 69, nat_lit 120, nat_lit 116, nat_lit 101, nat_lit 110, nat_lit 115, nat_lit 105, nat_lit 111, nat_lit 110, nat_lit 70, nat_lit 105, nat_lit 108, nat_lit 101, nat_lit 76, nat_lit 111, nat_lit 97, nat_lit 100, nat_lit 101, nat_lit 114, nat_lit 46, nat_lit 105, nat_lit 115, nat_lit 95, nat_lit 112, nat_lit 97, nat_lit 99, nat_lit 107, nat_lit 97, nat_lit 103, nat_lit 101, nat_lit 35, nat_lit 111, nat_lit 112, nat_lit 97, nat_lit 113, nat_lit 117, nat_lit 101, nat_lit 6, nat_lit 351, nat_lit 8, nat_lit 103, nat_lit 101, nat_lit 116, nat_lit 95, nat_lit 99, nat_lit 111, nat_lit 100, nat_lit 101, nat_lit 9, nat_lit 62, nat_lit 95, nat_lit 102, nat_lit 114, nat_lit 111, nat_lit 122, nat_lit 101, nat_lit 110, nat_lit 95, nat_lit 105, nat_lit 109, nat_lit 112, nat_lit 111, nat_lit 114, nat_lit 116, nat_lit 108, nat_lit 105, nat_lit 98, nat_lit 95, nat_lit 101, nat_lit 120, nat_lit 116, nat_lit 101, nat_lit 114, nat_lit 110, nat_lit 97, nat_lit 108, nat_lit 46, nat_lit 69, nat_lit 120, nat_lit 116, nat_lit 101, nat_lit 110, nat_lit 115, nat_lit 105, nat_lit 111, nat_lit 110, nat_lit 70, nat_lit 105, nat_lit 108, nat_lit 101, nat_lit 76, nat_lit 111, nat_lit 97, nat_lit 100, nat_lit 101, nat_lit 114, nat_lit 46, nat_lit 103, nat_lit 101, nat_lit 116, nat_lit 95, nat_lit 99, nat_lit 111, nat_lit 100, nat_lit 101, nat_lit 35, nat_lit 111, nat_lit 112, nat_lit 97, nat_lit 113, nat_lit 117, nat_lit 101, nat_lit 6, nat_lit 352, nat_lit 10, nat_lit 103, nat_lit 101, nat_lit 116, nat_lit 95, nat_lit 115, nat_lit 111, nat_lit 117, nat_lit 114, nat_lit 99, nat_lit 101, nat_lit 9, nat_lit 64, nat_lit 95, nat_lit 102, nat_lit 114, nat_lit 111, nat_lit 122, nat_lit 101, nat_lit 110, nat_lit 95, nat_lit 105, nat_lit 109, nat_lit 112, nat_lit 111, nat_lit 114, nat_lit 116, nat_lit 108, nat_lit 105, nat_lit 98, nat_lit 95, nat_lit 101, nat_lit 120, nat_lit 116, nat_lit 101, nat_lit 114, nat_lit 110, nat_lit 97, nat_lit 108, nat_lit 46, nat_lit 69, nat_lit 120, nat_lit 116, nat_lit 101, nat_lit 110, nat_lit 115, nat_lit 105, nat_lit 111, nat_lit 110, nat_lit 70, nat_lit 105, nat_lit 108, nat_lit 101, nat_lit 76, nat_lit 111, nat_lit 97, nat_lit 100, nat_lit 101, nat_lit 114, nat_lit 46, nat_lit 103, nat_lit 101, nat_lit 116, nat_lit 95, nat_lit 115, nat_lit 111, nat_lit 117, nat_lit 114, nat_lit 99, nat_lit 101, nat_lit 35, nat_lit 111, nat_lit 112, nat_lit 97, nat_lit 113, nat_lit 117, nat_lit 101, nat_lit 6, nat_lit 353, nat_lit 12, nat_lit 103, nat_lit 101, nat_lit 116, nat_lit 95, nat_lit 102, nat_lit 105, nat_lit 108, nat_lit 101, nat_lit 110, nat_lit 97, nat_lit 109, nat_lit 101, nat_lit 9, nat_lit 66, nat_lit 95, nat_lit 102, nat_lit 114, nat_lit 111, nat_lit 122, nat_lit 101, nat_lit 110, nat_lit 95, nat_lit 105, nat_lit 109, nat_lit 112, nat_lit 111, nat_lit 114, nat_lit 116, nat_lit 108, nat_lit 105, nat_lit 98, nat_lit 95, nat_lit 101, nat_lit 120, nat_lit 116, nat_lit 101, nat_lit 114, nat_lit 110, nat_lit 97, nat_lit 108, nat_lit 46, nat_lit 69, nat_lit 120, nat_lit 116, nat_lit 101, nat_lit 110, nat_lit 115, nat_lit 105, nat_lit 111, nat_lit 110, nat_lit 70, nat_lit 105, nat_lit 108, nat_lit 101, nat_lit 76, nat_lit 111, nat_lit 97, nat_lit 100, nat_lit 101, nat_lit 114, nat_lit 46, nat_lit 103, nat_lit 101, nat_lit 116, nat_lit 95, nat_lit 102, nat_lit 105, nat_lit 108, nat_lit 101, nat_lit 110, nat_lit 97, nat_lit 109, nat_lit 101, nat_lit 35, nat_lit 111, nat_lit 112, nat_lit 97, nat_lit 113, nat_lit 117, nat_lit 101, nat_lit 6, nat_lit 354, nat_lit 21, nat_lit 95, nat_lit 95, nat_lit 115, nat_lit 116, nat_lit 97, nat_lit 116, nat_lit 105, nat_lit 99, nat_lit 95, nat_lit 97, nat_lit 116, nat_lit 116, nat_lit 114, nat_lit 105, nat_lit 98, nat_lit 117, nat_lit 116, nat_lit 101, nat_lit 115, nat_lit 95, nat_lit 95, nat_lit 4, nat_lit 0, nat_lit 0, nat_lit 45]⟩⟩ 0, .bool true, .bool true, .str (Str.ofString "") 355]⟩ 4, ⟨[]⟩⟩
noncomputable def z20 (P : Params) : Obj := ⟨.type "list", none, .seq ⟨[]⟩ 0, ⟨[]⟩⟩
noncomputable def z21 (P : Params) : Obj := ⟨.type "dict", none, .dict ⟨[ent P (Str.ofString "name") 210 (.str (Str.ofString "itertools") 209), ent P (Str.ofString "loader") 211 (.ref 15), ent P (Str.ofString "origin") 212 (.str (Str.ofString "built-in") 186), ent P (Str.ofString "loader_state") 213 (.none), ent P (Str.ofString "submodule_search_locations") 214 (.none), ent P (Str.ofString "_uninitialized_submodules") 215 (.ref 20), ent P (Str.ofString "_set_fileattr") 216 (.bool false), ent P (Str.ofString "_cached") 217 (.none), ent P (Str.ofString "_initializing") 245 (.bool false)]⟩ 9, ⟨[]⟩⟩
noncomputable def z22 (P : Params) : Obj := ⟨.type "dict", none, .dict ⟨[ent P (Str.ofString "__module__") 229 (.str (Str.ofString "_frozen_importlib") 219), ent P (Str.ofString "__firstlineno__") 230 (.int 562 220), ent P (Str.ofString "__doc__") 231 (.builtin "_frozen_importlib.ModuleSpec.__doc__:str#opaque"), ent P (Str.ofString "__init__") 232 (.builtin "_frozen_importlib.ModuleSpec.__init__#opaque"), ent P (Str.ofString "__repr__") 233 (.builtin "_frozen_importlib.ModuleSpec.__repr__#opaque"), ent P (Str.ofString "__eq__") 234 (.builtin "_frozen_importlib.ModuleSpec.__eq__#opaque"), ent P (Str.ofString "cached") 235 (.builtin "_frozen_importlib.ModuleSpec.cached#opaque"), ent P (Str.ofString "parent") 236 (.builtin "_frozen_importlib.ModuleSpec.parent#opaque"), ent P (Str.ofString "has_location") 237 (.builtin "_frozen_importlib.ModuleSpec.has_location#opaque"), ent P (Str.ofString "__static_attributes__") 238 (.ref 24), ent P (Str.ofString "__dict__") 240 (.ref 25), ent P (Str.ofString "__weakref__") 242 (.ref 26), ent P (Str.ofString "__hash__") 243 (.none)]⟩ 13, ⟨[]⟩⟩
noncomputable def z23 (P : Params) : Obj := ⟨.type "type", none, .cls { name := (Str.ofString "ModuleSpec"), bases := [.type "object"], mro := [.ref 23, .type "object"], ns := 22, qualname := (Str.ofString "ModuleSpec"), hasDict := true, slotNames := [], subclasses := [], abstract := false, collection := none, hasDel := false }, ⟨[]⟩⟩
noncomputable def z24 (P : Params) : Obj := ⟨.type "tuple", none, .seq ⟨[.str (Str.ofString "_cached") 221, .str (Str.ofString "_set_fileattr") 222, .str (Str.ofString "_uninitialized_submodules") 223, .str (Str.ofString "loader") 224, .str (Str.ofString "loader_state") 225, .str (Str.ofString "name") 226, .str (Str.ofString "origin") 227, .str (Str.ofString "submodule_search_locations") 228]⟩ 0, ⟨[]⟩⟩
noncomputable def z25 (P : Params) : Obj := ⟨.type "getset_descriptor", none, .fields ⟨[.str (Str.ofString "__dict__") 239, .ref 23, .builtin "function.__dict__", .builtin "function.__dict__#set"]⟩, ⟨[]⟩⟩
noncomputable def z26 (P : Params) : Obj := ⟨.type "getset_descriptor", none, .fields ⟨[.str (Str.ofString "__weakref__") 241, .ref 23, .builtin "ExceptionGroup.__weakref__", .none]⟩, ⟨[]⟩⟩
noncomputable def z27 (P : Params) : Obj := ⟨.ref 23, (some 21), .plain, ⟨[]⟩⟩
noncomputable def z28 (P : Params) : Obj := ⟨.none, none, .seq ⟨[.int 12 0, .str ⟨⟨[nat_lit 6, nat_lit 250, nat_lit 8, nat_lit 95, nat_lit 95, nat_lit 110, nat_lit 97, nat_lit 109, nat_lit 101, nat_lit 95, nat_lit 95, nat_lit 6, nat_lit 249, nat_lit 9, nat_lit 105, nat_lit 116, nat_lit 101, nat_lit 114, nat_lit 116, nat_lit 111, nat_lit 111, nat_lit 108, nat_lit 115, nat_lit 6, nat_lit 251, nat_lit 7, nat_lit 95, nat_lit 95, nat_lit 100, nat_lit 111, nat_lit 99, nat_lit 95, nat_lit 95, nat_lit 9, nat_lit 28, nat_lit 105, nat_lit 116, nat_lit 101, nat_lit 114, nat_lit 116, nat_lit 111, nat_lit 111, nat_lit 108, nat_lit 115, nat_lit 46, nat_lit 95, nat_lit 95, nat_lit 100, nat_lit 111, nat_lit 99, nat_lit 95, nat_lit 95, nat_lit 58, nat_lit 115, nat_lit 116, nat_lit 114, nat_lit 35, nat_lit 111, nat_lit 112, nat_lit 97, nat_lit 113, nat_lit 117, nat_lit 101, nat_lit 6, nat_lit 253, nat_lit 11, nat_lit 95, nat_lit 95, nat_lit 112, nat_lit 97, nat_lit 99, nat_lit 107, nat_lit 97, nat_lit 103, nat_lit 101, nat_lit 95, nat_lit 95, nat_lit 6, nat_lit 252, nat_lit 0, nat_lit 6, nat_lit 254, nat_lit 10, nat_lit 95, nat_lit 95, nat_lit 108, nat_lit 111, nat_lit 97, nat_lit 100, nat_lit 101, nat_lit 114, nat_lit 95, nat_lit 95, nat_lit 4, nat_lit 0, nat_lit 0, nat_lit 15, nat_lit 6, nat_lit 255, nat_lit 8, nat_lit 95, nat_lit 95, nat_lit 115, nat_lit 112, nat_lit 101, nat_lit 99, nat_lit 95, nat_lit 95, nat_lit 4, nat_lit 0, nat_lit 0, nat_lit 27, nat_lit 6, nat_lit 256, nat_lit 3, nat_lit 116, nat_lit 101, nat_lit 101, nat_lit 9, nat_lit 13, nat_lit 105, nat_lit 116, nat_lit 101, nat_lit 114, nat_lit 116, nat_lit 111, nat_lit 111, nat_lit 108, nat_lit 115, nat_lit 46, nat_lit 116, nat_lit 101, nat_lit 101, nat_lit 6, nat_lit 257, nat_lit 10, nat_lit 97, nat_lit 99, nat_lit 99, nat_lit 117, nat_lit 109, nat_lit 117, nat_lit 108, nat_lit 97, nat_lit 116, nat_lit 101, nat_lit 8, nat_lit 20, nat_lit 105, nat_lit 116, nat_lit 101, nat_lit 114, nat_lit 116, nat_lit 111, nat_lit 111, nat_lit 108, nat_lit 115, nat_lit 46, nat_lit 97, nat_lit 99, nat_lit 99, nat_lit 117, nat_lit 109, nat_lit 117, nat_lit 108, nat_lit 97, nat_lit 116, nat_lit 101, nat_lit 6, nat_lit 258, nat_lit 7, nat_lit 98, nat_lit 97, nat_lit 116, nat_lit 99, nat_lit 104, nat_lit 101, nat_lit 100, nat_lit 8, nat_lit 17, nat_lit 105, nat_lit 116, nat_lit 101, nat_lit 114, nat_lit 116, nat_lit 111, nat_lit 111, nat_lit 108, nat_lit 115, nat_lit 46, nat_lit 98, nat_lit 97, nat_lit 116, nat_lit 99, nat_lit 104, nat_lit 101, nat_lit 100, nat_lit 6, nat_lit 259, nat_lit 5, nat_lit 99, nat_lit 104, nat_lit 97, nat_lit 105, nat_lit 110, nat_lit 8, nat_lit 15, nat_lit 105, nat_lit 116, nat_lit 101, nat_lit 114, nat_lit 116, nat_lit 111, nat_lit 111, nat_lit 108, nat_lit 115, nat_lit 46, nat_lit 99, nat_lit 104, nat_lit 97, nat_lit 105, nat_lit 110, nat_lit 6, nat_lit 260, nat_lit 12, nat_lit 99, nat_lit 111, nat_lit 109, nat_lit 98, nat_lit 105, nat_lit 110, nat_lit 97, nat_lit 116, nat_lit 105, nat_lit 111, nat_lit 110, nat_lit 115, nat_lit 8, nat_lit 22, nat_lit 105, nat_lit 116, nat_lit 101, nat_lit 114, nat_lit 116, nat_lit 111, nat_lit 111, nat_lit 108, nat_lit 115, nat_lit 46, nat_lit 99, nat_lit 111, nat_lit 109, nat_lit 98, nat_lit 105, nat_lit 110, nat_lit 97, nat_lit 116, nat_lit 105, nat_lit 111, nat_lit 110, nat_lit 115, nat_lit 6, nat_lit 261, nat_lit 8, nat_lit 99, nat_lit 111, nat_lit 109, nat_lit 112, nat_lit 114, nat_lit 101, nat_lit 115, nat_lit 115, nat_lit 8, nat_lit 18, nat_lit 105, nat_lit 116, nat_lit 101, nat_lit 114, nat_lit 116, nat_lit 111, nat_lit 111, nat_lit 108, nat_lit 115, nat_lit 46, nat_lit 99, nat_lit 111, nat_lit 109, nat_lit 112, nat_lit 114, nat_lit 101, nat_lit 115, nat_lit 115, nat_lit 6, nat_lit 262, nat_lit 5, nat_lit 99, nat_lit 111, nat_lit 117, nat_lit 110, nat_lit 116, nat_lit 8, nat_lit 15, nat_lit 105, nat_lit 116, nat_lit 101, nat_lit 114, nat_lit 116, nat_lit 111, nat_lit 111, nat_lit 108, nat_lit 115, nat_lit 46, nat_lit 99, nat_lit 111, nat_lit 117, nat_lit 110, nat_lit 116, nat_lit 6, nat_lit 263, nat_lit 29, nat_lit 99, nat_lit 111, nat_lit 109, nat_lit 98, nat_lit 105, nat_lit 110, nat_lit 97, nat_lit 116, nat_lit 105, nat_lit 111, nat_lit 110, nat_lit 115, nat_lit 95, nat_lit 119, nat_lit 105, nat_lit 116, nat_lit 104, nat_lit 95, nat_lit 114, nat_lit 101, nat_lit 112, nat_lit 108, nat_lit 97, nat_lit 99, nat_lit 101, nat_lit 109, nat_lit 101, nat_lit 110, nat_lit 116, nat_lit 8, nat_lit 39, nat_lit 105, nat_lit 116, nat_lit 101, nat_lit 114, nat_lit 116, nat_lit 111, nat_lit 111, nat_lit 108, nat_lit 115, nat_lit 46, nat_lit 99, nat_lit 111, nat_lit 109, nat_lit 98, nat_lit 105, nat_lit 110, nat_lit 97, nat_lit 116, nat_lit 105, nat_lit 111, nat_lit 110, nat_lit 115, nat_lit 95, nat_lit 119, nat_lit 105, nat_lit 116, nat_lit 104, nat_lit 95, nat_lit 114, nat_lit 101, nat_lit 112, nat_lit 108, nat_lit 97, nat_lit 99, nat_lit 101, nat_lit 109, nat_lit 101, nat_lit 110, nat_lit 116, nat_lit 6, nat_lit 264, nat_lit 5, nat_lit 99, nat_lit 121, nat_lit 99, nat_lit 108, nat_lit 101, nat_lit 8, nat_lit 15, nat_lit 105, nat_lit 116, nat_lit 101, nat_lit 114, nat_lit 116, nat_lit 111, nat_lit 111, nat_lit 108, nat_lit 115, nat_lit 46, nat_lit 99, nat_lit 121, nat_lit 99, nat_lit 108, nat_lit 101, nat_lit 6, nat_lit 265, nat_lit 9, nat_lit 100, nat_lit 114, nat_lit 111, nat_lit 112, nat_lit 119, nat_lit 104, nat_lit 105, nat_lit 108, nat_lit 101, nat_lit 8, nat_lit 19, nat_lit 105, nat_lit 116, nat_lit 101, nat_lit 114, nat_lit 116, nat_lit 111, nat_lit 111, nat_lit 108, nat_lit 115, nat_lit 46, nat_lit 100, nat_lit 114, nat_lit 111, nat_lit 112, nat_lit 119, nat_lit 104, nat_lit 105, nat_lit 108, nat_lit 101, nat_lit 6, nat_lit 266, nat_lit 11, nat_lit 102, nat_lit 105, nat_lit 108, nat_lit 116, nat_lit 101, nat_lit 114, nat_lit 102, nat_lit 97, nat_lit 108, nat_lit 115, nat_lit 101, nat_lit 8, nat_lit 21, nat_lit 105, nat_lit 116, nat_lit 101, nat_lit 114, nat_lit 116, nat_lit 111, nat_lit 111, nat_lit 108, nat_lit 115, nat_lit 46, nat_lit 102, nat_lit 105, nat_lit 108, nat_lit 116, nat_lit 101, nat_lit 114, nat_lit 102, nat_lit 97, nat_lit 108, nat_lit 115, nat_lit 101, nat_lit 6, nat_lit 267, nat_lit 7, nat_lit 103, nat_lit 114, nat_lit 111, nat_lit 117, nat_lit 112, nat_lit 98, nat_lit 121, nat_lit 8, nat_lit 17, nat_lit 105, nat_lit 116, nat_lit 101, nat_lit 114, nat_lit 116, nat_lit 111, nat_lit 111, nat_lit 108, nat_lit 115, nat_lit 46, nat_lit 103, nat_lit 114, nat_lit 111, nat_lit 117, nat_lit 112, nat_lit 98, nat_lit 121, nat_lit 6, nat_lit 268, nat_lit 8, nat_lit 95, nat_lit 103, nat_lit 114, nat_lit 111, nat_lit 117, nat_lit 112, nat_lit 101, nat_lit 114, nat_lit 8, nat_lit 18, nat_lit 105, nat_lit 116, nat_lit 101, nat_lit 114, nat_lit 116, nat_lit 111, nat_lit 111, nat_lit 108, nat_lit 115, nat_lit 46, nat_lit 95, nat_lit 103, nat_lit 114, nat_lit 111, nat_lit 117, nat_lit 112, nat_lit 101, nat_lit 114, nat_lit 6, nat_lit 269, nat_lit 6, nat_lit 105, nat_lit 115, nat_lit 108, nat_lit 105, nat_lit 99, nat_lit 101, nat_lit 8, nat_lit 16, nat_lit 105, nat_lit 116, nat_lit 101, nat_lit 114, nat_lit 116, nat_lit 111, nat_lit 111, nat_lit 108, nat_lit 115, nat_lit 46, nat_lit 105, nat_lit 115, nat_lit 108, nat_lit 105, nat_lit 99, nat_lit 101, nat_lit 6, nat_lit 270, nat_lit 8, nat_lit 112, nat_lit 97, nat_lit 105, nat_lit 114, nat_lit 119, nat_lit 105, nat_lit 115, nat_lit 101, nat_lit 8, nat_lit 18, nat_lit 105, nat_lit 116, nat_lit 101, nat_lit 114, nat_lit 116, nat_lit 111, nat_lit 111, nat_lit 108, nat_lit 115, nat_lit 46, nat_lit 112, nat_lit 97, nat_lit 105, nat_lit 114, nat_lit 119, nat_lit 105, nat_lit 115, nat_lit 101, nat_lit 6, nat_lit 271, nat_lit 12, nat_lit 112, nat_lit 101, nat_lit 114, nat_lit 109, nat_lit 117, nat_lit 116, nat_lit 97, nat_lit 116, nat_lit 105, nat_lit 111, nat_lit 110, nat_lit 115, nat_lit 8, nat_lit 22, nat_lit 105, nat_lit 116, nat_lit 101, nat_lit 114, nat_lit 116, nat_lit 111, nat_lit 111, nat_lit 108, nat_lit 115, nat_lit 46, nat_lit 112, nat_lit 101, nat_lit 114, nat_lit 109, nat_lit 117, nat_lit 116, nat_lit 97, nat_lit 116, nat_lit 105, nat_lit 111, nat_lit 110, nat_lit 115, nat_lit 6, nat_lit 272, nat_lit 7, nat_lit 112, nat_lit 114, nat_lit 111, nat_lit 100, nat_lit 117, nat_lit 99, nat_lit 116, nat_lit 8, nat_lit 17, nat_lit 105, nat_lit 116, nat_lit 101, nat_lit 114, nat_lit 116, nat_lit 111, nat_lit 111, nat_lit 108, nat_lit 115, nat_lit 46, nat_lit 112, nat_lit 114, nat_lit 111, nat_lit 100, nat_lit 117, nat_lit 99, nat_lit 116, nat_lit 6, nat_lit 273, nat_lit 6, nat_lit 114, nat_lit 101, nat_lit 112, nat_lit 101, nat_lit 97, nat_lit 116, nat_lit 8, nat_lit 16, nat_lit 105, nat_lit 116, nat_lit 101, nat_lit 114, nat_lit 116, nat_lit 111, nat_lit 111, nat_lit 108, nat_lit 115, nat_lit 46, nat_lit 114, nat_lit 101, nat_lit 112, nat_lit 101, nat_lit 97, nat_lit 116, nat_lit 6, nat_lit 274, nat_lit 7, nat_lit 115, nat_lit 116, nat_lit 97, nat_lit 114, nat_lit 109, nat_lit 97, nat_lit 112, nat_lit 8, nat_lit 17, nat_lit 105, nat_lit 116, nat_lit 101, nat_lit 114, nat_lit 116, nat_lit 111, nat_lit 111, nat_lit 108, nat_lit 115, nat_lit 46, nat_lit 115, nat_lit 116, nat_lit 97, nat_lit 114, nat_lit 109, nat_lit 97, nat_lit 112, nat_lit 6, nat_lit 275, nat_lit 9, nat_lit 116, nat_lit 97, nat_lit 107, nat_lit 101, nat_lit 119, nat_lit 104, nat_lit 105, nat_lit 108, nat_lit 101, nat_lit 8, nat_lit 19, nat_lit 105, nat_lit 116, nat_lit 101, nat_lit 114, nat_lit 116, nat_lit 111, nat_lit 111, nat_lit 108, nat_lit 115, nat_lit 46, nat_lit 116, nat_lit 97, nat_lit 107, nat_lit 101, nat_lit 119, nat_lit 104, nat_lit 105, nat_lit 108, nat_lit 101, nat_lit 6, nat_lit 276, nat_lit 4, nat_lit 95, nat_lit 116, nat_lit 101, nat_lit 101, nat_lit 8, nat_lit 14, nat_lit 105, nat_lit 116, nat_lit 101, nat_lit 114, nat_lit 116, nat_lit 111, nat_lit 111, nat_lit 108, nat_lit 115, nat_lit 46, nat_lit 95, nat_lit 116, nat_lit 101, nat_lit 101, nat_lit 6, nat_lit 277, nat_lit 15, nat_lit 95, nat_lit 116, nat_lit 101, nat_lit 101, nat_lit 95, nat_lit 100, nat_lit 97, nat_lit 116, nat_lit 97, nat_lit 111, nat_lit 98, nat_lit 106, nat_lit 101, nat_lit 99, nat_lit 116, nat_lit 8, nat_lit 25, nat_lit 105, nat_lit 116, nat_lit 101, nat_lit 114, nat_lit 116, nat_lit 111, nat_lit 111, nat_lit 108, nat_lit 115, nat_lit 46, nat_lit 95, nat_lit 116, nat_lit 101, nat_lit 101, nat_lit 95, nat_lit 100, nat_lit 97, nat_lit 116, nat_lit 97, nat_lit 111, nat_lit 98, nat_lit 106, nat_lit 101, nat_lit 99, nat_lit 116, nat_lit 6, nat_lit 278, nat_lit 11, nat_lit 122, nat_lit 105, nat_lit 112, nat_lit 95, nat_lit 108, nat_lit 111, nat_lit 110, nat_lit 103, nat_lit 101, nat_lit 115, nat_lit 116, nat_lit 8, nat_lit 21, nat_lit 105, nat_lit 116, nat_lit 101, nat_lit 114, nat_lit 116, nat_lit 111, nat_lit 111, nat_lit 108, nat_lit 115, nat_lit 46, nat_lit 122, nat_lit 105, nat_lit 112, nat_lit 95, nat_lit 108, nat_lit 111, nat_lit 110, nat_lit 103, nat_lit 101, nat_lit 115, nat_lit 116]⟩⟩ 0, .bool true, .bool false, .str (Str.ofString "itertools") 280, .int 30 0, .str ⟨⟨[nat_lit 6, nat_lit 369, nat_lit 8, nat_lit 95, nat_lit 95, nat_lit 110, nat_lit 97, nat_lit 109, nat_lit 101, nat_lit 95, nat_lit 95, nat_lit 6, nat_lit 368, nat_lit 4, nat_lit 109, nat_lit 97, nat_lit 116, nat_lit 104, nat_lit 6, nat_lit 370, nat_lit 7, nat_lit 95, nat_lit 95, nat_lit 100, nat_lit 111, nat_lit 99, nat_lit 95, nat_lit 95, nat_lit 9, nat_lit 23, nat_lit 109, nat_lit 97, nat_lit 116, nat_lit 104, nat_lit 46, nat_lit 95, nat_lit 95, nat_lit 100, nat_lit 111, nat_lit 99, nat_lit 95, nat_lit 95, nat_lit 58, nat_lit 115, nat_lit 116, nat_lit 114, nat_lit 35, nat_lit 111, nat_lit 112, nat_lit 97, nat_lit 113, nat_lit 117, nat_lit 101, nat_lit 6, nat_lit 372, nat_lit 11, nat_lit 95, nat_lit 95, nat_lit 112, nat_lit 97, nat_lit 99, nat_lit 107, nat_lit 97, nat_lit 103, nat_lit 101, nat_lit 95, nat_lit 95, nat_lit 6, nat_lit 371, nat_lit 0, nat_lit 6, nat_lit 373, nat_lit 10, nat_lit 95, nat_lit 95, nat_lit 108, nat_lit 111, nat_lit 97, nat_lit 100, nat_lit 101, nat_lit 114, nat_lit 95, nat_lit 95, nat_lit 4, nat_lit 0, nat_lit 0, nat_lit 46, nat_lit 6, nat_lit 374, nat_lit 8, nat_lit 95, nat_lit 95, nat_lit 115, nat_lit 112, nat_lit 101, nat_lit 99, nat_lit 95, nat_lit 95, nat_lit 4, nat_lit 0, nat_lit 0, nat_lit 49, nat_lit 6, nat_lit 375, nat_lit 4, nat_lit 97, nat_lit 99, nat_lit 111, nat_lit 115, nat_lit 9, nat_lit 9, nat_lit 109, nat_lit 97, nat_lit 116, nat_lit 104, nat_lit 46, nat_lit 97, nat_lit 99, nat_lit 111, nat_lit 115, nat_lit 6, nat_lit 376, nat_lit 5, nat_lit 97, nat_lit 99, nat_lit 111, nat_lit 115, nat_lit 104, nat_lit 9, nat_lit 10, nat_lit 109, nat_lit 97, nat_lit 116, nat_lit 104, nat_lit 46, nat_lit 97, nat_lit 99, nat_lit 111, nat_lit 115, nat_lit 104, nat_lit 6, nat_lit 377, nat_lit 4, nat_lit 97, nat_lit 115, nat_lit 105, nat_lit 110, nat_lit 9, nat_lit 9, nat_lit 109, nat_lit 97, nat_lit 116, nat_lit 104, nat_lit 46, nat_lit 97, nat_lit 115, nat_lit 105, nat_lit 110, nat_lit 6, nat_lit 378, nat_lit 5, nat_lit 97, nat_lit 115, nat_lit 105, nat_lit 110, nat_lit 104, nat_lit 9, nat_lit 10, nat_lit 109, nat_lit 97, nat_lit 116, nat_lit 104, nat_lit 46, nat_lit 97, nat_lit 115, nat_lit 105, nat_lit 110, nat_lit 104, nat_lit 6, nat_lit 379, nat_lit 4, nat_lit 97, nat_lit 116, nat_lit 97, nat_lit 110, nat_lit 9, nat_lit 9, nat_lit 109, nat_lit 97, nat_lit 116, nat_lit 104, nat_lit 46, nat_lit 97, nat_lit 116, nat_lit 97, nat_lit 110, nat_lit 6, nat_lit 380, nat_lit 5, nat_lit 97, nat_lit 116, nat_lit 97, nat_lit 110, nat_lit 50, nat_lit 9, nat_lit 10, nat_lit 109, nat_lit 97, nat_lit 116, nat_lit 104, nat_lit 46, nat_lit 97, nat_lit 116, nat_lit 97, nat_lit 110, nat_lit 50, nat_lit 6, nat_lit 381, nat_lit 5, nat_lit 97, nat_lit 116, nat_lit 97, nat_lit 110, nat_lit 104, nat_lit 9, nat_lit 10, nat_lit 109, nat_lit 97, nat_lit 116, nat_lit 104, nat_lit 46, nat_lit 97, nat_lit 116, nat_lit 97, nat_lit 110, nat_lit 104, nat_lit 6, nat_lit 382, nat_lit 4, nat_lit 99, nat_lit 98, nat_lit 114, nat_lit 116, nat_lit 9, nat_lit 9, nat_lit 109, nat_lit 97, nat_lit 116, nat_lit 104, nat_lit 46, nat_lit 99, nat_lit 98, nat_lit 114, nat_lit 116, nat_lit 6, nat_lit 383, nat_lit 4, nat_lit 99, nat_lit 101, nat_lit 105, nat_lit 108, nat_lit 9, nat_lit 9, nat_lit 109, nat_lit 97, nat_lit 116, nat_lit 104, nat_lit 46, nat_lit 99, nat_lit 101, nat_lit 105, nat_lit 108, nat_lit 6, nat_lit 384, nat_lit 8, nat_lit 99, nat_lit 111, nat_lit 112, nat_lit 121, nat_lit 115, nat_lit 105, nat_lit 103, nat_lit 110, nat_lit 9, nat_lit 13, nat_lit 109, nat_lit 97, nat_lit 116, nat_lit 104, nat_lit 46, nat_lit 99, nat_lit 111, nat_lit 112, nat_lit 121, nat_lit 115, nat_lit 105, nat_lit 103, nat_lit 110, nat_lit 6, nat_lit 385, nat_lit 3, nat_lit 99, nat_lit 111, nat_lit 115, nat_lit 9, nat_lit 8, nat_lit 109, nat_lit 97, nat_lit 116, nat_lit 104, nat_lit 46, nat_lit 99, nat_lit 111, nat_lit 115, nat_lit 6, nat_lit 386, nat_lit 4, nat_lit 99, nat_lit 111, nat_lit 115, nat_lit 104, nat_lit 9, nat_lit 9, nat_lit 109, nat_lit 97, nat_lit 116, nat_lit 104, nat_lit 46, nat_lit 99, nat_lit 111, nat_lit 115, nat_lit 104, nat_lit 6, nat_lit 387, nat_lit 7, nat_lit 100, nat_lit 101, nat_lit 103, nat_lit 114, nat_lit 101, nat_lit 101, nat_lit 115, nat_lit 9, nat_lit 12, nat_lit 109, nat_lit 97, nat_lit 116, nat_lit 104, nat_lit 46, nat_lit 100, nat_lit 101, nat_lit 103, nat_lit 114, nat_lit 101, nat_lit 101, nat_lit 115, nat_lit 6, nat_lit 388, nat_lit 4, nat_lit 100, nat_lit 105, nat_lit 115, nat_lit 116, nat_lit 9, nat_lit 9, nat_lit 109, nat_lit 97, nat_lit 116, nat_lit 104, nat_lit 46, nat_lit 100, nat_lit 105, nat_lit 115, nat_lit 116, nat_lit 6, nat_lit 389, nat_lit 3, nat_lit 101, nat_lit 114, nat_lit 102, nat_lit 9, nat_lit 8, nat_lit 109, nat_lit 97, nat_lit 116, nat_lit 104, nat_lit 46, nat_lit 101, nat_lit 114, nat_lit 102, nat_lit 6, nat_lit 390, nat_lit 4, nat_lit 101, nat_lit 114, nat_lit 102, nat_lit 99, nat_lit 9, nat_lit 9, nat_lit 109, nat_lit 97, nat_lit 116, nat_lit 104, nat_lit 46, nat_lit 101, nat_lit 114, nat_lit 102, nat_lit 99, nat_lit 6, nat_lit 391, nat_lit 3, nat_lit 101, nat_lit 120, nat_lit 112, nat_lit 9, nat_lit 8, nat_lit 109, nat_lit 97, nat_lit 116, nat_lit 104, nat_lit 46, nat_lit 101, nat_lit 120, nat_lit 112, nat_lit 6, nat_lit 392, nat_lit 4, nat_lit 101, nat_lit 120, nat_lit 112, nat_lit 50, nat_lit 9, nat_lit 9, nat_lit 109, nat_lit 97, nat_lit 116, nat_lit 104, nat_lit 46, nat_lit 101, nat_lit 120, nat_lit 112, nat_lit 50, nat_lit 6, nat_lit 393, nat_lit 5, nat_lit 101, nat_lit 120, nat_lit 112, nat_lit 109, nat_lit 49, nat_lit 9, nat_lit 10, nat_lit 109, nat_lit 97, nat_lit 116, nat_lit 104, nat_lit 46, nat_lit 101, nat_lit 120, nat_lit 112, nat_lit 109, nat_lit 49, nat_lit 6, nat_lit 394, nat_lit 4, nat_lit 102, nat_lit 97, nat_lit 98, nat_lit 115, nat_lit 9, nat_lit 9, nat_lit 109, nat_lit 97, nat_lit 116, nat_lit 104, nat_lit 46, nat_lit 102, nat_lit 97, nat_lit 98, nat_lit 115, nat_lit 6, nat_lit 395, nat_lit 9, nat_lit 102, nat_lit 97, nat_lit 99, nat_lit 116, nat_lit 111, nat_lit 114, nat_lit 105, nat_lit 97, nat_lit 108, nat_lit 9, nat_lit 14, nat_lit 109, nat_lit 97, nat_lit 116, nat_lit 104, nat_lit 46, nat_lit 102, nat_lit 97, nat_lit 99, nat_lit 116, nat_lit 111, nat_lit 114, nat_lit 105, nat_lit 97, nat_lit 108, nat_lit 6, nat_lit 396, nat_lit 5, nat_lit 102, nat_lit 108, nat_lit 111, nat_lit 111, nat_lit 114, nat_lit 9, nat_lit 10, nat_lit 109, nat_lit 97, nat_lit 116, nat_lit 104, nat_lit 46, nat_lit 102, nat_lit 108, nat_lit 111, nat_lit 111, nat_lit 114, nat_lit 6, nat_lit 397, nat_lit 3, nat_lit 102, nat_lit 109, nat_lit 97, nat_lit 9, nat_lit 8, nat_lit 109, nat_lit 97, nat_lit 116, nat_lit 104, nat_lit 46, nat_lit 102, nat_lit 109, nat_lit 97, nat_lit 6, nat_lit 398, nat_lit 4, nat_lit 102, nat_lit 109, nat_lit 111, nat_lit 100, nat_lit 9, nat_lit 9, nat_lit 109, nat_lit 97, nat_lit 116, nat_lit 104, nat_lit 46, nat_lit 102, nat_lit 109, nat_lit 111, nat_lit 100, nat_lit 6, nat_lit 399, nat_lit 5, nat_lit 102, nat_lit 114, nat_lit 101, nat_lit 120, nat_lit 112, nat_lit 9, nat_lit 10, nat_lit 109, nat_lit 97, nat_lit 116, nat_lit 104, nat_lit 46, nat_lit 102, nat_lit 114, nat_lit 101, nat_lit 120, nat_lit 112, nat_lit 6, nat_lit 400, nat_lit 4, nat_lit 102, nat_lit 115, nat_lit 117, nat_lit 109, nat_lit 9, nat_lit 9, nat_lit 109, nat_lit 97, nat_lit 116, nat_lit 104, nat_lit 46, nat_lit 102, nat_lit 115, nat_lit 117, nat_lit 109, nat_lit 6, nat_lit 401, nat_lit 5, nat_lit 103, nat_lit 97, nat_lit 109, nat_lit 109, nat_lit 97, nat_lit 9, nat_lit 10, nat_lit 109, nat_lit 97, nat_lit 116, nat_lit 104, nat_lit 46, nat_lit 103, nat_lit 97, nat_lit 109, nat_lit 109, nat_lit 97, nat_lit 6, nat_lit 402, nat_lit 3, nat_lit 103, nat_lit 99, nat_lit 100, nat_lit 9, nat_lit 8, nat_lit 109, nat_lit 97, nat_lit 116, nat_lit 104, nat_lit 46, nat_lit 103, nat_lit 99, nat_lit 100, nat_lit 6, nat_lit 403, nat_lit 5, nat_lit 104, nat_lit 121, nat_lit 112, nat_lit 111, nat_lit 116, nat_lit 9, nat_lit 10, nat_lit 109, nat_lit 97, nat_lit 116, nat_lit 104, nat_lit 46, nat_lit 104, nat_lit 121, nat_lit 112, nat_lit 111, nat_lit 116, nat_lit 6, nat_lit 404, nat_lit 7, nat_lit 105, nat_lit 115, nat_lit 99, nat_lit 108, nat_lit 111, nat_lit 115, nat_lit 101, nat_lit 9, nat_lit 12, nat_lit 109, nat_lit 97, nat_lit 116, nat_lit 104, nat_lit 46, nat_lit 105, nat_lit 115, nat_lit 99, nat_lit 108, nat_lit 111, nat_lit 115, nat_lit 101, nat_lit 6, nat_lit 405, nat_lit 8, nat_lit 105, nat_lit 115, nat_lit 102, nat_lit 105, nat_lit 110, nat_lit 105, nat_lit 116, nat_lit 101, nat_lit 9, nat_lit 13, nat_lit 109, nat_lit 97, nat_lit 116, nat_lit 104, nat_lit 46, nat_lit 105, nat_lit 115, nat_lit 102, nat_lit 105, nat_lit 110, nat_lit 105, nat_lit 116, nat_lit 101, nat_lit 6, nat_lit 406, nat_lit 5, nat_lit 105, nat_lit 115, nat_lit 105, nat_lit 110, nat_lit 102, nat_lit 9, nat_lit 10, nat_lit 109, nat_lit 97, nat_lit 116, nat_lit 104, nat_lit 46, nat_lit 105, nat_lit 115, nat_lit 105, nat_lit 110, nat_lit 102, nat_lit 6, nat_lit 407, nat_lit 5, nat_lit 105, nat_lit 115, nat_lit 110, nat_lit 97, nat_lit 110, nat_lit 9, nat_lit 10, nat_lit 109, nat_lit 97, nat_lit 116, nat_lit 104, nat_lit 46, nat_lit 105, nat_lit 115, nat_lit 110, nat_lit 97, nat_lit 110, nat_lit 6, nat_lit 408, nat_lit 5, nat_lit 105, nat_lit 115, nat_lit 113, nat_lit 114, nat_lit 116, nat_lit 9, nat_lit 10, nat_lit 109, nat_lit 97, nat_lit 116, nat_lit 104, nat_lit 46, nat_lit 105, nat_lit 115, nat_lit 113, nat_lit 114, nat_lit 116, nat_lit 6, nat_lit 409, nat_lit 3, nat_lit 108, nat_lit 99, nat_lit 109, nat_lit 9, nat_lit 8, nat_lit 109, nat_lit 97, nat_lit 116, nat_lit 104, nat_lit 46, nat_lit 108, nat_lit 99, nat_lit 109, nat_lit 6, nat_lit 410, nat_lit 5, nat_lit 108, nat_lit 100, nat_lit 101, nat_lit 120, nat_lit 112, nat_lit 9, nat_lit 10, nat_lit 109, nat_lit 97, nat_lit 116, nat_lit 104, nat_lit 46, nat_lit 108, nat_lit 100, nat_lit 101, nat_lit 120, nat_lit 112, nat_lit 6, nat_lit 411, nat_lit 6, nat_lit 108, nat_lit 103, nat_lit 97, nat_lit 109, nat_lit 109, nat_lit 97, nat_lit 9, nat_lit 11, nat_lit 109, nat_lit 97, nat_lit 116, nat_lit 104, nat_lit 46, nat_lit 108, nat_lit 103, nat_lit 97, nat_lit 109, nat_lit 109, nat_lit 97, nat_lit 6, nat_lit 412, nat_lit 3, nat_lit 108, nat_lit 111, nat_lit 103, nat_lit 9, nat_lit 8, nat_lit 109, nat_lit 97, nat_lit 116, nat_lit 104, nat_lit 46, nat_lit 108, nat_lit 111, nat_lit 103, nat_lit 6, nat_lit 413, nat_lit 5, nat_lit 108, nat_lit 111, nat_lit 103, nat_lit 49, nat_lit 112, nat_lit 9, nat_lit 10, nat_lit 109, nat_lit 97, nat_lit 116, nat_lit 104, nat_lit 46, nat_lit 108, nat_lit 111, nat_lit 103, nat_lit 49, nat_lit 112, nat_lit 6, nat_lit 414, nat_lit 5, nat_lit 108, nat_lit 111, nat_lit 103, nat_lit 49, nat_lit 48, nat_lit 9, nat_lit 10, nat_lit 109, nat_lit 97, nat_lit 116, nat_lit 104, nat_lit 46, nat_lit 108, nat_lit 111, nat_lit 103, nat_lit 49, nat_lit 48, nat_lit 6, nat_lit 415, nat_lit 4, nat_lit 108, nat_lit 111, nat_lit 103, nat_lit 50, nat_lit 9, nat_lit 9, nat_lit 109, nat_lit 97, nat_lit 116, nat_lit 104, nat_lit 46, nat_lit 108, nat_lit 111, nat_lit 103, nat_lit 50, nat_lit 6, nat_lit 416, nat_lit 4, nat_lit 109, nat_lit 111, nat_lit 100, nat_lit 102, nat_lit 9, nat_lit 9, nat_lit 109, nat_lit 97, nat_lit 116, nat_lit 104, nat_lit 46, nat_lit 109, nat_lit 111, nat_lit 100, nat_lit 102, nat_lit 6, nat_lit 417, nat_lit 3, nat_lit 112, nat_lit 111, nat_lit 119, nat_lit 9, nat_lit 8, nat_lit 109, nat_lit 97, nat_lit 116, nat_lit 104, nat_lit 46, nat_lit 112, nat_lit 111, nat_lit 119, nat_lit 6, nat_lit 418, nat_lit 7, nat_lit 114, nat_lit 97, nat_lit 100, nat_lit 105, nat_lit 97, nat_lit 110, nat_lit 115, nat_lit 9, nat_lit 12, nat_lit 109, nat_lit 97, nat_lit 116, nat_lit 104, nat_lit 46, nat_lit 114, nat_lit 97, nat_lit 100, nat_lit 105, nat_lit 97, nat_lit 110, nat_lit 115, nat_lit 6, nat_lit 419, nat_lit 9, nat_lit 114, nat_lit 101, nat_lit 109, nat_lit 97, nat_lit 105, nat_lit 110, nat_lit 100, nat_lit 101, nat_lit 114, nat_lit 9, nat_lit 14, nat_lit 109, nat_lit 97, nat_lit 116, nat_lit 104, nat_lit 46, nat_lit 114, nat_lit 101, nat_lit 109, nat_lit 97, nat_lit 105, nat_lit 110, nat_lit 100, nat_lit 101, nat_lit 114, nat_lit 6, nat_lit 420, nat_lit 3, nat_lit 115, nat_lit 105, nat_lit 110, nat_lit 9, nat_lit 8, nat_lit 109, nat_lit 97, nat_lit 116, nat_lit 104, nat_lit 46, nat_lit 115, nat_lit 105, nat_lit 110, nat_lit 6, nat_lit 421, nat_lit 4, nat_lit 115, nat_lit 105, nat_lit 110, nat_lit 104, nat_lit 9, nat_lit 9, nat_lit 109, nat_lit 97, nat_lit 116, nat_lit 104, nat_lit 46, nat_lit 115, nat_lit 105, nat_lit 110, nat_lit 104, nat_lit 6, nat_lit 422, nat_lit 4, nat_lit 115, nat_lit 113, nat_lit 114, nat_lit 116, nat_lit 9, nat_lit 9, nat_lit 109, nat_lit 97, nat_lit 116, nat_lit 104, nat_lit 46, nat_lit 115, nat_lit 113, nat_lit 114, nat_lit 116, nat_lit 6, nat_lit 423, nat_lit 3, nat_lit 116, nat_lit 97, nat_lit 110, nat_lit 9, nat_lit 8, nat_lit 109, nat_lit 97, nat_lit 116, nat_lit 104, nat_lit 46, nat_lit 116, nat_lit 97, nat_lit 110, nat_lit 6, nat_lit 424, nat_lit 4, nat_lit 116, nat_lit 97, nat_lit 110, nat_lit 104, nat_lit 9, nat_lit 9, nat_lit 109, nat_lit 97, nat_lit 116, nat_lit 104, nat_lit 46, nat_lit 116, nat_lit 97, nat_lit 110, nat_lit 104, nat_lit 6, nat_lit 425, nat_lit 7, nat_lit 115, nat_lit 117, nat_lit 109, nat_lit 112, nat_lit 114, nat_lit 111, nat_lit 100, nat_lit 9, nat_lit 12, nat_lit 109, nat_lit 97, nat_lit 116, nat_lit 104, nat_lit 46, nat_lit 115, nat_lit 117, nat_lit 109, nat_lit 112, nat_lit 114, nat_lit 111, nat_lit 100, nat_lit 6, nat_lit 426, nat_lit 5, nat_lit 116, nat_lit 114, nat_lit 117, nat_lit 110, nat_lit 99, nat_lit 9, nat_lit 10, nat_lit 109, nat_lit 97, nat_lit 116, nat_lit 104, nat_lit 46, nat_lit 116, nat_lit 114, nat_lit 117, nat_lit 110, nat_lit 99, nat_lit 6, nat_lit 427, nat_lit 4, nat_lit 112, nat_lit 114, nat_lit 111, nat_lit 100, nat_lit 9, nat_lit 9, nat_lit 109, nat_lit 97, nat_lit 116, nat_lit 104, nat_lit 46, nat_lit 112, nat_lit 114, nat_lit 111, nat_lit 100, nat_lit 6, nat_lit 428, nat_lit 4, nat_lit 112, nat_lit 101, nat_lit 114, nat_lit 109, nat_lit 9, nat_lit 9, nat_lit 109, nat_lit 97, nat_lit 116, nat_lit 104, nat_lit 46, nat_lit 112, nat_lit 101, nat_lit 114, nat_lit 109, nat_lit 6, nat_lit 429, nat_lit 4, nat_lit 99, nat_lit 111, nat_lit 109, nat_lit 98, nat_lit 9, nat_lit 9, nat_lit 109, nat_lit 97, nat_lit 116, nat_lit 104, nat_lit 46, nat_lit 99, nat_lit 111, nat_lit 109, nat_lit 98, nat_lit 6, nat_lit 430, nat_lit 9, nat_lit 110, nat_lit 101, nat_lit 120, nat_lit 116, nat_lit 97, nat_lit 102, nat_lit 116, nat_lit 101, nat_lit 114, nat_lit 9, nat_lit 14, nat_lit 109, nat_lit 97, nat_lit 116, nat_lit 104, nat_lit 46, nat_lit 110, nat_lit 101, nat_lit 120, nat_lit 116, nat_lit 97, nat_lit 102, nat_lit 116, nat_lit 101, nat_lit 114, nat_lit 6, nat_lit 431, nat_lit 3, nat_lit 117, nat_lit 108, nat_lit 112, nat_lit 9, nat_lit 8, nat_lit 109, nat_lit 97, nat_lit 116, nat_lit 104, nat_lit 46, nat_lit 117, nat_lit 108, nat_lit 112, nat_lit 6, nat_lit 432, nat_lit 8, nat_lit 95, nat_lit 95, nat_lit 102, nat_lit 105, nat_lit 108, nat_lit 101, nat_lit 95, nat_lit 95, nat_lit 6, nat_lit 296, nat_lit 123, nat_lit 47, nat_lit 110, nat_lit 105, nat_lit 120, nat_lit 47, nat_lit 115, nat_lit 116, nat_lit 111, nat_lit 114, nat_lit 101, nat_lit 47, nat_lit 119, nat_lit 106, nat_lit 49, nat_lit 102, nat_lit 53, nat_lit 54, nat_lit 113, nat_lit 107, nat_lit 121, nat_lit 52, nat_lit 112, nat_lit 109, nat_lit 106, nat_lit 99, nat_lit 55, nat_lit 108, nat_lit 48, nat_lit 114, nat_lit 54, nat_lit 98, nat_lit 54, nat_lit 108, nat_lit 55, nat_lit 119, nat_lit 104, nat_lit 110, nat_lit 110, nat_lit 119, nat_lit 55, nat_lit 104, nat_lit 112, nat_lit 54, nat_lit 45, nat_lit 112, nat_lit 121, nat_lit 116, nat_lit 104, nat_lit 111, nat_lit 110, nat_lit 51, nat_lit 45, nat_lit 51, nat_lit 46, nat_lit 49, nat_lit 51, nat_lit 46, nat_lit 49, nat_lit 53, nat_lit 47, nat_lit 108, nat_lit 105, nat_lit 98, nat_lit 47, nat_lit 112, nat_lit 121, nat_lit 116, nat_lit 104, nat_lit 111, nat_lit 110, nat_lit 51, nat_lit 46, nat_lit 49, nat_lit 51, nat_lit 47, nat_lit 108, nat_lit 105, nat_lit 98, nat_lit 45, nat_lit 100, nat_lit 121, nat_lit 110, nat_lit 108, nat_lit 111, nat_lit 97, nat_lit 100, nat_lit 47, nat_lit 109, nat_lit 97, nat_lit 116, nat_lit 104, nat_lit 46, nat_lit 99, nat_lit 112, nat_lit 121, nat_lit 116, nat_lit 104, nat_lit 111, nat_lit 110, nat_lit 45, nat_lit 51, nat_lit 49, nat_lit 51, nat_lit 45, nat_lit 120, nat_lit 56, nat_lit 54, nat_lit 95, nat_lit 54, nat_lit 52, nat_lit 45, nat_lit 108, nat_lit 105, nat_lit 110, nat_lit 117, nat_lit 120, nat_lit 45, nat_lit 103, nat_lit 110, nat_lit 117, nat_lit 46, nat_lit 115, nat_lit 111, nat_lit 6, nat_lit 434, nat_lit 2, nat_lit 112, nat_lit 105, nat_lit 5, nat_lit 433, nat_lit 4614256656552045848, nat_lit 6, nat_lit 436, nat_lit 1, nat_lit 101, nat_lit 5, nat_lit 435, nat_lit 4613303445314885481, nat_lit 6, nat_lit 438, nat_lit 3, nat_lit 116, nat_lit 97, nat_lit 117, nat_lit 5, nat_lit 437, nat_lit 4618760256179416344, nat_lit 6, nat_lit 440, nat_lit 3, nat_lit 105, nat_lit 110, nat_lit 102, nat_lit 5, nat_lit 439, nat_lit 9218868437227405312, nat_lit 6, nat_lit 442, nat_lit 3, nat_lit 110, nat_lit 97, nat_lit 110, nat_lit 5, nat_lit 441, nat_lit 9221120237041090560]⟩⟩ 0, .bool true, .bool false, .str (Str.ofString "math") 444]⟩ 1, ⟨[]⟩⟩
noncomputable def z29 (P : Params) : Obj := ⟨.type "tuple", none, .seq ⟨[.str (Str.ofString "comb") 290, .str (Str.ofString "factorial") 291, .str (Str.ofString "gcd") 292]⟩ 0, ⟨[]⟩⟩
noncomputable def z30 (P : Params) : Obj := ⟨.type "dict", none, .dict ⟨[ent P (Str.ofString "__name__") 369 (.str (Str.ofString "math") 368), ent P (Str.ofString "__doc__") 370 (.builtin "off-the-table:math.__doc__:shared#opaque"), ent P (Str.ofString "__package__") 372 (.str (Str.ofString "") 371), ent P (Str.ofString "__loader__") 373 (.builtin "off-the-table:math.__loader__:shared#opaque"), ent P (Str.ofString "__spec__") 374 (.builtin "off-the-table:math.__spec__:shared#opaque"), ent P (Str.ofString "acos") 375 (.builtin "off-the-table:math.acos:shared#opaque"), ent P (Str.ofString "acosh") 376 (.builtin "off-the-table:math.acosh:shared#opaque"), ent P (Str.ofString "asin") 377 (.builtin "off-the-table:math.asin:shared#opaque"), ent P (Str.ofString "asinh") 378 (.builtin "off-the-table:math.asinh:shared#opaque"), ent P (Str.ofString "atan") 379 (.builtin "off-the-table:math.atan:shared#opaque"), ent P (Str.ofString "atan2") 380 (.builtin "off-the-table:math.atan2:shared#opaque"), ent P (Str.ofString "atanh") 381 (.builtin "off-the-table:math.atanh:shared#opaque"), ent P (Str.ofString "cbrt") 382 (.builtin "off-the-table:math.cbrt:shared#opaque"), ent P (Str.ofString "ceil") 383 (.builtin "math.ceil"), ent P (Str.ofString "copysign") 384 (.builtin "math.copysign"), ent P (Str.ofString "cos") 385 (.builtin "off-the-table:math.cos:shared#opaque"), ent P (Str.ofString "cosh") 386 (.builtin "off-the-table:math.cosh:shared#opaque"), ent P (Str.ofString "degrees") 387 (.builtin "math.degrees"), ent P (Str.ofString "dist") 388 (.builtin "math.dist"), ent P (Str.ofString "erf") 389 (.builtin "off-the-table:math.erf:shared#opaque"), ent P (Str.ofString "erfc") 390 (.builtin "off-the-table:math.erfc:shared#opaque"), ent P (Str.ofString "exp") 391 (.builtin "off-the-table:math.exp:shared#opaque"), ent P (Str.ofString "exp2") 392 (.builtin "off-the-table:math.exp2:shared#opaque"), ent P (Str.ofString "expm1") 393 (.builtin "off-the-table:math.expm1:shared#opaque"), ent P (Str.ofString "fabs") 394 (.builtin "math.fabs"), ent P (Str.ofString "factorial") 395 (.builtin "math.factorial"), ent P (Str.ofString "floor") 396 (.builtin "math.floor"), ent P (Str.ofString "fma") 397 (.builtin "math.fma"), ent P (Str.ofString "fmod") 398 (.builtin "math.fmod"), ent P (Str.ofString "frexp") 399 (.builtin "math.frexp"), ent P (Str.ofString "fsum") 400 (.builtin "math.fsum"), ent P (Str.ofString "gamma") 401 (.builtin "off-the-table:math.gamma:shared#opaque"), ent P (Str.ofString "gcd") 402 (.builtin "math.gcd"), ent P (Str.ofString "hypot") 403 (.builtin "math.hypot"), ent P (Str.ofString "isclose") 404 (.builtin "math.isclose"), ent P (Str.ofString "isfinite") 405 (.builtin "math.isfinite"), ent P (Str.ofString "isinf") 406 (.builtin "math.isinf"), ent P (Str.ofString "isnan") 407 (.builtin "math.isnan"), ent P (Str.ofString "isqrt") 408 (.builtin "math.isqrt"), ent P (Str.ofString "lcm") 409 (.builtin "math.lcm"), ent P (Str.ofString "ldexp") 410 (.builtin "math.ldexp"), ent P (Str.ofString "lgamma") 411 (.builtin "off-the-table:math.lgamma:shared#opaque"), ent P (Str.ofString "log") 412 (.builtin "off-the-table:math.log:shared#opaque"), ent P (Str.ofString "log1p") 413 (.builtin "off-the-table:math.log1p:shared#opaque"), ent P (Str.ofString "log10") 414 (.builtin "off-the-table:math.log10:shared#opaque"), ent P (Str.ofString "log2") 415 (.builtin "off-the-table:math.log2:shared#opaque"), ent P (Str.ofString "modf") 416 (.builtin "math.modf"), ent P (Str.ofString "pow") 417 (.builtin "off-the-table:math.pow:shared#opaque"), ent P (Str.ofString "radians") 418 (.builtin "math.radians"), ent P (Str.ofString "remainder") 419 (.builtin "math.remainder"), ent P (Str.ofString "sin") 420 (.builtin "off-the-table:math.sin:shared#opaque"), ent P (Str.ofString "sinh") 421 (.builtin "off-the-table:math.sinh:shared#opaque"), ent P (Str.ofString "sqrt") 422 (.builtin "math.sqrt"), ent P (Str.ofString "tan") 423 (.builtin "off-the-table:math.tan:shared#opaque"), ent P (Str.ofString "tanh") 424 (.builtin "off-the-table:math.tanh:shared#opaque"), ent P (Str.ofString "sumprod") 425 (.builtin "math.sumprod"), ent P (Str.ofString "trunc") 426 (.builtin "math.trunc"), ent P (Str.ofString "prod") 427 (.builtin "math.prod"), ent P (Str.ofString "perm") 428 (.builtin "math.perm"), ent P (Str.ofString "comb") 429 (.builtin "math.comb"), ent P (Str.ofString "nextafter") 430 (.builtin "math.nextafter"), ent P (Str.ofString "ulp") 431 (.builtin "math.ulp"), ent P (Str.ofString "__file__") 432 (.str (Str.ofString "/nix/store/wj1f56qky4pmjc7l0r6b6l7whnnw7hp6-python3-3.13.15/lib/python3.13/lib-dynload/math.cpython-313-x86_64-linux-gnu.so") 296), ent P (Str.ofString "pi") 434 (.float 4614256656552045848 433), ent P (Str.ofString "e") 436 (.float 4613303445314885481 435), ent P (Str.ofString "tau") 438 (.float 4618760256179416344 437), ent P (Str.ofString "inf") 440 (.float 9218868437227405312 439), ent P (Str.ofString "nan") 442 (.float 9221120237041090560 441)]⟩ 68, ⟨[]⟩⟩
noncomputable def z31 (P : Params) : Obj := ⟨.type "module", (some 30), .plain, ⟨[]⟩⟩
noncomputable def z32 (P : Params) : Obj := ⟨.type "dict", none, .dict ⟨[ent P (Str.ofString "name") 298 (.str (Str.ofString "math") 297), ent P (Str.ofString "path") 299 (.str (Str.ofString "/nix/store/wj1f56qky4pmjc7l0r6b6l7whnnw7hp6-python3-3.13.15/lib/python3.13/lib-dynload/math.cpython-313-x86_64-linux-gnu.so") 296)]⟩ 2, ⟨[]⟩⟩
noncomputable def z33 (P : Params) : Obj := ⟨.type "dict", none, .dict ⟨[ent P (Str.ofString "__module__") 303 (.str (Str.ofString "_frozen_importlib_external") 301), ent P (Str.ofString "__firstlineno__") 304 (.int 1001 302), ent P (Str.ofString "__doc__") 305 (.builtin "_frozen_importlib_external._LoaderBasics.__doc__:str#opaque"), ent P (Str.ofString "is_package") 306 (.builtin "_frozen_importlib_external._LoaderBasics.is_package#opaque"), ent P (Str.ofString "create_module") 307 (.builtin "_frozen_importlib_external._LoaderBasics.create_module#opaque"), ent P (Str.ofString "exec_module") 308 (.builtin "_frozen_importlib_external._LoaderBasics.exec_module#opaque"), ent P (Str.ofString "load_module") 309 (.builtin "_frozen_importlib_external._LoaderBasics.load_module#opaque"), ent P (Str.ofString "__static_attributes__") 310 (.ref 35), ent P (Str.ofString "__dict__") 312 (.ref 36), ent P (Str.ofString "__weakref__") 314 (.ref 37)]⟩ 10, ⟨[]⟩⟩
noncomputable def z34 (P : Params) : Obj := ⟨.type "type", none, .cls { name := (Str.ofString "_LoaderBasics"), bases := [.type "object"], mro := [.ref 34, .type "object"], ns := 33, qualname := (Str.ofString "_LoaderBasics"), hasDict := true, slotNames := [], subclasses := [.ref 44], abstract := false, collection := none, hasDel := false }, ⟨[]⟩⟩
noncomputable def z35 (P : Params) : Obj := ⟨.type "tuple", none, .seq ⟨[]⟩ 0, ⟨[]⟩⟩
noncomputable def z36 (P : Params) : Obj := ⟨.type "getset_descriptor", none, .fields ⟨[.str (Str.ofString "__dict__") 311, .ref 34, .builtin "function.__dict__", .builtin "function.__dict__#set"]⟩, ⟨[]⟩⟩
noncomputable def z37 (P : Params) : Obj := ⟨.type "getset_descriptor", none, .fields ⟨[.str (Str.ofString "__weakref__") 313, .ref 34, .builtin "ExceptionGroup.__weakref__", .none]⟩, ⟨[]⟩⟩
noncomputable def z38 (P : Params) : Obj := ⟨.type "dict", none, .dict ⟨[ent P (Str.ofString "__module__") 321 (.str (Str.ofString "_frozen_importlib_external") 317), ent P (Str.ofString "__firstlineno__") 322 (.int 1176 318), ent P (Str.ofString "__doc__") 323 (.builtin "_frozen_importlib_external.FileLoader.__doc__:str#opaque"), ent P (Str.ofString "__init__") 324 (.builtin "_frozen_importlib_external.FileLoader.__init__#opaque"), ent P (Str.ofString "__eq__") 325 (.builtin "_frozen_importlib_external.FileLoader.__eq__#opaque"), ent P (Str.ofString "__hash__") 326 (.builtin "_frozen_importlib_external.FileLoader.__hash__#opaque"), ent P (Str.ofString "load_module") 327 (.builtin "_frozen_importlib_external.FileLoader.load_module#opaque"), ent P (Str.ofString "get_filename") 328 (.builtin "_frozen_importlib_external.FileLoader.get_filename#opaque"), ent P (Str.ofString "get_data") 329 (.builtin "_frozen_importlib_external.FileLoader.get_data#opaque"), ent P (Str.ofString "get_resource_reader") 330 (.builtin "_frozen_importlib_external.FileLoader.get_resource_reader#opaque"), ent P (Str.ofString "__static_attributes__") 331 (.ref 40), ent P (Str.ofString "__dict__") 333 (.ref 41), ent P (Str.ofString "__weakref__") 335 (.ref 42)]⟩ 13, ⟨[]⟩⟩
noncomputable def z39 (P : Params) : Obj := ⟨.type "type", none, .cls { name := (Str.ofString "FileLoader"), bases := [.type "object"], mro := [.ref 39, .type "object"], ns := 38, qualname := (Str.ofString "FileLoader"), hasDict := true, slotNames := [], subclasses := [.ref 44], abstract := false, collection := none, hasDel := false }, ⟨[]⟩⟩
noncomputable def z40 (P : Params) : Obj := ⟨.type "tuple", none, .seq ⟨[.str (Str.ofString "name") 319, .str (Str.ofString "path") 320]⟩ 0, ⟨[]⟩⟩
noncomputable def z41 (P : Params) : Obj := ⟨.type "getset_descriptor", none, .fields ⟨[.str (Str.ofString "__dict__") 332, .ref 39, .builtin "function.__dict__", .builtin "function.__dict__#set"]⟩, ⟨[]⟩⟩
noncomputable def z42 (P : Params) : Obj := ⟨.type "getset_descriptor", none, .fields ⟨[.str (Str.ofString "__weakref__") 334, .ref 39, .builtin "ExceptionGroup.__weakref__", .none]⟩, ⟨[]⟩⟩
noncomputable def z43 (P : Params) : Obj := ⟨.type "dict", none, .dict ⟨[ent P (Str.ofString "__module__") 342 (.str (Str.ofString "_frozen_importlib_external") 338), ent P (Str.ofString "__firstlineno__") 343 (.int 1296 339), ent P (Str.ofString "__doc__") 344 (.builtin "_frozen_importlib_external.ExtensionFileLoader.__doc__:str#opaque"), ent P (Str.ofString "__init__") 345 (.builtin "_frozen_importlib_external.ExtensionFileLoader.__init__#opaque"), ent P (Str.ofString "__eq__") 346 (.builtin "_frozen_importlib_external.ExtensionFileLoader.__eq__#opaque"), ent P (Str.ofString "__hash__") 347 (.builtin "_frozen_importlib_external.ExtensionFileLoader.__hash__#opaque"), ent P (Str.ofString "create_module") 348 (.builtin "_frozen_importlib_external.ExtensionFileLoader.create_module#opaque"), ent P (Str.ofString "exec_module") 349 (.builtin "_frozen_importlib_external.ExtensionFileLoader.exec_module#opaque"), ent P (Str.ofString "is_package") 350 (.builtin "_frozen_importlib_external.ExtensionFileLoader.is_package#opaque"), ent P (Str.ofString "get_code") 351 (.builtin "_frozen_importlib_external.ExtensionFileLoader.get_code#opaque"), ent P (Str.ofString "get_source") 352 (.builtin "_frozen_importlib_external.ExtensionFileLoader.get_source#opaque"), ent P (Str.ofString "get_filename") 353 (.builtin "_frozen_importlib_external.ExtensionFileLoader.get_filename#opaque"), ent P (Str.ofString "__static_attributes__") 354 (.ref 45)]⟩ 13, ⟨[]⟩⟩
noncomputable def z44 (P : Params) : Obj := ⟨.type "type", none, .cls { name := (Str.ofString "ExtensionFileLoader"), bases := [.ref 39, .ref 34], mro := [.ref 44, .ref 39, .ref 34, .type "object"], ns := 43, qualname := (Str.ofString "ExtensionFileLoader"), hasDict := true, slotNames := [], subclasses := [], abstract := false, collection := none, hasDel := false }, ⟨[]⟩⟩
noncomputable def z45 (P : Params) : Obj := ⟨.type "tuple", none, .seq ⟨[.str (Str.ofString "name") 340, .str (Str.ofString "path") 341]⟩ 0, ⟨[]⟩⟩
noncomputable def z46 (P : Params) : Obj := ⟨.ref 44, (some 32), .plain, ⟨[]⟩⟩
noncomputable def z47 (P : Params) : Obj := ⟨.type "list", none, .seq ⟨[]⟩ 0, ⟨[]⟩⟩
noncomputable def z48 (P : Params) : Obj := ⟨.type "dict", none, .dict ⟨[ent P (Str.ofString "name") 357 (.str (Str.ofString "math") 356), ent P (Str.ofString "loader") 358 (.ref 46), ent P (Str.ofString "origin") 359 (.str (Str.ofString "/nix/store/wj1f56qky4pmjc7l0r6b6l7whnnw7hp6-python3-3.13.15/lib/python3.13/lib-dynload/math.cpython-313-x86_64-linux-gnu.so") 296), ent P (Str.ofString "loader_state") 360 (.none), ent P (Str.ofString "submodule_search_locations") 361 (.none), ent P (Str.ofString "_uninitialized_submodules") 362 (.ref 47), ent P (Str.ofString "_set_fileattr") 363 (.bool true), ent P (Str.ofString "_cached") 364 (.none), ent P (Str.ofString "_initializing") 365 (.bool false)]⟩ 9, ⟨[]⟩⟩
noncomputable def z49 (P : Params) : Obj := ⟨.ref 23, (some 48), .plain, ⟨[]⟩⟩
noncomputable def y12 (P : Params) : Obj := ⟨.type "dict", none, .dict ⟨[ent P (Str.ofString "__name__") 250 (.str (Str.ofString "itertools") 249), ent P (Str.ofString "__doc__") 251 (.builtin "itertools.__doc__:str#opaque"), ent P (Str.ofString "__package__") 253 (.str (Str.ofString "") 252), ent P (Str.ofString "__loader__") 254 (.ref 15), ent P (Str.ofString "__spec__") 255 (.ref 27), ent P (Str.ofString "tee") 256 (.builtin "itertools.tee"), ent P (Str.ofString "accumulate") 257 (.type "itertools.accumulate"), ent P (Str.ofString "batched") 258 (.type "itertools.batched"), ent P (Str.ofString "chain") 259 (.type "itertools.chain"), ent P (Str.ofString "combinations") 260 (.type "itertools.combinations"), ent P (Str.ofString "compress") 261 (.type "itertools.compress"), ent P (Str.ofString "count") 262 (.type "itertools.count"), ent P (Str.ofString "combinations_with_replacement") 263 (.type "itertools.combinations_with_replacement"), ent P (Str.ofString "cycle") 264 (.type "itertools.cycle"), ent P (Str.ofString "dropwhile") 265 (.type "itertools.dropwhile"), ent P (Str.ofString "filterfalse") 266 (.type "itertools.filterfalse"), ent P (Str.ofString "groupby") 267 (.type "itertools.groupby"), ent P (Str.ofString "_grouper") 268 (.type "itertools._grouper"), ent P (Str.ofString "islice") 269 (.type "itertools.islice"), ent P (Str.ofString "pairwise") 270 (.type "itertools.pairwise"), ent P (Str.ofString "permutations") 271 (.type "itertools.permutations"), ent P (Str.ofString "product") 272 (.type "itertools.product"), ent P (Str.ofString "repeat") 273 (.type "itertools.repeat"), ent P (Str.ofString "starmap") 274 (.type "itertools.starmap"), ent P (Str.ofString "takewhile") 275 (.type "itertools.takewhile"), ent P (Str.ofString "_tee") 276 (.type "itertools._tee"), ent P (Str.ofString "_tee_dataobject") 277 (.type "itertools._tee_dataobject"), ent P (Str.ofString "zip_longest") 278 (.type "itertools.zip_longest")]⟩ 28, ⟨[]⟩⟩
noncomputable def y30 (P : Params) : Obj := ⟨.type "dict", none, .dict ⟨[ent P (Str.ofString "__name__") 369 (.str (Str.ofString "math") 368), ent P (Str.ofString "__doc__") 370 (.builtin "math.__doc__:str#opaque"), ent P (Str.ofString "__package__") 372 (.str (Str.ofString "") 371), ent P (Str.ofString "__loader__") 373 (.ref 46), ent P (Str.ofString "__spec__") 374 (.ref 49), ent P (Str.ofString "acos") 375 (.builtin "math.acos"), ent P (Str.ofString "acosh") 376 (.builtin "math.acosh"), ent P (Str.ofString "asin") 377 (.builtin "math.asin"), ent P (Str.ofString "asinh") 378 (.builtin "math.asinh"), ent P (Str.ofString "atan") 379 (.builtin "math.atan"), ent P (Str.ofString "atan2") 380 (.builtin "math.atan2"), ent P (Str.ofString "atanh") 381 (.builtin "math.atanh"), ent P (Str.ofString "cbrt") 382 (.builtin "math.cbrt"), ent P (Str.ofString "ceil") 383 (.builtin "math.ceil"), ent P (Str.ofString "copysign") 384 (.builtin "math.copysign"), ent P (Str.ofString "cos") 385 (.builtin "math.cos"), ent P (Str.ofString "cosh") 386 (.builtin "math.cosh"), ent P (Str.ofString "degrees") 387 (.builtin "math.degrees"), ent P (Str.ofString "dist") 388 (.builtin "math.dist"), ent P (Str.ofString "erf") 389 (.builtin "math.erf"), ent P (Str.ofString "erfc") 390 (.builtin "math.erfc"), ent P (Str.ofString "exp") 391 (.builtin "math.exp"), ent P (Str.ofString "exp2") 392 (.builtin "math.exp2"), ent P (Str.ofString "expm1") 393 (.builtin "math.expm1"), ent P (Str.ofString "fabs") 394 (.builtin "math.fabs"), ent P (Str.ofString "factorial") 395 (.builtin "math.factorial"), ent P (Str.ofString "floor") 396 (.builtin "math.floor"), ent P (Str.ofString "fma") 397 (.builtin "math.fma"), ent P (Str.ofString "fmod") 398 (.builtin "math.fmod"), ent P (Str.ofString "frexp") 399 (.builtin "math.frexp"), ent P (Str.ofString "fsum") 400 (.builtin "math.fsum"), ent P (Str.ofString "gamma") 401 (.builtin "math.gamma"), ent P (Str.ofString "gcd") 402 (.builtin "math.gcd"), ent P (Str.ofString "hypot") 403 (.builtin "math.hypot"), ent P (Str.ofString "isclose") 404 (.builtin "math.isclose"), ent P (Str.ofString "isfinite") 405 (.builtin "math.isfinite"), ent P (Str.ofString "isinf") 406 (.builtin "math.isinf"), ent P (Str.ofString "isnan") 407 (.builtin "math.isnan"), ent P (Str.ofString "isqrt") 408 (.builtin "math.isqrt"), ent P (Str.ofString "lcm") 409 (.builtin "math.lcm"), ent P (Str.ofString "ldexp") 410 (.builtin "math.ldexp"), ent P (Str.ofString "lgamma") 411 (.builtin "math.lgamma"), ent P (Str.ofString "log") 412 (.builtin "math.log"), ent P (Str.ofString "log1p") 413 (.builtin "math.log1p"), ent P (Str.ofString "log10") 414 (.builtin "math.log10"), ent P (Str.ofString "log2") 415 (.builtin "math.log2"), ent P (Str.ofString "modf") 416 (.builtin "math.modf"), ent P (Str.ofString "pow") 417 (.builtin "math.pow"), ent P (Str.ofString "radians") 418 (.builtin "math.radians"), ent P (Str.ofString "remainder") 419 (.builtin "math.remainder"), ent P (Str.ofString "sin") 420 (.builtin "math.sin"), ent P (Str.ofString "sinh") 421 (.builtin "math.sinh"), ent P (Str.ofString "sqrt") 422 (.builtin "math.sqrt"), ent P (Str.ofString "tan") 423 (.builtin "math.tan"), ent P (Str.ofString "tanh") 424 (.builtin "math.tanh"), ent P (Str.ofString "sumprod") 425 (.builtin "math.sumprod"), ent P (Str.ofString "trunc") 426 (.builtin "math.trunc"), ent P (Str.ofString "prod") 427 (.builtin "math.prod"), ent P (Str.ofString "perm") 428 (.builtin "math.perm"), ent P (Str.ofString "comb") 429 (.builtin "math.comb"), ent P (Str.ofString "nextafter") 430 (.builtin "math.nextafter"), ent P (Str.ofString "ulp") 431 (.builtin "math.ulp"), ent P (Str.ofString "__file__") 432 (.str (Str.ofString "/nix/store/wj1f56qky4pmjc7l0r6b6l7whnnw7hp6-python3-3.13.15/lib/python3.13/lib-dynload/math.cpython-313-x86_64-linux-gnu.so") 296), ent P (Str.ofString "pi") 434 (.float 4614256656552045848 433), ent P (Str.ofString "e") 436 (.float 4613303445314885481 435), ent P (Str.ofString "tau") 438 (.float 4618760256179416344 437), ent P (Str.ofString "inf") 440 (.float 9218868437227405312 439), ent P (Str.ofString "nan") 442 (.float 9221120237041090560 441)]⟩ 68, ⟨[]⟩⟩
noncomputable def ys (P : Params) : List Obj := [z0 P, z1 P, z2 P, z3 P, z4 P, z5 P, z6 P, z7 P, z8 P, z9 P, z10 P, z11 P, y12 P, z13 P, z14 P, z15 P, z16 P, z17 P, z18 P, z19 P, z20 P, z21 P, z22 P, z23 P, z24 P, z25 P, z26 P, z27 P, z28 P, z29 P, y30 P, z31 P, z32 P, z33 P, z34 P, z35 P, z36 P, z37 P, z38 P, z39 P, z40 P, z41 P, z42 P, z43 P, z44 P, z45 P, z46 P, z47 P, z48 P, z49 P]
noncomputable def zs (P : Params) : List Obj := [z0 P, z1 P, z2 P, z3 P, z4 P, z5 P, z6 P, z7 P, z8 P, z9 P, z10 P, z11 P, z12 P, z13 P, z14 P, z15 P, z16 P, z17 P, z18 P, z19 P, z20 P, z21 P, z22 P, z23 P, z24 P, z25 P, z26 P, z27 P, z28 P, z29 P, z30 P, z31 P, z32 P, z33 P, z34 P, z35 P, z36 P, z37 P, z38 P, z39 P, z40 P, z41 P, z42 P, z43 P, z44 P, z45 P, z46 P, z47 P, z48 P, z49 P]
noncomputable def z50 (P : Params) : Obj := ⟨.type "tuple", none, .seq ⟨[]⟩ 0, ⟨[]⟩⟩
noncomputable def z51 (P : Params) : Obj := ⟨.none, none, .fields ⟨[]⟩, ⟨[]⟩⟩
noncomputable def z52 (P : Params) : Obj := ⟨.type "code", none, .fields ⟨[.str (Str.ofString "<module>") 458, .str (Str.ofString "<module>") 459, .str (Str.ofString "/claim/cut.py") 460, .int 1 0, .int 0 0, .int 0 0, .int 0 0, .int 0 0, .ref 50, .bool false, .int 457 0, .ref 51, .none, .none, .none, .none, .int 461 0, .int 1 0, .str (Str.ofString "/claim/cut.py") 462]⟩, ⟨[]⟩⟩
noncomputable def z53 (P : Params) : Obj := ⟨.type "frame", none, .plain, ⟨[some (.ref 52), some (.ref 3), some (.ref 3), none, some (.str (Str.ofString "__main__") 164), none, some (.ref 0)]⟩⟩
noncomputable def md0 : Value := .str (Str.ofString "__main__") 164
noncomputable def md1 : Value := .str (Str.ofString "ringwalkers.errors") 470
noncomputable def md2 : Value := .str (Str.ofString "ringwalkers.basics") 1329
noncomputable def md3 : Value := .str (Str.ofString "ringwalkers.paths") 1398
noncomputable def md4 : Value := .str (Str.ofString "ringwalkers.againandagain") 1576
noncomputable def md5 : Value := .str (Str.ofString "ringwalkers.refusals") 1671
noncomputable def md6 : Value := .str (Str.ofString "ringwalkers.tables") 2751
noncomputable def md7 : Value := .str (Str.ofString "ringwalkers.laps") 2892
noncomputable def md8 : Value := .str (Str.ofString "ringwalkers.deskquestions") 2961
noncomputable def md9 : Value := .str (Str.ofString "ringwalkers.desks") 3007
noncomputable def md10 : Value := .str (Str.ofString "ringwalkers.choosers") 3267
noncomputable def md11 : Value := .str (Str.ofString "ringwalkers.leftovers") 3285
noncomputable def md12 : Value := .str (Str.ofString "ringwalkers.callers") 3335
noncomputable def md13 : Value := .str (Str.ofString "ringwalkers.askers") 3412
noncomputable def md14 : Value := .str (Str.ofString "ringwalkers.capped") 3454
noncomputable def md15 : Value := .str (Str.ofString "ringwalkers.runs") 3474
noncomputable def md16 : Value := .str (Str.ofString "ringwalkers.shortestruns") 3537
noncomputable def md17 : Value := .str (Str.ofString "ringwalkers.commons") 3656
noncomputable def md18 : Value := .str (Str.ofString "ringwalkers.commonrows") 3826
noncomputable def md19 : Value := .str (Str.ofString "ringwalkers.counted") 3929
noncomputable def md20 : Value := .str (Str.ofString "ringwalkers.countbounds") 4034
noncomputable def md21 : Value := .str (Str.ofString "ringwalkers.drawnsteps") 4078
noncomputable def md22 : Value := .str (Str.ofString "ringwalkers.photos") 4164
noncomputable def md23 : Value := .str (Str.ofString "ringwalkers.fewbetween") 4261
noncomputable def md24 : Value := .str (Str.ofString "ringwalkers.madenumbers") 4370
noncomputable def md25 : Value := .str (Str.ofString "ringwalkers.netnumbers") 4494
noncomputable def md26 : Value := .str (Str.ofString "ringwalkers.halftold") 4532
noncomputable def md27 : Value := .str (Str.ofString "ringwalkers.indoubt") 4574
noncomputable def md28 : Value := .str (Str.ofString "ringwalkers.joinings") 4630
noncomputable def md29 : Value := .str (Str.ofString "ringwalkers.lapcounts") 4647
noncomputable def md30 : Value := .str (Str.ofString "ringwalkers.moreleft") 4720
noncomputable def md31 : Value := .str (Str.ofString "ringwalkers.walks") 4763
noncomputable def md32 : Value := .str (Str.ofString "ringwalkers.pacelooks") 4935
noncomputable def md33 : Value := .str (Str.ofString "ringwalkers.netspans") 5072
noncomputable def md34 : Value := .str (Str.ofString "ringwalkers.notecounts") 5221
noncomputable def md35 : Value := .str (Str.ofString "ringwalkers.shownotes") 5297
noncomputable def md36 : Value := .str (Str.ofString "ringwalkers.withbounds") 5496
noncomputable def md37 : Value := .str (Str.ofString "ringwalkers.noterows") 5535
noncomputable def md38 : Value := .str (Str.ofString "ringwalkers.notes") 5652
noncomputable def md39 : Value := .str (Str.ofString "ringwalkers.numbered") 5708
noncomputable def md40 : Value := .str (Str.ofString "ringwalkers.views") 5779
noncomputable def md41 : Value := .str (Str.ofString "ringwalkers.observers") 5854
noncomputable def md42 : Value := .str (Str.ofString "ringwalkers.pairsteps") 5975
noncomputable def md43 : Value := .str (Str.ofString "ringwalkers.pricelists") 6031
noncomputable def md44 : Value := .str (Str.ofString "ringwalkers.priceorders") 6081
noncomputable def md45 : Value := .str (Str.ofString "ringwalkers.priceweights") 6161
noncomputable def md46 : Value := .str (Str.ofString "ringwalkers.steps") 6293
noncomputable def md47 : Value := .str (Str.ofString "ringwalkers.teams") 6391
noncomputable def md48 : Value := .str (Str.ofString "ringwalkers.withincounts") 6445
noncomputable def md49 : Value := .str (Str.ofString "law_ringwalkers_k00_errors_made") 6523
noncomputable def dB (P : Params) : List DictEntry := [ent P (Str.ofString "__doc__") 166 (.none), ent P (Str.ofString "__package__") 167 (.none), ent P (Str.ofString "__loader__") 168 (.builtin "__main__.__loader__#opaque"), ent P (Str.ofString "__spec__") 169 (.none), ent P (Str.ofString "__annotations__") 170 (.ref 6), ent P (Str.ofString "__builtins__") 171 (.ref 4), ent P (Str.ofString "__file__") 173 (.str (Str.ofString "/claim/cut.py") 172), ent P (Str.ofString "__cached__") 174 (.none), ent P (Str.ofString "permutations") 288 (.type "itertools.permutations"), ent P (Str.ofString "comb") 450 (.builtin "math.comb"), ent P (Str.ofString "factorial") 453 (.builtin "math.factorial"), ent P (Str.ofString "gcd") 456 (.builtin "math.gcd")]
noncomputable def t0 : List Value := [iV 3, iV 0, .ref 59, iV 7, iV 0, .ref 66]
noncomputable def t1 : List Value := [iV 9, iV 0, .ref 80, iV 14, iV 0, .ref 101, iV 19, iV 0, .ref 122, iV 24, iV 0, .ref 143, iV 29, iV 0, .ref 164, iV 35, iV 0, .ref 185]
noncomputable def w1 : List Value := [.ref 92, .ref 113, .ref 134, .ref 155, .ref 176, .ref 197]
noncomputable def t2 : List Value := [iV 40, iV 0, .ref 206, iV 45, iV 0, .ref 227, iV 50, iV 0, .ref 248, iV 55, iV 0, .ref 269, iV 60, iV 0, .ref 290, iV 65, iV 0, .ref 311]
noncomputable def w2 : List Value := [.ref 218, .ref 239, .ref 260, .ref 281, .ref 302, .ref 323]
noncomputable def t3 : List Value := [iV 70, iV 0, .ref 332, iV 75, iV 0, .ref 353, iV 80, iV 0, .ref 374, iV 85, iV 0, .ref 395, iV 90, iV 0, .ref 416, iV 95, iV 0, .ref 437]
noncomputable def w3 : List Value := [.ref 344, .ref 365, .ref 386, .ref 407, .ref 428, .ref 449]
noncomputable def t4 : List Value := [iV 100, iV 0, .ref 458, iV 105, iV 0, .ref 479, iV 110, iV 0, .ref 500, iV 115, iV 0, .ref 521, iV 120, iV 0, .ref 542, iV 125, iV 0, .ref 563]
noncomputable def w4 : List Value := [.ref 470, .ref 491, .ref 512, .ref 533, .ref 554, .ref 575]
noncomputable def t5 : List Value := [iV 130, iV 0, .ref 584, iV 135, iV 0, .ref 605, iV 140, iV 0, .ref 626, iV 145, iV 0, .ref 647, iV 150, iV 0, .ref 668, iV 155, iV 0, .ref 689]
noncomputable def w5 : List Value := [.ref 596, .ref 617, .ref 638, .ref 659, .ref 680, .ref 701]
noncomputable def t6 : List Value := [iV 160, iV 0, .ref 710]
noncomputable def w6 : List Value := [.ref 722]
noncomputable def t7 : List Value := [iV 168, iV 0, .ref 730, iV 170, iV 0, .ref 737, iV 172, iV 0, .ref 744, iV 174, iV 0, .ref 751, iV 176, iV 0, .ref 756, iV 180, iV 0, .ref 763, iV 182, iV 0, .ref 768, iV 184, iV 0, .ref 773, iV 189, iV 0, .ref 780]
noncomputable def t8 : List Value := [iV 193, iV 0, .ref 787]
noncomputable def t9 : List Value := [iV 216, iV 0, .ref 827, iV 219, iV 0, .ref 832, iV 223, iV 0, .ref 837, iV 228, iV 0, .ref 844, iV 231, iV 0, .ref 849, iV 236, iV 0, .ref 854, iV 238, iV 0, .ref 861, iV 241, iV 0, .ref 866, iV 243, iV 0, .ref 873, iV 247, iV 0, .ref 880, iV 251, iV 0, .ref 887]
noncomputable def t10 : List Value := [iV 255, iV 0, .ref 894, iV 262, iV 0, .ref 901, iV 265, iV 0, .ref 908, iV 270, iV 0, .ref 913, iV 275, iV 0, .ref 920, iV 278, iV 0, .ref 925, iV 289, iV 0, .ref 930, iV 291, iV 0, .ref 937, iV 303, iV 0, .ref 942, iV 306, iV 0, .ref 947]
noncomputable def t11 : List Value := [iV 313, iV 0, .ref 954, iV 315, iV 0, .ref 961, iV 320, iV 0, .ref 968, iV 328, iV 0, .ref 973]
noncomputable def t12 : List Value := [iV 337, iV 0, .ref 981, iV 342, iV 0, .ref 1002, iV 347, iV 0, .ref 1023, iV 352, iV 0, .ref 1044, iV 357, iV 0, .ref 1065, iV 362, iV 0, .ref 1086]
noncomputable def w12 : List Value := [.ref 993, .ref 1014, .ref 1035, .ref 1056, .ref 1077, .ref 1098]
noncomputable def t13 : List Value := [iV 367, iV 0, .ref 1107, iV 372, iV 0, .ref 1128, iV 377, iV 0, .ref 1149, iV 382, iV 0, .ref 1170, iV 386, iV 0, .ref 1191, iV 391, iV 0, .ref 1212]
noncomputable def w13 : List Value := [.ref 1119, .ref 1140, .ref 1161, .ref 1182, .ref 1203, .ref 1224]
noncomputable def t14 : List Value := [iV 395, iV 0, .ref 1233, iV 400, iV 0, .ref 1254, iV 405, iV 0, .ref 1275, iV 410, iV 0, .ref 1296, iV 415, iV 0, .ref 1317, iV 420, iV 0, .ref 1338]
noncomputable def w14 : List Value := [.ref 1245, .ref 1266, .ref 1287, .ref 1308, .ref 1329, .ref 1350]
noncomputable def t15 : List Value := [iV 425, iV 0, .ref 1359, iV 430, iV 0, .ref 1380, iV 435, iV 0, .ref 1401, iV 440, iV 0, .ref 1422, iV 445, iV 0, .ref 1443, iV 450, iV 0, .ref 1464]
noncomputable def w15 : List Value := [.ref 1371, .ref 1392, .ref 1413, .ref 1434, .ref 1455, .ref 1476]
noncomputable def t16 : List Value := [iV 455, iV 0, .ref 1485, iV 460, iV 0, .ref 1506, iV 465, iV 0, .ref 1527, iV 470, iV 0, .ref 1548, iV 475, iV 0, .ref 1569, iV 480, iV 0, .ref 1590]
noncomputable def w16 : List Value := [.ref 1497, .ref 1518, .ref 1539, .ref 1560, .ref 1581, .ref 1602]
noncomputable def t17 : List Value := [iV 485, iV 0, .ref 1611, iV 490, iV 0, .ref 1632, iV 496, iV 0, .ref 1653, iV 501, iV 0, .ref 1674, iV 506, iV 0, .ref 1695, iV 511, iV 0, .ref 1716]
noncomputable def w17 : List Value := [.ref 1623, .ref 1644, .ref 1665, .ref 1686, .ref 1707, .ref 1728]
noncomputable def t18 : List Value := [iV 516, iV 0, .ref 1737, iV 521, iV 0, .ref 1758, iV 526, iV 0, .ref 1779, iV 531, iV 0, .ref 1800]
noncomputable def w18 : List Value := [.ref 1749, .ref 1770, .ref 1791, .ref 1812]
noncomputable def t19 : List Value := [iV 537, iV 0, .ref 1818, iV 539, iV 0, .ref 1823, iV 541, iV 0, .ref 1830, iV 543, iV 0, .ref 1835, iV 551, iV 0, .ref 1842, iV 564, iV 0, .ref 1849, iV 566, iV 0, .ref 1854, iV 571, iV 0, .ref 1861, iV 574, iV 0, .ref 1866, iV 578, iV 0, .ref 1871]
noncomputable def t20 : List Value := [iV 582, iV 0, .ref 1876, iV 585, iV 0, .ref 1881, iV 594, iV 0, .ref 1888, iV 598, iV 0, .ref 1895, iV 608, iV 0, .ref 1902, iV 611, iV 0, .ref 1909, iV 616, iV 0, .ref 1916, iV 619, iV 0, .ref 1923, iV 621, iV 0, .ref 1930, iV 623, iV 0, .ref 1937]
noncomputable def t21 : List Value := [iV 627, iV 0, .ref 1944, iV 634, iV 0, .ref 1949, iV 638, iV 0, .ref 1954, iV 641, iV 0, .ref 1961, iV 648, iV 0, .ref 1968, iV 651, iV 0, .ref 1975, iV 654, iV 0, .ref 1980, iV 661, iV 0, .ref 1987, iV 668, iV 0, .ref 1992]
noncomputable def t22 : List Value := [iV 680, iV 0, .ref 1999, iV 683, iV 0, .ref 2006, iV 688, iV 0, .ref 2011, iV 693, iV 0, .ref 2018, iV 701, iV 0, .ref 2023, iV 709, iV 0, .ref 2028, iV 722, iV 0, .ref 2035, iV 729, iV 0, .ref 2042]
noncomputable def t23 : List Value := [iV 735, iV 0, .ref 2049]
noncomputable def t24 : List Value := [iV 827, iV 0, .ref 2203, iV 830, iV 0, .ref 2210, iV 836, iV 0, .ref 2217, iV 839, iV 0, .ref 2224, iV 844, iV 0, .ref 2229, iV 849, iV 0, .ref 2236, iV 855, iV 0, .ref 2243, iV 866, iV 0, .ref 2248, iV 868, iV 0, .ref 2255]
noncomputable def t25 : List Value := [iV 873, iV 0, .ref 2260, iV 883, iV 0, .ref 2265, iV 888, iV 0, .ref 2270, iV 890, iV 0, .ref 2277, iV 901, iV 0, .ref 2282, iV 903, iV 0, .ref 2287, iV 917, iV 0, .ref 2294, iV 927, iV 0, .ref 2299, iV 930, iV 0, .ref 2304, iV 940, iV 0, .ref 2311]
noncomputable def t26 : List Value := [iV 944, iV 0, .ref 2316, iV 949, iV 0, .ref 2323, iV 961, iV 0, .ref 2330, iV 964, iV 0, .ref 2337, iV 968, iV 0, .ref 2342, iV 972, iV 0, .ref 2349, iV 981, iV 0, .ref 2356, iV 987, iV 0, .ref 2361, iV 996, iV 0, .ref 2366, iV 998, iV 0, .ref 2371]
noncomputable def t27 : List Value := [iV 1005, iV 0, .ref 2378, iV 1016, iV 0, .ref 2383, iV 1019, iV 0, .ref 2390, iV 1022, iV 0, .ref 2395, iV 1024, iV 0, .ref 2402, iV 1026, iV 0, .ref 2407, iV 1029, iV 0, .ref 2414, iV 1032, iV 0, .ref 2419, iV 1036, iV 0, .ref 2424, iV 1047, iV 0, .ref 2429]
noncomputable def t28 : List Value := [iV 1061, iV 0, .ref 2436, iV 1072, iV 0, .ref 2443, iV 1075, iV 0, .ref 2448, iV 1086, iV 0, .ref 2453, iV 1091, iV 0, .ref 2458, iV 1108, iV 0, .ref 2463, iV 1110, iV 0, .ref 2470, iV 1113, iV 0, .ref 2475, iV 1121, iV 0, .ref 2480, iV 1123, iV 0, .ref 2487]
noncomputable def t29 : List Value := [iV 1125, iV 0, .ref 2492, iV 1130, iV 0, .ref 2499, iV 1140, iV 0, .ref 2504, iV 1147, iV 0, .ref 2509, iV 1149, iV 0, .ref 2514, iV 1153, iV 0, .ref 2521, iV 1155, iV 0, .ref 2526, iV 1160, iV 0, .ref 2533, iV 1169, iV 0, .ref 2538, iV 1175, iV 0, .ref 2543]
noncomputable def t30 : List Value := [iV 1179, iV 0, .ref 2550, iV 1181, iV 0, .ref 2555, iV 1194, iV 0, .ref 2562, iV 1196, iV 0, .ref 2569, iV 1199, iV 0, .ref 2574, iV 1206, iV 0, .ref 2581, iV 1220, iV 0, .ref 2588, iV 1227, iV 0, .ref 2595, iV 1241, iV 0, .ref 2600]
noncomputable def t31 : List Value := [iV 1248, iV 0, .ref 2607, iV 1251, iV 0, .ref 2614, iV 1254, iV 0, .ref 2621, iV 1260, iV 0, .ref 2626, iV 1262, iV 0, .ref 2633, iV 1268, iV 0, .ref 2640, iV 1273, iV 0, .ref 2647, iV 1275, iV 0, .ref 2654, iV 1277, iV 0, .ref 2661]
noncomputable def t32 : List Value := [iV 1279, iV 0, .ref 2668, iV 1281, iV 0, .ref 2675, iV 1285, iV 0, .ref 2682, iV 1288, iV 0, .ref 2689, iV 1291, iV 0, .ref 2696, iV 1298, iV 0, .ref 2703, iV 1301, iV 0, .ref 2710, iV 1305, iV 0, .ref 2717, iV 1310, iV 0, .ref 2724, iV 1319, iV 0, .ref 2731]
noncomputable def t33 : List Value := [iV 1324, iV 0, .ref 2738, iV 1334, iV 0, .ref 2743, iV 1348, iV 0, .ref 2750, iV 1363, iV 0, .ref 2757, iV 1366, iV 0, .ref 2764, iV 1373, iV 0, .ref 2771, iV 1375, iV 0, .ref 2778, iV 1380, iV 0, .ref 2785, iV 1388, iV 0, .ref 2792]
noncomputable def t34 : List Value := [iV 1394, iV 0, .ref 2799, iV 1398, iV 0, .ref 2806, iV 1409, iV 0, .ref 2813, iV 1412, iV 0, .ref 2818, iV 1416, iV 0, .ref 2825, iV 1419, iV 0, .ref 2830, iV 1425, iV 0, .ref 2835, iV 1428, iV 0, .ref 2840, iV 1435, iV 0, .ref 2845, iV 1437, iV 0, .ref 2850]
noncomputable def t35 : List Value := [iV 1442, iV 0, .ref 2857, iV 1445, iV 0, .ref 2864, iV 1451, iV 0, .ref 2869, iV 1458, iV 0, .ref 2876, iV 1465, iV 0, .ref 2881, iV 1472, iV 0, .ref 2888, iV 1474, iV 0, .ref 2895, iV 1476, iV 0, .ref 2902, iV 1479, iV 0, .ref 2909, iV 1482, iV 0, .ref 2914]
noncomputable def t36 : List Value := [iV 1486, iV 0, .ref 2919, iV 1491, iV 0, .ref 2924, iV 1504, iV 0, .ref 2931, iV 1506, iV 0, .ref 2938, iV 1508, iV 0, .ref 2945, iV 1514, iV 0, .ref 2950, iV 1521, iV 0, .ref 2955, iV 1531, iV 0, .ref 2960, iV 1537, iV 0, .ref 2965, iV 1542, iV 0, .ref 2972]
noncomputable def t37 : List Value := [iV 1544, iV 0, .ref 2979, iV 1546, iV 0, .ref 2984, iV 1551, iV 0, .ref 2991, iV 1556, iV 0, .ref 2996, iV 1560, iV 0, .ref 3003, iV 1562, iV 0, .ref 3010, iV 1565, iV 0, .ref 3015, iV 1569, iV 0, .ref 3020, iV 1571, iV 0, .ref 3025, iV 1584, iV 0, .ref 3032, iV 1587, iV 0, .ref 3037]
noncomputable def t38 : List Value := [iV 1593, iV 0, .ref 3044, iV 1597, iV 0, .ref 3049, iV 1607, iV 0, .ref 3054, iV 1610, iV 0, .ref 3059, iV 1615, iV 0, .ref 3064, iV 1625, iV 0, .ref 3071, iV 1627, iV 0, .ref 3078, iV 1631, iV 0, .ref 3085, iV 1633, iV 0, .ref 3090, iV 1643, iV 0, .ref 3095]
noncomputable def t39 : List Value := [iV 1652, iV 0, .ref 3102, iV 1655, iV 0, .ref 3107, iV 1664, iV 0, .ref 3112, iV 1679, iV 0, .ref 3117, iV 1681, iV 0, .ref 3124, iV 1684, iV 0, .ref 3131, iV 1694, iV 0, .ref 3136, iV 1702, iV 0, .ref 3141, iV 1711, iV 0, .ref 3148, iV 1722, iV 0, .ref 3155]
noncomputable def t40 : List Value := [iV 1734, iV 0, .ref 3162, iV 1744, iV 0, .ref 3169, iV 1748, iV 0, .ref 3176, iV 1750, iV 0, .ref 3181, iV 1762, iV 0, .ref 3188, iV 1766, iV 0, .ref 3193, iV 1768, iV 0, .ref 3200, iV 1773, iV 0, .ref 3207, iV 1784, iV 0, .ref 3214]
noncomputable def t41 : List Value := [iV 1789, iV 0, .ref 3221, iV 1801, iV 0, .ref 3226, iV 1807, iV 0, .ref 3233, iV 1820, iV 0, .ref 3240, iV 1822, iV 0, .ref 3245, iV 1826, iV 0, .ref 3252, iV 1830, iV 0, .ref 3259, iV 1833, iV 0, .ref 3266, iV 1838, iV 0, .ref 3273, iV 1841, iV 0, .ref 3280]
noncomputable def t42 : List Value := [iV 1843, iV 0, .ref 3287, iV 1850, iV 0, .ref 3292, iV 1852, iV 0, .ref 3299, iV 1856, iV 0, .ref 3306, iV 1860, iV 0, .ref 3313, iV 1867, iV 0, .ref 3320, iV 1869, iV 0, .ref 3327, iV 1881, iV 0, .ref 3334, iV 1887, iV 0, .ref 3341]
noncomputable def t43 : List Value := [iV 1904, iV 0, .ref 3346, iV 1910, iV 0, .ref 3353, iV 1912, iV 0, .ref 3360, iV 1921, iV 0, .ref 3367, iV 1925, iV 0, .ref 3374, iV 1932, iV 0, .ref 3381, iV 1937, iV 0, .ref 3386, iV 1953, iV 0, .ref 3393, iV 1956, iV 0, .ref 3400]
noncomputable def t44 : List Value := [iV 1959, iV 0, .ref 3407, iV 1969, iV 0, .ref 3412, iV 1971, iV 0, .ref 3419, iV 1976, iV 0, .ref 3426, iV 1983, iV 0, .ref 3431, iV 1988, iV 0, .ref 3438, iV 1991, iV 0, .ref 3445, iV 1995, iV 0, .ref 3452, iV 1999, iV 0, .ref 3457]
noncomputable def t45 : List Value := [iV 2004, iV 0, .ref 3464, iV 2007, iV 0, .ref 3469, iV 2013, iV 0, .ref 3476, iV 2020, iV 0, .ref 3481, iV 2023, iV 0, .ref 3488, iV 2028, iV 0, .ref 3493, iV 2030, iV 0, .ref 3498, iV 2040, iV 0, .ref 3505, iV 2042, iV 0, .ref 3512, iV 2047, iV 0, .ref 3519]
noncomputable def t46 : List Value := [iV 2052, iV 0, .ref 3526, iV 2055, iV 0, .ref 3533, iV 2061, iV 0, .ref 3538, iV 2065, iV 0, .ref 3543, iV 2074, iV 0, .ref 3550, iV 2081, iV 0, .ref 3557, iV 2090, iV 0, .ref 3564, iV 2107, iV 0, .ref 3569, iV 2120, iV 0, .ref 3576]
noncomputable def t47 : List Value := [iV 2133, iV 0, .ref 3583, iV 2144, iV 0, .ref 3590, iV 2148, iV 0, .ref 3595, iV 2153, iV 0, .ref 3600, iV 2155, iV 0, .ref 3605, iV 2161, iV 0, .ref 3612, iV 2174, iV 0, .ref 3619, iV 2177, iV 0, .ref 3626, iV 2181, iV 0, .ref 3633]
noncomputable def t48 : List Value := [iV 2184, iV 0, .ref 3640, iV 2189, iV 0, .ref 3645, iV 2198, iV 0, .ref 3650, iV 2204, iV 0, .ref 3657, iV 2206, iV 0, .ref 3664, iV 2208, iV 0, .ref 3671, iV 2211, iV 0, .ref 3678, iV 2217, iV 0, .ref 3683, iV 2224, iV 0, .ref 3690, iV 2229, iV 0, .ref 3697]
noncomputable def t49 : List Value := [iV 2232, iV 0, .ref 3704, iV 2241, iV 0, .ref 3709, iV 2244, iV 0, .ref 3716, iV 2259, iV 0, .ref 3723, iV 2261, iV 0, .ref 3728, iV 2272, iV 0, .ref 3733, iV 2281, iV 0, .ref 3740, iV 2284, iV 0, .ref 3745, iV 2294, iV 0, .ref 3750]
noncomputable def t50 : List Value := [iV 2296, iV 0, .ref 3757, iV 2298, iV 0, .ref 3762, iV 2301, iV 0, .ref 3769, iV 2303, iV 0, .ref 3776, iV 2311, iV 0, .ref 3781, iV 2314, iV 0, .ref 3788, iV 2322, iV 0, .ref 3795, iV 2329, iV 0, .ref 3802, iV 2331, iV 0, .ref 3807]
noncomputable def t51 : List Value := [iV 2334, iV 0, .ref 3812, iV 2342, iV 0, .ref 3819, iV 2345, iV 0, .ref 3824, iV 2348, iV 0, .ref 3831, iV 2352, iV 0, .ref 3836, iV 2355, iV 0, .ref 3843, iV 2358, iV 0, .ref 3850, iV 2363, iV 0, .ref 3855, iV 2369, iV 0, .ref 3860]
noncomputable def t52 : List Value := [iV 2380, iV 0, .ref 3867, iV 2387, iV 0, .ref 3874, iV 2396, iV 0, .ref 3881, iV 2403, iV 0, .ref 3888, iV 2408, iV 0, .ref 3895, iV 2415, iV 0, .ref 3902, iV 2420, iV 0, .ref 3907, iV 2422, iV 0, .ref 3912, iV 2424, iV 0, .ref 3919, iV 2428, iV 0, .ref 3924]
noncomputable def t53 : List Value := [iV 2437, iV 0, .ref 3931, iV 2439, iV 0, .ref 3938, iV 2441, iV 0, .ref 3945, iV 2444, iV 0, .ref 3952, iV 2454, iV 0, .ref 3957, iV 2463, iV 0, .ref 3962, iV 2470, iV 0, .ref 3969, iV 2473, iV 0, .ref 3976, iV 2480, iV 0, .ref 3981, iV 2482, iV 0, .ref 3988]
noncomputable def t54 : List Value := [iV 2485, iV 0, .ref 3993, iV 2489, iV 0, .ref 4000, iV 2495, iV 0, .ref 4007, iV 2504, iV 0, .ref 4012, iV 2507, iV 0, .ref 4019, iV 2510, iV 0, .ref 4026, iV 2513, iV 0, .ref 4031, iV 2520, iV 0, .ref 4036, iV 2525, iV 0, .ref 4043, iV 2528, iV 0, .ref 4050]
noncomputable def t55 : List Value := [iV 2531, iV 0, .ref 4055, iV 2539, iV 0, .ref 4060, iV 2546, iV 0, .ref 4065, iV 2550, iV 0, .ref 4072, iV 2556, iV 0, .ref 4077, iV 2564, iV 0, .ref 4082, iV 2571, iV 0, .ref 4087, iV 2575, iV 0, .ref 4092, iV 2582, iV 0, .ref 4097, iV 2584, iV 0, .ref 4102, iV 2589, iV 0, .ref 4107]
noncomputable def t56 : List Value := [iV 2593, iV 0, .ref 4112, iV 2596, iV 0, .ref 4117, iV 2607, iV 0, .ref 4122, iV 2613, iV 0, .ref 4127, iV 2618, iV 0, .ref 4132, iV 2623, iV 0, .ref 4137, iV 2631, iV 0, .ref 4142, iV 2639, iV 0, .ref 4149, iV 2646, iV 0, .ref 4156, iV 2650, iV 0, .ref 4163, iV 2654, iV 0, .ref 4168]
noncomputable def t57 : List Value := [iV 2667, iV 0, .ref 4173, iV 2669, iV 0, .ref 4180, iV 2677, iV 0, .ref 4185, iV 2684, iV 0, .ref 4192, iV 2696, iV 0, .ref 4197, iV 2711, iV 0, .ref 4202, iV 2725, iV 0, .ref 4209, iV 2731, iV 0, .ref 4214, iV 2742, iV 0, .ref 4219, iV 2747, iV 0, .ref 4226]
noncomputable def t58 : List Value := [iV 2755, iV 0, .ref 4233, iV 2764, iV 0, .ref 4240, iV 2767, iV 0, .ref 4247, iV 2771, iV 0, .ref 4252, iV 2776, iV 0, .ref 4257, iV 2778, iV 0, .ref 4264, iV 2791, iV 0, .ref 4271, iV 2794, iV 0, .ref 4278, iV 2797, iV 0, .ref 4285]
noncomputable def t59 : List Value := [iV 2799, iV 0, .ref 4290, iV 2812, iV 0, .ref 4297, iV 2821, iV 0, .ref 4304, iV 2825, iV 0, .ref 4309, iV 2830, iV 0, .ref 4314, iV 2841, iV 0, .ref 4319, iV 2852, iV 0, .ref 4324, iV 2862, iV 0, .ref 4331, iV 2865, iV 0, .ref 4336, iV 2872, iV 0, .ref 4343]
noncomputable def t60 : List Value := [iV 2879, iV 0, .ref 4348, iV 2884, iV 0, .ref 4355, iV 2890, iV 0, .ref 4362, iV 2901, iV 0, .ref 4367, iV 2916, iV 0, .ref 4374, iV 2919, iV 0, .ref 4381, iV 2921, iV 0, .ref 4388, iV 2928, iV 0, .ref 4393, iV 2936, iV 0, .ref 4400, iV 2938, iV 0, .ref 4407]
noncomputable def t61 : List Value := [iV 2950, iV 0, .ref 4414, iV 2952, iV 0, .ref 4421, iV 2986, iV 0, .ref 4428, iV 3029, iV 0, .ref 4435, iV 3048, iV 0, .ref 4442, iV 3071, iV 0, .ref 4447, iV 3075, iV 0, .ref 4454, iV 3077, iV 0, .ref 4461, iV 3083, iV 0, .ref 4468, iV 3134, iV 0, .ref 4475]
noncomputable def t62 : List Value := [iV 3185, iV 0, .ref 4482, iV 3236, iV 0, .ref 4489, iV 3282, iV 0, .ref 4494, iV 3290, iV 0, .ref 4501]
noncomputable def d0v0 (P : Params) : List DictEntry := [ent P (Str.ofString "_wall") 469 (.ref 60), ent P (Str.ofString "WalkError") 489 (.ref 70)]
noncomputable def d1v0 (P : Params) : List DictEntry := [ent P (Str.ofString "BadWalkers") 516 (.ref 92), ent P (Str.ofString "BadPath") 543 (.ref 113), ent P (Str.ofString "BadStand") 570 (.ref 134), ent P (Str.ofString "NoWalker") 597 (.ref 155), ent P (Str.ofString "NotBehind") 626 (.ref 176), ent P (Str.ofString "BadRun") 653 (.ref 197)]
noncomputable def d2v0 (P : Params) : List DictEntry := [ent P (Str.ofString "BadBlocks") 680 (.ref 218), ent P (Str.ofString "BadTable") 707 (.ref 239), ent P (Str.ofString "BadSome") 734 (.ref 260), ent P (Str.ofString "BadName") 761 (.ref 281), ent P (Str.ofString "BadNets") 788 (.ref 302), ent P (Str.ofString "BadNumbers") 815 (.ref 323)]
noncomputable def d3v0 (P : Params) : List DictEntry := [ent P (Str.ofString "BadLeft") 842 (.ref 344), ent P (Str.ofString "BadOthers") 869 (.ref 365), ent P (Str.ofString "BadTimes") 896 (.ref 386), ent P (Str.ofString "BadMany") 923 (.ref 407), ent P (Str.ofString "BadStep") 950 (.ref 428), ent P (Str.ofString "BadTotal") 977 (.ref 449)]
noncomputable def d4v0 (P : Params) : List DictEntry := [ent P (Str.ofString "BadNumber") 1004 (.ref 470), ent P (Str.ofString "BadBounds") 1031 (.ref 491), ent P (Str.ofString "BadTeams") 1058 (.ref 512), ent P (Str.ofString "BadTotals") 1085 (.ref 533), ent P (Str.ofString "BadChooser") 1112 (.ref 554), ent P (Str.ofString "BadStands") 1139 (.ref 575)]
noncomputable def d5v0 (P : Params) : List DictEntry := [ent P (Str.ofString "NoCommon") 1166 (.ref 596), ent P (Str.ofString "SameWalker") 1193 (.ref 617), ent P (Str.ofString "BadMost") 1220 (.ref 638), ent P (Str.ofString "BadNoted") 1247 (.ref 659), ent P (Str.ofString "BadIndex") 1274 (.ref 680), ent P (Str.ofString "BadPart") 1301 (.ref 701)]
noncomputable def d6v0 (P : Params) : List DictEntry := [ent P (Str.ofString "BadNotes") 1328 (.ref 722)]
noncomputable def d7v0 (P : Params) : List DictEntry := [ent P (Str.ofString "LETTERS") 1332 (.str (Str.ofString "abcdefghijklmnopqrstuvwxyz") 1331), ent P (Str.ofString "FIGURES") 1334 (.str (Str.ofString "0123456789") 1333), ent P (Str.ofString "is_list") 1341 (.ref 731), ent P (Str.ofString "is_whole") 1348 (.ref 738), ent P (Str.ofString "is_number") 1355 (.ref 745), ent P (Str.ofString "is_positive") 1362 (.ref 752), ent P (Str.ofString "is_name") 1368 (.ref 757), ent P (Str.ofString "is_one_of") 1376 (.ref 764), ent P (Str.ofString "as_tuples") 1382 (.ref 769), ent P (Str.ofString "first_odd") 1388 (.ref 774), ent P (Str.ofString "lowest") 1397 (.ref 781)]
noncomputable def d8v0 (P : Params) : List DictEntry := [ent P (Str.ofString "Path") 1452 (.ref 817)]
noncomputable def d9v0 (P : Params) : List DictEntry := [ent P (Str.ofString "check_path") 1459 (.ref 828), ent P (Str.ofString "is_dict_of") 1465 (.ref 833), ent P (Str.ofString "are_places") 1471 (.ref 838), ent P (Str.ofString "is_stand") 1479 (.ref 845), ent P (Str.ofString "checked_stand") 1485 (.ref 850), ent P (Str.ofString "first_places") 1491 (.ref 855), ent P (Str.ofString "first_stand") 1498 (.ref 862), ent P (Str.ofString "ahead_of") 1504 (.ref 867), ent P (Str.ofString "right_ahead") 1514 (.ref 874), ent P (Str.ofString "going_round") 1526 (.ref 881), ent P (Str.ofString "behind_overtaking") 1536 (.ref 888)]
noncomputable def d10v0 (P : Params) : List DictEntry := [ent P (Str.ofString "overtaken") 1547 (.ref 895), ent P (Str.ofString "first_net") 1558 (.ref 902), ent P (Str.ofString "net") 1569 (.ref 909), ent P (Str.ofString "turned") 1575 (.ref 914), ent P (Str.ofString "place_behind") 1587 (.ref 921), ent P (Str.ofString "circles_in") 1593 (.ref 926), ent P (Str.ofString "speeds_in") 1599 (.ref 931), ent P (Str.ofString "again") 1617 (.ref 938), ent P (Str.ofString "and_then") 1623 (.ref 943), ent P (Str.ofString "undone") 1629 (.ref 948)]
noncomputable def d11v0 (P : Params) : List DictEntry := [ent P (Str.ofString "circles") 1637 (.ref 955), ent P (Str.ofString "times_back") 1648 (.ref 962), ent P (Str.ofString "for_ever") 1664 (.ref 969), ent P (Str.ofString "fastest") 1670 (.ref 974)]
noncomputable def d12v0 (P : Params) : List DictEntry := [ent P (Str.ofString "BadPhoto") 1699 (.ref 993), ent P (Str.ofString "BadLaps") 1726 (.ref 1014), ent P (Str.ofString "BadGains") 1753 (.ref 1035), ent P (Str.ofString "BadPhotos") 1780 (.ref 1056), ent P (Str.ofString "BadWalk") 1807 (.ref 1077), ent P (Str.ofString "BadHour") 1834 (.ref 1098)]
noncomputable def d13v0 (P : Params) : List DictEntry := [ent P (Str.ofString "BadLooks") 1861 (.ref 1119), ent P (Str.ofString "BadLap") 1888 (.ref 1140), ent P (Str.ofString "BadPosts") 1915 (.ref 1161), ent P (Str.ofString "NoPaces") 1940 (.ref 1182), ent P (Str.ofString "BadSpans") 1967 (.ref 1203), ent P (Str.ofString "NoneWithin") 1992 (.ref 1224)]
noncomputable def d14v0 (P : Params) : List DictEntry := [ent P (Str.ofString "BadMade") 2019 (.ref 1245), ent P (Str.ofString "BadView") 2046 (.ref 1266), ent P (Str.ofString "BadRow") 2073 (.ref 1287), ent P (Str.ofString "BadLot") 2100 (.ref 1308), ent P (Str.ofString "BadPairs") 2127 (.ref 1329), ent P (Str.ofString "NotWithin") 2154 (.ref 1350)]
noncomputable def d15v0 (P : Params) : List DictEntry := [ent P (Str.ofString "CommonWalker") 2181 (.ref 1371), ent P (Str.ofString "BadSums") 2208 (.ref 1392), ent P (Str.ofString "BadNames") 2235 (.ref 1413), ent P (Str.ofString "BadPieces") 2262 (.ref 1434), ent P (Str.ofString "BadPrices") 2289 (.ref 1455), ent P (Str.ofString "BadOrder") 2316 (.ref 1476)]
noncomputable def d16v0 (P : Params) : List DictEntry := [ent P (Str.ofString "BadWishes") 2343 (.ref 1497), ent P (Str.ofString "BadSteps") 2370 (.ref 1518), ent P (Str.ofString "BadMore") 2397 (.ref 1539), ent P (Str.ofString "BadChoice") 2424 (.ref 1560), ent P (Str.ofString "BadAnswer") 2451 (.ref 1581), ent P (Str.ofString "BadTop") 2478 (.ref 1602)]
noncomputable def d17v0 (P : Params) : List DictEntry := [ent P (Str.ofString "BadDeed") 2505 (.ref 1623), ent P (Str.ofString "WasOvertaken") 2534 (.ref 1644), ent P (Str.ofString "BadQuestion") 2561 (.ref 1665), ent P (Str.ofString "IsWatched") 2588 (.ref 1686), ent P (Str.ofString "NotWatched") 2615 (.ref 1707), ent P (Str.ofString "WouldChange") 2642 (.ref 1728)]
noncomputable def d18v0 (P : Params) : List DictEntry := [ent P (Str.ofString "BadGoal") 2669 (.ref 1749), ent P (Str.ofString "NoCount") 2696 (.ref 1770), ent P (Str.ofString "BadDesk") 2723 (.ref 1791), ent P (Str.ofString "BadText") 2750 (.ref 1812)]
noncomputable def d19v0 (P : Params) : List DictEntry := [ent P (Str.ofString "pairs_of") 2758 (.ref 1819), ent P (Str.ofString "table_of") 2764 (.ref 1824), ent P (Str.ofString "table") 2772 (.ref 1831), ent P (Str.ofString "checked_table") 2778 (.ref 1836), ent P (Str.ofString "first_clash") 2795 (.ref 1843), ent P (Str.ofString "table_clash") 2803 (.ref 1850), ent P (Str.ofString "places_by") 2809 (.ref 1855), ent P (Str.ofString "stand_of_table") 2818 (.ref 1862), ent P (Str.ofString "overtook") 2824 (.ref 1867), ent P (Str.ofString "overtaken_by") 2830 (.ref 1872)]
noncomputable def d20v0 (P : Params) : List DictEntry := [ent P (Str.ofString "in_all") 2836 (.ref 1877), ent P (Str.ofString "checked_some") 2842 (.ref 1882), ent P (Str.ofString "of_some") 2853 (.ref 1889), ent P (Str.ofString "checked_more") 2866 (.ref 1896), ent P (Str.ofString "with_one_more") 2878 (.ref 1903), ent P (Str.ofString "one_more_clash") 2891 (.ref 1910), ent P (Str.ofString "check_laps") 2900 (.ref 1917), ent P (Str.ofString "most_in") 2908 (.ref 1924), ent P (Str.ofString "most_laps") 2916 (.ref 1931), ent P (Str.ofString "is_within") 2926 (.ref 1938)]
noncomputable def d21v0 (P : Params) : List DictEntry := [ent P (Str.ofString "first_beyond") 2938 (.ref 1945), ent P (Str.ofString "leads") 2944 (.ref 1950), ent P (Str.ofString "open_pairs") 2950 (.ref 1955), ent P (Str.ofString "may_overtake") 2960 (.ref 1962), ent P (Str.ofString "forms_of") 2970 (.ref 1969), ent P (Str.ofString "is_part") 2979 (.ref 1976), ent P (Str.ofString "is_part_deskquestions") 2980 (.ref 1976), ent P (Str.ofString "as_question") 2986 (.ref 1981), ent P (Str.ofString "made_by") 2999 (.ref 1988), ent P (Str.ofString "made_by_deskquestions") 3000 (.ref 1988), ent P (Str.ofString "answer_of") 3006 (.ref 1993)]
noncomputable def d21v22 (P : Params) : List DictEntry := [ent P (Str.ofString "first_beyond") 2938 (.ref 1945), ent P (Str.ofString "leads") 2944 (.ref 1950), ent P (Str.ofString "open_pairs") 2950 (.ref 1955), ent P (Str.ofString "may_overtake") 2960 (.ref 1962), ent P (Str.ofString "forms_of") 2970 (.ref 1969), ent P (Str.ofString "is_part") 2979 (.ref 2007), ent P (Str.ofString "is_part_deskquestions") 2980 (.ref 1976), ent P (Str.ofString "as_question") 2986 (.ref 1981), ent P (Str.ofString "made_by") 2999 (.ref 1988), ent P (Str.ofString "made_by_deskquestions") 3000 (.ref 1988), ent P (Str.ofString "answer_of") 3006 (.ref 1993)]
noncomputable def d22v0 (P : Params) : List DictEntry := [ent P (Str.ofString "form_of") 3016 (.ref 2000), ent P (Str.ofString "is_part_desks") 3025 (.ref 2007), ent P (Str.ofString "is_deed") 3031 (.ref 2012), ent P (Str.ofString "behind_one") 3041 (.ref 2019), ent P (Str.ofString "behind_rounds") 3047 (.ref 2024), ent P (Str.ofString "behind_watch") 3053 (.ref 2029), ent P (Str.ofString "behind_deed") 3064 (.ref 2036), ent P (Str.ofString "changes") 3078 (.ref 2043)]
noncomputable def d23v0 (P : Params) : List DictEntry := [ent P (Str.ofString "Desk") 3266 (.ref 2193)]
noncomputable def d24v0 (P : Params) : List DictEntry := [ent P (Str.ofString "check_chooser") 3275 (.ref 2204), ent P (Str.ofString "chosen") 3284 (.ref 2211), ent P (Str.ofString "check_most") 3293 (.ref 2218), ent P (Str.ofString "check_noted") 3302 (.ref 2225), ent P (Str.ofString "fault_of") 3308 (.ref 2230), ent P (Str.ofString "next_over") 3319 (.ref 2237), ent P (Str.ofString "run_by") 3334 (.ref 2244), ent P (Str.ofString "seams_now") 3342 (.ref 2249), ent P (Str.ofString "picked") 3352 (.ref 2256)]
noncomputable def d21v26 (P : Params) : List DictEntry := [ent P (Str.ofString "first_beyond") 2938 (.ref 1945), ent P (Str.ofString "leads") 2944 (.ref 1950), ent P (Str.ofString "open_pairs") 2950 (.ref 1955), ent P (Str.ofString "may_overtake") 2960 (.ref 1962), ent P (Str.ofString "forms_of") 2970 (.ref 1969), ent P (Str.ofString "is_part") 2979 (.ref 2007), ent P (Str.ofString "is_part_deskquestions") 2980 (.ref 1976), ent P (Str.ofString "as_question") 2986 (.ref 1981), ent P (Str.ofString "made_by") 2999 (.ref 2300), ent P (Str.ofString "made_by_deskquestions") 3000 (.ref 1988), ent P (Str.ofString "answer_of") 3006 (.ref 1993)]
noncomputable def d25v0 (P : Params) : List DictEntry := [ent P (Str.ofString "run_chosen") 3358 (.ref 2261), ent P (Str.ofString "checked_made") 3364 (.ref 2266), ent P (Str.ofString "more_now") 3370 (.ref 2271), ent P (Str.ofString "run_to_numbers") 3385 (.ref 2278), ent P (Str.ofString "hungry_now") 3391 (.ref 2283), ent P (Str.ofString "run_to_notes") 3397 (.ref 2288), ent P (Str.ofString "stand_by_numbers") 3410 (.ref 2295), ent P (Str.ofString "stand_by_numbers_callers") 3411 (.ref 2295), ent P (Str.ofString "made_by_askers") 3420 (.ref 2300), ent P (Str.ofString "gone_on") 3426 (.ref 2305), ent P (Str.ofString "run_asker") 3436 (.ref 2312)]
noncomputable def d26v0 (P : Params) : List DictEntry := [ent P (Str.ofString "rows_to") 3442 (.ref 2317), ent P (Str.ofString "beat_asker") 3453 (.ref 2324), ent P (Str.ofString "least_stand") 3464 (.ref 2331), ent P (Str.ofString "run_of_noted") 3473 (.ref 2338), ent P (Str.ofString "is_pair_of") 3481 (.ref 2343), ent P (Str.ofString "gone") 3493 (.ref 2350), ent P (Str.ofString "run_end") 3505 (.ref 2357), ent P (Str.ofString "is_one_way") 3511 (.ref 2362), ent P (Str.ofString "is_same_order") 3517 (.ref 2367), ent P (Str.ofString "block_end") 3523 (.ref 2372)]
noncomputable def d27v0 (P : Params) : List DictEntry := [ent P (Str.ofString "blocks_end") 3536 (.ref 2379), ent P (Str.ofString "left_between") 3544 (.ref 2384), ent P (Str.ofString "left_in") 3555 (.ref 2391), ent P (Str.ofString "all_left") 3561 (.ref 2396), ent P (Str.ofString "fewest") 3570 (.ref 2403), ent P (Str.ofString "ready_ones") 3576 (.ref 2408), ent P (Str.ofString "first_ones") 3588 (.ref 2415), ent P (Str.ofString "last_ones") 3594 (.ref 2420), ent P (Str.ofString "lap_of") 3600 (.ref 2425), ent P (Str.ofString "laps_between") 3606 (.ref 2430)]
noncomputable def d28v0 (P : Params) : List DictEntry := [ent P (Str.ofString "blocks_between") 3624 (.ref 2437), ent P (Str.ofString "shortest_run") 3636 (.ref 2444), ent P (Str.ofString "is_shortest") 3642 (.ref 2449), ent P (Str.ofString "is_between") 3648 (.ref 2454), ent P (Str.ofString "is_between_shortestruns") 3649 (.ref 2454), ent P (Str.ofString "stand_after") 3655 (.ref 2459), ent P (Str.ofString "are_earlier") 3663 (.ref 2464), ent P (Str.ofString "is_earlier") 3674 (.ref 2471), ent P (Str.ofString "checked_stands") 3680 (.ref 2476), ent P (Str.ofString "tables_of") 3686 (.ref 2481), ent P (Str.ofString "back") 3695 (.ref 2488)]
noncomputable def d29v0 (P : Params) : List DictEntry := [ent P (Str.ofString "left_pairs") 3701 (.ref 2493), ent P (Str.ofString "least_sums") 3714 (.ref 2500), ent P (Str.ofString "least_sums_commons") 3715 (.ref 2500), ent P (Str.ofString "done_pairs") 3721 (.ref 2505), ent P (Str.ofString "greatest_sums") 3727 (.ref 2510), ent P (Str.ofString "stand_by_sums") 3733 (.ref 2515), ent P (Str.ofString "last_common") 3741 (.ref 2522), ent P (Str.ofString "overtakers") 3747 (.ref 2527), ent P (Str.ofString "reached") 3760 (.ref 2534), ent P (Str.ofString "short_ring") 3766 (.ref 2539), ent P (Str.ofString "ring_of") 3772 (.ref 2544)]
noncomputable def d30v0 (P : Params) : List DictEntry := [ent P (Str.ofString "common_ring") 3780 (.ref 2551), ent P (Str.ofString "is_common_ring") 3786 (.ref 2556), ent P (Str.ofString "first_by") 3794 (.ref 2563), ent P (Str.ofString "first_common") 3803 (.ref 2570), ent P (Str.ofString "to_common") 3809 (.ref 2575), ent P (Str.ofString "earlier_ones") 3825 (.ref 2582), ent P (Str.ofString "checked_two") 3838 (.ref 2589), ent P (Str.ofString "row_with") 3856 (.ref 2596), ent P (Str.ofString "is_row_of") 3862 (.ref 2601)]
noncomputable def d31v0 (P : Params) : List DictEntry := [ent P (Str.ofString "holding_row") 3873 (.ref 2608), ent P (Str.ofString "is_holding_row") 3885 (.ref 2615), ent P (Str.ofString "done_with") 3897 (.ref 2622), ent P (Str.ofString "turned_pairs") 3903 (.ref 2627), ent P (Str.ofString "forcing_row") 3915 (.ref 2634), ent P (Str.ofString "is_forcing_row") 3928 (.ref 2641), ent P (Str.ofString "ways") 3938 (.ref 2648), ent P (Str.ofString "all_lists") 3946 (.ref 2655), ent P (Str.ofString "full_lists") 3954 (.ref 2662)]
noncomputable def d32v0 (P : Params) : List DictEntry := [ent P (Str.ofString "lists_with_nobody") 3962 (.ref 2669), ent P (Str.ofString "check_total") 3970 (.ref 2676), ent P (Str.ofString "count_stands") 3978 (.ref 2683), ent P (Str.ofString "count_up_to") 3986 (.ref 2690), ent P (Str.ofString "count_idle") 3995 (.ref 2697), ent P (Str.ofString "mean_idle") 4003 (.ref 2704), ent P (Str.ofString "lists_by_one") 4012 (.ref 2711), ent P (Str.ofString "chance_made") 4021 (.ref 2718), ent P (Str.ofString "chances_made") 4033 (.ref 2725), ent P (Str.ofString "is_bound") 4042 (.ref 2732)]
noncomputable def d33v0 (P : Params) : List DictEntry := [ent P (Str.ofString "is_bound_countbounds") 4043 (.ref 2732), ent P (Str.ofString "count_between") 4056 (.ref 2739), ent P (Str.ofString "checked_teams") 4062 (.ref 2744), ent P (Str.ofString "count_by_teams") 4077 (.ref 2751), ent P (Str.ofString "check_steps") 4086 (.ref 2758), ent P (Str.ofString "distance") 4097 (.ref 2765), ent P (Str.ofString "further_on") 4107 (.ref 2772), ent P (Str.ofString "power") 4117 (.ref 2779), ent P (Str.ofString "draws_growing") 4131 (.ref 2786), ent P (Str.ofString "chance_grown") 4140 (.ref 2793)]
noncomputable def d34v0 (P : Params) : List DictEntry := [ent P (Str.ofString "mean_square") 4148 (.ref 2800), ent P (Str.ofString "drawn_run") 4163 (.ref 2807), ent P (Str.ofString "photo_of") 4175 (.ref 2814), ent P (Str.ofString "is_row_of_all") 4181 (.ref 2819), ent P (Str.ofString "is_photo") 4189 (.ref 2826), ent P (Str.ofString "checked_rests") 4195 (.ref 2831), ent P (Str.ofString "laps_of") 4201 (.ref 2836), ent P (Str.ofString "stand_of_laps") 4207 (.ref 2841), ent P (Str.ofString "are_whole_gains") 4213 (.ref 2846), ent P (Str.ofString "are_gains") 4219 (.ref 2851)]
noncomputable def d35v0 (P : Params) : List DictEntry := [ent P (Str.ofString "net_between") 4231 (.ref 2858), ent P (Str.ofString "steps_by") 4244 (.ref 2865), ent P (Str.ofString "overtakings_of") 4250 (.ref 2870), ent P (Str.ofString "photo_turned") 4260 (.ref 2877), ent P (Str.ofString "few_gains") 4268 (.ref 2882), ent P (Str.ofString "rests_of_both") 4277 (.ref 2889), ent P (Str.ofString "fewest_steps") 4286 (.ref 2896), ent P (Str.ofString "fewest_between") 4297 (.ref 2903), ent P (Str.ofString "fewest_gains") 4308 (.ref 2910), ent P (Str.ofString "open_ones") 4314 (.ref 2915)]
noncomputable def d21v38 (P : Params) : List DictEntry := [ent P (Str.ofString "first_beyond") 2938 (.ref 1945), ent P (Str.ofString "leads") 2944 (.ref 1950), ent P (Str.ofString "open_pairs") 2950 (.ref 1955), ent P (Str.ofString "may_overtake") 2960 (.ref 1962), ent P (Str.ofString "forms_of") 2970 (.ref 1969), ent P (Str.ofString "is_part") 2979 (.ref 2007), ent P (Str.ofString "is_part_deskquestions") 2980 (.ref 1976), ent P (Str.ofString "as_question") 2986 (.ref 1981), ent P (Str.ofString "made_by") 2999 (.ref 2961), ent P (Str.ofString "made_by_deskquestions") 3000 (.ref 1988), ent P (Str.ofString "answer_of") 3006 (.ref 1993)]
noncomputable def d36v0 (P : Params) : List DictEntry := [ent P (Str.ofString "count_fewest") 4320 (.ref 2920), ent P (Str.ofString "pairs_by") 4326 (.ref 2925), ent P (Str.ofString "surely_between") 4335 (.ref 2932), ent P (Str.ofString "perhaps_between") 4344 (.ref 2939), ent P (Str.ofString "can_be_between") 4357 (.ref 2946), ent P (Str.ofString "fewest_turned") 4363 (.ref 2951), ent P (Str.ofString "fewest_through") 4369 (.ref 2956), ent P (Str.ofString "made_by_madenumbers") 4378 (.ref 2961), ent P (Str.ofString "suffered_by") 4384 (.ref 2966), ent P (Str.ofString "numbers_made") 4392 (.ref 2973)]
noncomputable def d37v0 (P : Params) : List DictEntry := [ent P (Str.ofString "numbers_suffered") 4400 (.ref 2980), ent P (Str.ofString "checked_numbers") 4406 (.ref 2985), ent P (Str.ofString "checked_with_none") 4415 (.ref 2992), ent P (Str.ofString "movers") 4421 (.ref 2997), ent P (Str.ofString "least_mover") 4431 (.ref 3004), ent P (Str.ofString "ahead_in") 4443 (.ref 3011), ent P (Str.ofString "laps_in") 4449 (.ref 3016), ent P (Str.ofString "less_laps") 4455 (.ref 3021), ent P (Str.ofString "stand_from") 4461 (.ref 3026), ent P (Str.ofString "stand_of_made") 4470 (.ref 3033), ent P (Str.ofString "stand_of_suffered") 4476 (.ref 3038)]
noncomputable def d38v0 (P : Params) : List DictEntry := [ent P (Str.ofString "laps_off") 4487 (.ref 3045), ent P (Str.ofString "lists_fault") 4493 (.ref 3050), ent P (Str.ofString "nets_of") 4501 (.ref 3055), ent P (Str.ofString "checked_nets") 4507 (.ref 3060), ent P (Str.ofString "clash_of") 4513 (.ref 3065), ent P (Str.ofString "clash_of_netnumbers") 4514 (.ref 3065), ent P (Str.ofString "nets_clash") 4522 (.ref 3072), ent P (Str.ofString "stand_of_nets") 4531 (.ref 3079), ent P (Str.ofString "is_pair_of_numbers") 4540 (.ref 3086), ent P (Str.ofString "checked_part") 4546 (.ref 3091), ent P (Str.ofString "without_fault") 4552 (.ref 3096)]
noncomputable def d39v0 (P : Params) : List DictEntry := [ent P (Str.ofString "stand_without") 4561 (.ref 3103), ent P (Str.ofString "check_mixed") 4567 (.ref 3108), ent P (Str.ofString "stand_of_mixed") 4573 (.ref 3113), ent P (Str.ofString "unlike") 4581 (.ref 3118), ent P (Str.ofString "mended") 4592 (.ref 3125), ent P (Str.ofString "wrong_numbers") 4603 (.ref 3132), ent P (Str.ofString "wrong_nets") 4609 (.ref 3137), ent P (Str.ofString "two_by_third") 4615 (.ref 3142), ent P (Str.ofString "wrong_pairs") 4629 (.ref 3149), ent P (Str.ofString "with_total") 4646 (.ref 3156)]
noncomputable def d40v0 (P : Params) : List DictEntry := [ent P (Str.ofString "count_in") 4660 (.ref 3163), ent P (Str.ofString "count_within") 4668 (.ref 3170), ent P (Str.ofString "count_just") 4676 (.ref 3177), ent P (Str.ofString "all_within") 4682 (.ref 3182), ent P (Str.ofString "stands_within") 4690 (.ref 3189), ent P (Str.ofString "last_within") 4696 (.ref 3194), ent P (Str.ofString "most_within") 4706 (.ref 3201), ent P (Str.ofString "busiest") 4719 (.ref 3208), ent P (Str.ofString "with_more") 4731 (.ref 3215)]
noncomputable def d41v0 (P : Params) : List DictEntry := [ent P (Str.ofString "made_run") 4744 (.ref 3222), ent P (Str.ofString "is_made_run") 4750 (.ref 3227), ent P (Str.ofString "numbers_behind") 4762 (.ref 3234), ent P (Str.ofString "is_lap") 4772 (.ref 3241), ent P (Str.ofString "are_posts") 4778 (.ref 3246), ent P (Str.ofString "is_right_walk") 4786 (.ref 3253), ent P (Str.ofString "is_walk") 4794 (.ref 3260), ent P (Str.ofString "checked_walk") 4802 (.ref 3267), ent P (Str.ofString "check_hour") 4809 (.ref 3274), ent P (Str.ofString "caught_below") 4819 (.ref 3281)]
noncomputable def d42v0 (P : Params) : List DictEntry := [ent P (Str.ofString "net_at") 4832 (.ref 3288), ent P (Str.ofString "stand_in") 4838 (.ref 3293), ent P (Str.ofString "stand_then") 4848 (.ref 3300), ent P (Str.ofString "catch_hour") 4862 (.ref 3307), ent P (Str.ofString "caught_at") 4874 (.ref 3314), ent P (Str.ofString "is_sooner") 4882 (.ref 3321), ent P (Str.ofString "next_catch") 4897 (.ref 3328), ent P (Str.ofString "as_at_first") 4910 (.ref 3335), ent P (Str.ofString "shown") 4928 (.ref 3342)]
noncomputable def d43v0 (P : Params) : List DictEntry := [ent P (Str.ofString "walk_to") 4934 (.ref 3347), ent P (Str.ofString "is_look") 4944 (.ref 3354), ent P (Str.ofString "check_looks") 4956 (.ref 3361), ent P (Str.ofString "room_by") 4966 (.ref 3368), ent P (Str.ofString "rooms_of") 4982 (.ref 3375), ent P (Str.ofString "room") 4994 (.ref 3382), ent P (Str.ofString "raised") 5000 (.ref 3387), ent P (Str.ofString "paces_for") 5010 (.ref 3394), ent P (Str.ofString "pace_ring") 5020 (.ref 3401)]
noncomputable def d29v47 (P : Params) : List DictEntry := [ent P (Str.ofString "left_pairs") 3701 (.ref 2493), ent P (Str.ofString "least_sums") 3714 (.ref 3408), ent P (Str.ofString "least_sums_commons") 3715 (.ref 2500), ent P (Str.ofString "done_pairs") 3721 (.ref 2505), ent P (Str.ofString "greatest_sums") 3727 (.ref 2510), ent P (Str.ofString "stand_by_sums") 3733 (.ref 2515), ent P (Str.ofString "last_common") 3741 (.ref 2522), ent P (Str.ofString "overtakers") 3747 (.ref 2527), ent P (Str.ofString "reached") 3760 (.ref 2534), ent P (Str.ofString "short_ring") 3766 (.ref 2539), ent P (Str.ofString "ring_of") 3772 (.ref 2544)]
noncomputable def d32v48 (P : Params) : List DictEntry := [ent P (Str.ofString "lists_with_nobody") 3962 (.ref 2669), ent P (Str.ofString "check_total") 3970 (.ref 2676), ent P (Str.ofString "count_stands") 3978 (.ref 2683), ent P (Str.ofString "count_up_to") 3986 (.ref 2690), ent P (Str.ofString "count_idle") 3995 (.ref 2697), ent P (Str.ofString "mean_idle") 4003 (.ref 2704), ent P (Str.ofString "lists_by_one") 4012 (.ref 2711), ent P (Str.ofString "chance_made") 4021 (.ref 2718), ent P (Str.ofString "chances_made") 4033 (.ref 2725), ent P (Str.ofString "is_bound") 4042 (.ref 3439)]
noncomputable def d44v0 (P : Params) : List DictEntry := [ent P (Str.ofString "least_sums_pacelooks") 5034 (.ref 3408), ent P (Str.ofString "all_sums") 5040 (.ref 3413), ent P (Str.ofString "fitting_rooms") 5051 (.ref 3420), ent P (Str.ofString "pace_span") 5065 (.ref 3427), ent P (Str.ofString "surely_faster") 5071 (.ref 3432), ent P (Str.ofString "is_bound_netspans") 5081 (.ref 3439), ent P (Str.ofString "is_span") 5088 (.ref 3446), ent P (Str.ofString "is_pair_key") 5096 (.ref 3453), ent P (Str.ofString "checked_spans") 5102 (.ref 3458)]
noncomputable def d28v50 (P : Params) : List DictEntry := [ent P (Str.ofString "blocks_between") 3624 (.ref 2437), ent P (Str.ofString "shortest_run") 3636 (.ref 2444), ent P (Str.ofString "is_shortest") 3642 (.ref 2449), ent P (Str.ofString "is_between") 3648 (.ref 3465), ent P (Str.ofString "is_between_shortestruns") 3649 (.ref 2454), ent P (Str.ofString "stand_after") 3655 (.ref 2459), ent P (Str.ofString "are_earlier") 3663 (.ref 2464), ent P (Str.ofString "is_earlier") 3674 (.ref 2471), ent P (Str.ofString "checked_stands") 3680 (.ref 2476), ent P (Str.ofString "tables_of") 3686 (.ref 2481), ent P (Str.ofString "back") 3695 (.ref 2488)]
noncomputable def d45v0 (P : Params) : List DictEntry := [ent P (Str.ofString "is_between_netspans") 5111 (.ref 3465), ent P (Str.ofString "fits") 5117 (.ref 3470), ent P (Str.ofString "fits_netspans") 5118 (.ref 3470), ent P (Str.ofString "room_in") 5129 (.ref 3477), ent P (Str.ofString "span_rooms") 5135 (.ref 3482), ent P (Str.ofString "span_room") 5146 (.ref 3489), ent P (Str.ofString "parted") 5152 (.ref 3494), ent P (Str.ofString "stand_within") 5158 (.ref 3499), ent P (Str.ofString "spans_ring") 5166 (.ref 3506), ent P (Str.ofString "sums_within") 5175 (.ref 3513), ent P (Str.ofString "most_net") 5186 (.ref 3520)]
noncomputable def d46v0 (P : Params) : List DictEntry := [ent P (Str.ofString "least_net") 5197 (.ref 3527), ent P (Str.ofString "net_bounds") 5208 (.ref 3534), ent P (Str.ofString "sure_overtakers") 5214 (.ref 3539), ent P (Str.ofString "place_span") 5220 (.ref 3544), ent P (Str.ofString "count_notes") 5232 (.ref 3551), ent P (Str.ofString "summed_up") 5245 (.ref 3558), ent P (Str.ofString "count_noted") 5262 (.ref 3565), ent P (Str.ofString "count_behind") 5268 (.ref 3570), ent P (Str.ofString "noted_at") 5283 (.ref 3577)]
noncomputable def d38v53 (P : Params) : List DictEntry := [ent P (Str.ofString "laps_off") 4487 (.ref 3045), ent P (Str.ofString "lists_fault") 4493 (.ref 3050), ent P (Str.ofString "nets_of") 4501 (.ref 3055), ent P (Str.ofString "checked_nets") 4507 (.ref 3060), ent P (Str.ofString "clash_of") 4513 (.ref 3613), ent P (Str.ofString "clash_of_netnumbers") 4514 (.ref 3065), ent P (Str.ofString "nets_clash") 4522 (.ref 3072), ent P (Str.ofString "stand_of_nets") 4531 (.ref 3079), ent P (Str.ofString "is_pair_of_numbers") 4540 (.ref 3086), ent P (Str.ofString "checked_part") 4546 (.ref 3091), ent P (Str.ofString "without_fault") 4552 (.ref 3096)]
noncomputable def d47v0 (P : Params) : List DictEntry := [ent P (Str.ofString "noted_index") 5296 (.ref 3584), ent P (Str.ofString "check_both") 5306 (.ref 3591), ent P (Str.ofString "are_kind") 5312 (.ref 3596), ent P (Str.ofString "signed") 5318 (.ref 3601), ent P (Str.ofString "three_right") 5324 (.ref 3606), ent P (Str.ofString "clash_of_shownotes") 5343 (.ref 3613), ent P (Str.ofString "are_notes") 5352 (.ref 3620), ent P (Str.ofString "check_notes") 5361 (.ref 3627), ent P (Str.ofString "notes_clash") 5370 (.ref 3634)]
noncomputable def d48v0 (P : Params) : List DictEntry := [ent P (Str.ofString "shown_notes") 5379 (.ref 3641), ent P (Str.ofString "group_of") 5385 (.ref 3646), ent P (Str.ofString "groups_of") 5391 (.ref 3651), ent P (Str.ofString "is_most") 5401 (.ref 3658), ent P (Str.ofString "groups") 5410 (.ref 3665), ent P (Str.ofString "free_lot") 5420 (.ref 3672), ent P (Str.ofString "count_ended") 5430 (.ref 3679), ent P (Str.ofString "roofs") 5436 (.ref 3684), ent P (Str.ofString "last_by") 5449 (.ref 3691), ent P (Str.ofString "last_stand") 5459 (.ref 3698)]
noncomputable def d25v56 (P : Params) : List DictEntry := [ent P (Str.ofString "run_chosen") 3358 (.ref 2261), ent P (Str.ofString "checked_made") 3364 (.ref 2266), ent P (Str.ofString "more_now") 3370 (.ref 2271), ent P (Str.ofString "run_to_numbers") 3385 (.ref 2278), ent P (Str.ofString "hungry_now") 3391 (.ref 2283), ent P (Str.ofString "run_to_notes") 3397 (.ref 2288), ent P (Str.ofString "stand_by_numbers") 3410 (.ref 3734), ent P (Str.ofString "stand_by_numbers_callers") 3411 (.ref 2295), ent P (Str.ofString "made_by_askers") 3420 (.ref 2300), ent P (Str.ofString "gone_on") 3426 (.ref 2305), ent P (Str.ofString "run_asker") 3436 (.ref 2312)]
noncomputable def d49v0 (P : Params) : List DictEntry := [ent P (Str.ofString "net_span") 5473 (.ref 3705), ent P (Str.ofString "clamped") 5479 (.ref 3710), ent P (Str.ofString "stands_showing") 5495 (.ref 3717), ent P (Str.ofString "first_turn") 5506 (.ref 3724), ent P (Str.ofString "spread_out") 5512 (.ref 3729), ent P (Str.ofString "stand_by_numbers_withbounds") 5519 (.ref 3734), ent P (Str.ofString "stand_held") 5528 (.ref 3741), ent P (Str.ofString "stand_touching") 5534 (.ref 3746), ent P (Str.ofString "halves") 5542 (.ref 3751)]
noncomputable def d45v58 (P : Params) : List DictEntry := [ent P (Str.ofString "is_between_netspans") 5111 (.ref 3465), ent P (Str.ofString "fits") 5117 (.ref 3777), ent P (Str.ofString "fits_netspans") 5118 (.ref 3470), ent P (Str.ofString "room_in") 5129 (.ref 3477), ent P (Str.ofString "span_rooms") 5135 (.ref 3482), ent P (Str.ofString "span_room") 5146 (.ref 3489), ent P (Str.ofString "parted") 5152 (.ref 3494), ent P (Str.ofString "stand_within") 5158 (.ref 3499), ent P (Str.ofString "spans_ring") 5166 (.ref 3506), ent P (Str.ofString "sums_within") 5175 (.ref 3513), ent P (Str.ofString "most_net") 5186 (.ref 3520)]
noncomputable def d50v0 (P : Params) : List DictEntry := [ent P (Str.ofString "both_shown") 5552 (.ref 3758), ent P (Str.ofString "fewest_changes") 5558 (.ref 3763), ent P (Str.ofString "changed") 5568 (.ref 3770), ent P (Str.ofString "fits_noterows") 5585 (.ref 3777), ent P (Str.ofString "notes_by") 5591 (.ref 3782), ent P (Str.ofString "notes_by_noterows") 5592 (.ref 3782), ent P (Str.ofString "nearer") 5606 (.ref 3789), ent P (Str.ofString "row_of_notes") 5619 (.ref 3796), ent P (Str.ofString "can_change") 5630 (.ref 3803), ent P (Str.ofString "next_changes") 5636 (.ref 3808)]
noncomputable def d21v60 (P : Params) : List DictEntry := [ent P (Str.ofString "first_beyond") 2938 (.ref 1945), ent P (Str.ofString "leads") 2944 (.ref 1950), ent P (Str.ofString "open_pairs") 2950 (.ref 1955), ent P (Str.ofString "may_overtake") 2960 (.ref 1962), ent P (Str.ofString "forms_of") 2970 (.ref 1969), ent P (Str.ofString "is_part") 2979 (.ref 3856), ent P (Str.ofString "is_part_deskquestions") 2980 (.ref 1976), ent P (Str.ofString "as_question") 2986 (.ref 1981), ent P (Str.ofString "made_by") 2999 (.ref 2961), ent P (Str.ofString "made_by_deskquestions") 3000 (.ref 1988), ent P (Str.ofString "answer_of") 3006 (.ref 1993)]
noncomputable def d50v61 (P : Params) : List DictEntry := [ent P (Str.ofString "both_shown") 5552 (.ref 3758), ent P (Str.ofString "fewest_changes") 5558 (.ref 3763), ent P (Str.ofString "changed") 5568 (.ref 3770), ent P (Str.ofString "fits_noterows") 5585 (.ref 3777), ent P (Str.ofString "notes_by") 5591 (.ref 3825), ent P (Str.ofString "notes_by_noterows") 5592 (.ref 3782), ent P (Str.ofString "nearer") 5606 (.ref 3789), ent P (Str.ofString "row_of_notes") 5619 (.ref 3796), ent P (Str.ofString "can_change") 5630 (.ref 3803), ent P (Str.ofString "next_changes") 5636 (.ref 3808)]
noncomputable def d51v0 (P : Params) : List DictEntry := [ent P (Str.ofString "change_shown") 5642 (.ref 3813), ent P (Str.ofString "set_apart") 5651 (.ref 3820), ent P (Str.ofString "notes_by_notes") 5660 (.ref 3825), ent P (Str.ofString "notes") 5670 (.ref 3832), ent P (Str.ofString "noted") 5676 (.ref 3837), ent P (Str.ofString "noted_fault") 5685 (.ref 3844), ent P (Str.ofString "notes_of_noted") 5694 (.ref 3851), ent P (Str.ofString "is_part_notes") 5701 (.ref 3856), ent P (Str.ofString "most_lacking") 5707 (.ref 3861)]
noncomputable def d52v0 (P : Params) : List DictEntry := [ent P (Str.ofString "lists_below") 5720 (.ref 3868), ent P (Str.ofString "greatest_begin") 5733 (.ref 3875), ent P (Str.ofString "made_at") 5747 (.ref 3882), ent P (Str.ofString "stand_at") 5756 (.ref 3889), ent P (Str.ofString "stand_number") 5769 (.ref 3896), ent P (Str.ofString "drawn_stand") 5778 (.ref 3903), ent P (Str.ofString "others_of") 5786 (.ref 3908), ent P (Str.ofString "view_of") 5792 (.ref 3913), ent P (Str.ofString "view") 5802 (.ref 3920), ent P (Str.ofString "checked_view") 5808 (.ref 3925)]
noncomputable def d53v0 (P : Params) : List DictEntry := [ent P (Str.ofString "place_with") 5817 (.ref 3932), ent P (Str.ofString "place_by") 5826 (.ref 3939), ent P (Str.ofString "count_of_view") 5835 (.ref 3946), ent P (Str.ofString "checked_row") 5847 (.ref 3953), ent P (Str.ofString "stand_seen") 5853 (.ref 3958), ent P (Str.ofString "checked_lot") 5861 (.ref 3963), ent P (Str.ofString "checked_watch") 5871 (.ref 3970), ent P (Str.ofString "arc_of") 5883 (.ref 3977), ent P (Str.ofString "arcs_of") 5889 (.ref 3982), ent P (Str.ofString "arcs") 5900 (.ref 3989)]
noncomputable def d54v0 (P : Params) : List DictEntry := [ent P (Str.ofString "are_alike_for") 5906 (.ref 3994), ent P (Str.ofString "count_alike") 5919 (.ref 4001), ent P (Str.ofString "nets_known") 5934 (.ref 4008), ent P (Str.ofString "seams_of") 5940 (.ref 4013), ent P (Str.ofString "seams_left") 5951 (.ref 4020), ent P (Str.ofString "knows_all") 5962 (.ref 4027), ent P (Str.ofString "tells_all") 5968 (.ref 4032), ent P (Str.ofString "fewest_observers") 5974 (.ref 4037), ent P (Str.ofString "chance_first") 5987 (.ref 4044), ent P (Str.ofString "mean_steps") 5998 (.ref 4051)]
noncomputable def d55v0 (P : Params) : List DictEntry := [ent P (Str.ofString "behind_step") 6004 (.ref 4056), ent P (Str.ofString "draws_at") 6010 (.ref 4061), ent P (Str.ofString "chances_further") 6016 (.ref 4066), ent P (Str.ofString "mean_net") 6030 (.ref 4073), ent P (Str.ofString "checked_prices") 6038 (.ref 4078), ent P (Str.ofString "checked_order") 6044 (.ref 4083), ent P (Str.ofString "is_wish") 6050 (.ref 4088), ent P (Str.ofString "checked_wishes") 6056 (.ref 4093), ent P (Str.ofString "price_of") 6062 (.ref 4098), ent P (Str.ofString "price_between") 6068 (.ref 4103), ent P (Str.ofString "stand_with") 6074 (.ref 4108)]
noncomputable def d56v0 (P : Params) : List DictEntry := [ent P (Str.ofString "nets_at_first") 6080 (.ref 4113), ent P (Str.ofString "fitting_laps") 6088 (.ref 4118), ent P (Str.ofString "ring_from") 6094 (.ref 4123), ent P (Str.ofString "price_with") 6100 (.ref 4128), ent P (Str.ofString "lots_of") 6106 (.ref 4133), ent P (Str.ofString "best_step") 6112 (.ref 4138), ent P (Str.ofString "cheapest_laps") 6118 (.ref 4143), ent P (Str.ofString "cheapest_pair") 6132 (.ref 4150), ent P (Str.ofString "cheapest_in_order") 6144 (.ref 4157), ent P (Str.ofString "order_ring") 6154 (.ref 4164), ent P (Str.ofString "is_order_ring") 6160 (.ref 4169)]
noncomputable def d57v0 (P : Params) : List DictEntry := [ent P (Str.ofString "first_pairs") 6168 (.ref 4174), ent P (Str.ofString "bounds_by") 6182 (.ref 4181), ent P (Str.ofString "excesses") 6188 (.ref 4186), ent P (Str.ofString "room_between") 6204 (.ref 4193), ent P (Str.ofString "way_off") 6210 (.ref 4198), ent P (Str.ofString "balanced") 6216 (.ref 4203), ent P (Str.ofString "price_weights") 6230 (.ref 4210), ent P (Str.ofString "are_weights") 6236 (.ref 4215), ent P (Str.ofString "worth") 6242 (.ref 4220), ent P (Str.ofString "are_price_weights") 6257 (.ref 4227)]
noncomputable def d58v0 (P : Params) : List DictEntry := [ent P (Str.ofString "best_of_orders") 6272 (.ref 4234), ent P (Str.ofString "cheapest") 6282 (.ref 4241), ent P (Str.ofString "cheapest_order") 6292 (.ref 4248), ent P (Str.ofString "is_step") 6300 (.ref 4253), ent P (Str.ofString "bounds_between") 6306 (.ref 4258), ent P (Str.ofString "bounds_of") 6325 (.ref 4265), ent P (Str.ofString "shown_behind") 6337 (.ref 4272), ent P (Str.ofString "goes_ahead") 6349 (.ref 4279), ent P (Str.ofString "lessened") 6358 (.ref 4286)]
noncomputable def d59v0 (P : Params) : List DictEntry := [ent P (Str.ofString "count_runs") 6364 (.ref 4291), ent P (Str.ofString "all_runs") 6378 (.ref 4298), ent P (Str.ofString "runs_between") 6390 (.ref 4305), ent P (Str.ofString "are_teams") 6398 (.ref 4310), ent P (Str.ofString "spread") 6404 (.ref 4315), ent P (Str.ofString "checked_pieces") 6410 (.ref 4320), ent P (Str.ofString "two_of_team") 6416 (.ref 4325), ent P (Str.ofString "team_clash") 6426 (.ref 4332), ent P (Str.ofString "gathered") 6432 (.ref 4337), ent P (Str.ofString "begun_with") 6444 (.ref 4344)]
noncomputable def d60v0 (P : Params) : List DictEntry := [ent P (Str.ofString "all_spans") 6452 (.ref 4349), ent P (Str.ofString "is_right_so_far") 6465 (.ref 4356), ent P (Str.ofString "longer_nets") 6483 (.ref 4363), ent P (Str.ofString "stands_in") 6489 (.ref 4368), ent P (Str.ofString "count_fits") 6498 (.ref 4375), ent P (Str.ofString "all_fits") 6506 (.ref 4382), ent P (Str.ofString "check_stands") 6516 (.ref 4389), ent P (Str.ofString "spans_of") 6522 (.ref 4394), ent P (Str.ofString "_law_stream") 6531 (.ref 4401), ent P (Str.ofString "_law_draw") 6542 (.ref 4408)]
noncomputable def d61v0 (P : Params) : List DictEntry := [ent P (Str.ofString "_law_pick") 6550 (.ref 4415), ent P (Str.ofString "_law_made_a") 6558 (.ref 4422), ent P (Str.ofString "_law_made_b") 6566 (.ref 4429), ent P (Str.ofString "_law_kinds_a") 6574 (.ref 4436), ent P (Str.ofString "_law_kinds_b") 6582 (.ref 4443), ent P (Str.ofString "_law_is_own") 6588 (.ref 4448), ent P (Str.ofString "_law_same") 6596 (.ref 4455), ent P (Str.ofString "_law_path_met") 6604 (.ref 4462), ent P (Str.ofString "_law_asked_a") 6613 (.ref 4469), ent P (Str.ofString "_law_asked_b") 6622 (.ref 4476)]
noncomputable def d62v0 (P : Params) : List DictEntry := [ent P (Str.ofString "_law_asked_c") 6631 (.ref 4483), ent P (Str.ofString "_law_asked_d") 6640 (.ref 4490), ent P (Str.ofString "_law_paths_right") 6646 (.ref 4495), ent P (Str.ofString "law") 6664 (.ref 4502)]
noncomputable def z69 (P : Params) : Obj := ⟨.type "dict", none, .dict ⟨[ent P (Str.ofString "__module__") 479 (.str (Str.ofString "ringwalkers.errors") 470), ent P (Str.ofString "__firstlineno__") 483 (.int 7 482), ent P (Str.ofString "__static_attributes__") 484 (.ref 68), ent P (Str.ofString "__weakref__") 486 (.ref 71), ent P (Str.ofString "__doc__") 487 (.none)]⟩ 3, ⟨[]⟩⟩
noncomputable def wkO (ws : List Value) : Obj := ⟨.type "type", none, .cls { name := (Str.ofString "WalkError"), bases := [.type "ValueError"], mro := [.ref 70, .type "ValueError", .type "Exception", .type "BaseException", .type "object"], ns := 69, qualname := (Str.ofString "WalkError"), hasDict := true, slotNames := [], subclasses := ws, abstract := false, collection := none, hasDel := false }, ⟨[some (.ref 61), none, some (.str (Str.ofString "WalkError") 472), some (.str (Str.ofString "WalkError") 480), some (.builtin "ValueError.__new__"), some (.bool true)]⟩⟩
noncomputable def hot0 (P : Params) : List (Nat × Obj) := [(3, ⟨.type "dict", none, .dict ⟨ent P (Str.ofString "__name__") 165 md0 :: dB P⟩ 13, #[]⟩), (51, ⟨.none, none, .fields ⟨[]⟩, #[]⟩), (52, z52 P), (4, z4 P), (2, z2 P), (0, z0 P)]
noncomputable def sp0 : List Sp := [.d md0 true 54 463, .a, .c md1 wlkK 61 472]
noncomputable def hot1 (P : Params) : List (Nat × Obj) := [(70, wkO ([])), (69, z69 P), (3, ⟨.type "dict", none, .dict ⟨ent P (Str.ofString "__name__") 165 md1 :: app (dB P) (d0v0 P)⟩ 15, #[]⟩), (51, ⟨.none, none, .fields ⟨t0⟩, #[]⟩), (52, z52 P), (4, z4 P), (2, z2 P), (0, z0 P)]
noncomputable def sp1 : List Sp := [.c md1 (excK ⟨true, 83, 502, 89, 510⟩) 74 490, .c md1 (excK ⟨true, 104, 529, 110, 537⟩) 95 517, .c md1 (excK ⟨true, 125, 556, 131, 564⟩) 116 544, .c md1 (excK ⟨true, 146, 583, 152, 591⟩) 137 571, .c md1 (excK ⟨true, 167, 610, 173, 619⟩) 158 598, .c md1 (excK ⟨true, 188, 639, 194, 647⟩) 179 627]
noncomputable def hot2 (P : Params) : List (Nat × Obj) := [(70, wkO (w1)), (69, z69 P), (3, ⟨.type "dict", none, .dict ⟨ent P (Str.ofString "__name__") 165 md1 :: app (dB P) (app (d0v0 P) (d1v0 P))⟩ 21, #[]⟩), (51, ⟨.none, none, .fields ⟨app (t0) (t1)⟩, #[]⟩), (52, z52 P), (4, z4 P), (2, z2 P), (0, z0 P)]
noncomputable def sp2 : List Sp := [.c md1 (excK ⟨true, 209, 666, 215, 674⟩) 200 654, .c md1 (excK ⟨true, 230, 693, 236, 701⟩) 221 681, .c md1 (excK ⟨true, 251, 720, 257, 728⟩) 242 708, .c md1 (excK ⟨true, 272, 747, 278, 755⟩) 263 735, .c md1 (excK ⟨true, 293, 774, 299, 782⟩) 284 762, .c md1 (excK ⟨true, 314, 801, 320, 809⟩) 305 789]
noncomputable def hot3 (P : Params) : List (Nat × Obj) := [(70, wkO (app (w1) (w2))), (69, z69 P), (3, ⟨.type "dict", none, .dict ⟨ent P (Str.ofString "__name__") 165 md1 :: app (dB P) (app (d0v0 P) (app (d1v0 P) (d2v0 P)))⟩ 27, #[]⟩), (51, ⟨.none, none, .fields ⟨app (t0) (app (t1) (t2))⟩, #[]⟩), (52, z52 P), (4, z4 P), (2, z2 P), (0, z0 P)]
noncomputable def sp3 : List Sp := [.c md1 (excK ⟨true, 335, 828, 341, 836⟩) 326 816, .c md1 (excK ⟨true, 356, 855, 362, 863⟩) 347 843, .c md1 (excK ⟨true, 377, 882, 383, 890⟩) 368 870, .c md1 (excK ⟨true, 398, 909, 404, 917⟩) 389 897, .c md1 (excK ⟨true, 419, 936, 425, 944⟩) 410 924, .c md1 (excK ⟨true, 440, 963, 446, 971⟩) 431 951]
noncomputable def hot4 (P : Params) : List (Nat × Obj) := [(70, wkO (app (w1) (app (w2) (w3)))), (69, z69 P), (3, ⟨.type "dict", none, .dict ⟨ent P (Str.ofString "__name__") 165 md1 :: app (dB P) (app (d0v0 P) (app (d1v0 P) (app (d2v0 P) (d3v0 P))))⟩ 33, #[]⟩), (51, ⟨.none, none, .fields ⟨app (t0) (app (t1) (app (t2) (t3)))⟩, #[]⟩), (52, z52 P), (4, z4 P), (2, z2 P), (0, z0 P)]
noncomputable def sp4 : List Sp := [.c md1 (excK ⟨true, 461, 990, 467, 998⟩) 452 978, .c md1 (excK ⟨true, 482, 1017, 488, 1025⟩) 473 1005, .c md1 (excK ⟨true, 503, 1044, 509, 1052⟩) 494 1032, .c md1 (excK ⟨true, 524, 1071, 530, 1079⟩) 515 1059, .c md1 (excK ⟨true, 545, 1098, 551, 1106⟩) 536 1086, .c md1 (excK ⟨true, 566, 1125, 572, 1133⟩) 557 1113]
noncomputable def hot5 (P : Params) : List (Nat × Obj) := [(70, wkO (app (w1) (app (w2) (app (w3) (w4))))), (69, z69 P), (3, ⟨.type "dict", none, .dict ⟨ent P (Str.ofString "__name__") 165 md1 :: app (dB P) (app (d0v0 P) (app (d1v0 P) (app (d2v0 P) (app (d3v0 P) (d4v0 P)))))⟩ 39, #[]⟩), (51, ⟨.none, none, .fields ⟨app (t0) (app (t1) (app (t2) (app (t3) (t4))))⟩, #[]⟩), (52, z52 P), (4, z4 P), (2, z2 P), (0, z0 P)]
noncomputable def sp5 : List Sp := [.c md1 (excK ⟨true, 587, 1152, 593, 1160⟩) 578 1140, .c md1 (excK ⟨true, 608, 1179, 614, 1187⟩) 599 1167, .c md1 (excK ⟨true, 629, 1206, 635, 1214⟩) 620 1194, .c md1 (excK ⟨true, 650, 1233, 656, 1241⟩) 641 1221, .c md1 (excK ⟨true, 671, 1260, 677, 1268⟩) 662 1248, .c md1 (excK ⟨true, 692, 1287, 698, 1295⟩) 683 1275]
noncomputable def hot6 (P : Params) : List (Nat × Obj) := [(70, wkO (app (w1) (app (w2) (app (w3) (app (w4) (w5)))))), (69, z69 P), (3, ⟨.type "dict", none, .dict ⟨ent P (Str.ofString "__name__") 165 md1 :: app (dB P) (app (d0v0 P) (app (d1v0 P) (app (d2v0 P) (app (d3v0 P) (app (d4v0 P) (d5v0 P))))))⟩ 45, #[]⟩), (51, ⟨.none, none, .fields ⟨app (t0) (app (t1) (app (t2) (app (t3) (app (t4) (t5)))))⟩, #[]⟩), (52, z52 P), (4, z4 P), (2, z2 P), (0, z0 P)]
noncomputable def sp6 : List Sp := [.c md1 (excK ⟨true, 713, 1314, 719, 1322⟩) 704 1302]
noncomputable def hot7 (P : Params) : List (Nat × Obj) := [(70, wkO (app (w1) (app (w2) (app (w3) (app (w4) (app (w5) (w6))))))), (69, z69 P), (3, ⟨.type "dict", none, .dict ⟨ent P (Str.ofString "__name__") 165 md1 :: app (dB P) (app (d0v0 P) (app (d1v0 P) (app (d2v0 P) (app (d3v0 P) (app (d4v0 P) (app (d5v0 P) (d6v0 P)))))))⟩ 46, #[]⟩), (51, ⟨.none, none, .fields ⟨app (t0) (app (t1) (app (t2) (app (t3) (app (t4) (app (t5) (t6))))))⟩, #[]⟩), (52, z52 P), (4, z4 P), (2, z2 P), (0, z0 P)]
noncomputable def sp7 : List Sp := [.a, .a, .a, .d md2 true 725 1335, .d md2 true 732 1342, .d md2 true 739 1349, .d md2 true 746 1356, .d md2 false 753 1363, .d md2 true 758 1369, .d md2 false 765 1377, .d md2 false 770 1383, .d md2 true 775 1389, .a]
noncomputable def hot8 (P : Params) : List (Nat × Obj) := [(70, wkO (app (w1) (app (w2) (app (w3) (app (w4) (app (w5) (w6))))))), (69, z69 P), (3, ⟨.type "dict", none, .dict ⟨ent P (Str.ofString "__name__") 165 md3 :: app (dB P) (app (d0v0 P) (app (d1v0 P) (app (d2v0 P) (app (d3v0 P) (app (d4v0 P) (app (d5v0 P) (app (d6v0 P) (d7v0 P))))))))⟩ 57, #[]⟩), (51, ⟨.none, none, .fields ⟨app (t0) (app (t1) (app (t2) (app (t3) (app (t4) (app (t5) (app (t6) (t7)))))))⟩, #[]⟩), (52, z52 P), (4, z4 P), (2, z2 P), (0, z0 P)]
noncomputable def sp8 : List Sp := [.c md3 (plnK [⟨false, 789, 1412, 793, 1417⟩, ⟨true, 794, 1418, 800, 1424⟩, ⟨true, 801, 1425, 807, 1432⟩, ⟨true, 808, 1433, 814, 1440⟩]) 782 1400]
noncomputable def hot9 (P : Params) : List (Nat × Obj) := [(70, wkO (app (w1) (app (w2) (app (w3) (app (w4) (app (w5) (w6))))))), (69, z69 P), (3, ⟨.type "dict", none, .dict ⟨ent P (Str.ofString "__name__") 165 md3 :: app (dB P) (app (d0v0 P) (app (d1v0 P) (app (d2v0 P) (app (d3v0 P) (app (d4v0 P) (app (d5v0 P) (app (d6v0 P) (app (d7v0 P) (d8v0 P)))))))))⟩ 58, #[]⟩), (51, ⟨.none, none, .fields ⟨app (t0) (app (t1) (app (t2) (app (t3) (app (t4) (app (t5) (app (t6) (app (t7) (t8))))))))⟩, #[]⟩), (52, z52 P), (4, z4 P), (2, z2 P), (0, z0 P)]
noncomputable def sp9 : List Sp := [.d md3 true 822 1453, .d md3 false 829 1460, .d md3 false 834 1466, .d md3 true 839 1472, .d md3 false 846 1480, .d md3 false 851 1486, .d md3 true 856 1492, .d md3 false 863 1499, .d md3 true 868 1505, .d md3 true 875 1515, .d md3 true 882 1527]
noncomputable def hot10 (P : Params) : List (Nat × Obj) := [(70, wkO (app (w1) (app (w2) (app (w3) (app (w4) (app (w5) (w6))))))), (69, z69 P), (3, ⟨.type "dict", none, .dict ⟨ent P (Str.ofString "__name__") 165 md3 :: app (dB P) (app (d0v0 P) (app (d1v0 P) (app (d2v0 P) (app (d3v0 P) (app (d4v0 P) (app (d5v0 P) (app (d6v0 P) (app (d7v0 P) (app (d8v0 P) (d9v0 P))))))))))⟩ 69, #[]⟩), (51, ⟨.none, none, .fields ⟨app (t0) (app (t1) (app (t2) (app (t3) (app (t4) (app (t5) (app (t6) (app (t7) (app (t8) (t9)))))))))⟩, #[]⟩), (52, z52 P), (4, z4 P), (2, z2 P), (0, z0 P)]
noncomputable def sp10 : List Sp := [.d md3 true 889 1537, .d md3 true 896 1548, .d md3 true 903 1559, .d md3 false 910 1570, .a, .d md4 true 915 1578, .d md4 false 922 1588, .d md4 false 927 1594, .d md4 true 932 1600, .d md4 false 939 1618, .d md4 false 944 1624]
noncomputable def hot11 (P : Params) : List (Nat × Obj) := [(70, wkO (app (w1) (app (w2) (app (w3) (app (w4) (app (w5) (w6))))))), (69, z69 P), (3, ⟨.type "dict", none, .dict ⟨ent P (Str.ofString "__name__") 165 md4 :: app (dB P) (app (d0v0 P) (app (d1v0 P) (app (d2v0 P) (app (d3v0 P) (app (d4v0 P) (app (d5v0 P) (app (d6v0 P) (app (d7v0 P) (app (d8v0 P) (app (d9v0 P) (d10v0 P)))))))))))⟩ 79, #[]⟩), (51, ⟨.none, none, .fields ⟨app (t0) (app (t1) (app (t2) (app (t3) (app (t4) (app (t5) (app (t6) (app (t7) (app (t8) (app (t9) (t10))))))))))⟩, #[]⟩), (52, z52 P), (4, z4 P), (2, z2 P), (0, z0 P)]
noncomputable def sp11 : List Sp := [.d md4 true 949 1630, .d md4 true 956 1638, .d md4 true 963 1649, .d md4 false 970 1665, .a]
noncomputable def hot12 (P : Params) : List (Nat × Obj) := [(70, wkO (app (w1) (app (w2) (app (w3) (app (w4) (app (w5) (w6))))))), (69, z69 P), (3, ⟨.type "dict", none, .dict ⟨ent P (Str.ofString "__name__") 165 md5 :: app (dB P) (app (d0v0 P) (app (d1v0 P) (app (d2v0 P) (app (d3v0 P) (app (d4v0 P) (app (d5v0 P) (app (d6v0 P) (app (d7v0 P) (app (d8v0 P) (app (d9v0 P) (app (d10v0 P) (d11v0 P))))))))))))⟩ 83, #[]⟩), (51, ⟨.none, none, .fields ⟨app (t0) (app (t1) (app (t2) (app (t3) (app (t4) (app (t5) (app (t6) (app (t7) (app (t8) (app (t9) (app (t10) (t11)))))))))))⟩, #[]⟩), (52, z52 P), (4, z4 P), (2, z2 P), (0, z0 P)]
noncomputable def sp12 : List Sp := [.c md5 (excK ⟨true, 984, 1685, 990, 1693⟩) 975 1673, .c md5 (excK ⟨true, 1005, 1712, 1011, 1720⟩) 996 1700, .c md5 (excK ⟨true, 1026, 1739, 1032, 1747⟩) 1017 1727, .c md5 (excK ⟨true, 1047, 1766, 1053, 1774⟩) 1038 1754, .c md5 (excK ⟨true, 1068, 1793, 1074, 1801⟩) 1059 1781, .c md5 (excK ⟨true, 1089, 1820, 1095, 1828⟩) 1080 1808]
noncomputable def hot13 (P : Params) : List (Nat × Obj) := [(70, wkO (app (w1) (app (w2) (app (w3) (app (w4) (app (w5) (app (w6) (w12)))))))), (69, z69 P), (3, ⟨.type "dict", none, .dict ⟨ent P (Str.ofString "__name__") 165 md5 :: app (dB P) (app (d0v0 P) (app (d1v0 P) (app (d2v0 P) (app (d3v0 P) (app (d4v0 P) (app (d5v0 P) (app (d6v0 P) (app (d7v0 P) (app (d8v0 P) (app (d9v0 P) (app (d10v0 P) (app (d11v0 P) (d12v0 P)))))))))))))⟩ 89, #[]⟩), (51, ⟨.none, none, .fields ⟨app (t0) (app (t1) (app (t2) (app (t3) (app (t4) (app (t5) (app (t6) (app (t7) (app (t8) (app (t9) (app (t10) (app (t11) (t12))))))))))))⟩, #[]⟩), (52, z52 P), (4, z4 P), (2, z2 P), (0, z0 P)]
noncomputable def sp13 : List Sp := [.c md5 (excK ⟨true, 1110, 1847, 1116, 1855⟩) 1101 1835, .c md5 (excK ⟨true, 1131, 1874, 1137, 1882⟩) 1122 1862, .c md5 (excK ⟨true, 1152, 1901, 1158, 1909⟩) 1143 1889, .c md5 (excK ⟨true, 1173, 1928, 1179, 1935⟩) 1164 1916, .c md5 (excK ⟨true, 1194, 1953, 1200, 1961⟩) 1185 1941, .c md5 (excK ⟨true, 1215, 1980, 1221, 1987⟩) 1206 1968]
noncomputable def hot14 (P : Params) : List (Nat × Obj) := [(70, wkO (app (w1) (app (w2) (app (w3) (app (w4) (app (w5) (app (w6) (app (w12) (w13))))))))), (69, z69 P), (3, ⟨.type "dict", none, .dict ⟨ent P (Str.ofString "__name__") 165 md5 :: app (dB P) (app (d0v0 P) (app (d1v0 P) (app (d2v0 P) (app (d3v0 P) (app (d4v0 P) (app (d5v0 P) (app (d6v0 P) (app (d7v0 P) (app (d8v0 P) (app (d9v0 P) (app (d10v0 P) (app (d11v0 P) (app (d12v0 P) (d13v0 P))))))))))))))⟩ 95, #[]⟩), (51, ⟨.none, none, .fields ⟨app (t0) (app (t1) (app (t2) (app (t3) (app (t4) (app (t5) (app (t6) (app (t7) (app (t8) (app (t9) (app (t10) (app (t11) (app (t12) (t13)))))))))))))⟩, #[]⟩), (52, z52 P), (4, z4 P), (2, z2 P), (0, z0 P)]
noncomputable def sp14 : List Sp := [.c md5 (excK ⟨true, 1236, 2005, 1242, 2013⟩) 1227 1993, .c md5 (excK ⟨true, 1257, 2032, 1263, 2040⟩) 1248 2020, .c md5 (excK ⟨true, 1278, 2059, 1284, 2067⟩) 1269 2047, .c md5 (excK ⟨true, 1299, 2086, 1305, 2094⟩) 1290 2074, .c md5 (excK ⟨true, 1320, 2113, 1326, 2121⟩) 1311 2101, .c md5 (excK ⟨true, 1341, 2140, 1347, 2148⟩) 1332 2128]
noncomputable def hot15 (P : Params) : List (Nat × Obj) := [(70, wkO (app (w1) (app (w2) (app (w3) (app (w4) (app (w5) (app (w6) (app (w12) (app (w13) (w14)))))))))), (69, z69 P), (3, ⟨.type "dict", none, .dict ⟨ent P (Str.ofString "__name__") 165 md5 :: app (dB P) (app (d0v0 P) (app (d1v0 P) (app (d2v0 P) (app (d3v0 P) (app (d4v0 P) (app (d5v0 P) (app (d6v0 P) (app (d7v0 P) (app (d8v0 P) (app (d9v0 P) (app (d10v0 P) (app (d11v0 P) (app (d12v0 P) (app (d13v0 P) (d14v0 P)))))))))))))))⟩ 101, #[]⟩), (51, ⟨.none, none, .fields ⟨app (t0) (app (t1) (app (t2) (app (t3) (app (t4) (app (t5) (app (t6) (app (t7) (app (t8) (app (t9) (app (t10) (app (t11) (app (t12) (app (t13) (t14))))))))))))))⟩, #[]⟩), (52, z52 P), (4, z4 P), (2, z2 P), (0, z0 P)]
noncomputable def sp15 : List Sp := [.c md5 (excK ⟨true, 1362, 2167, 1368, 2175⟩) 1353 2155, .c md5 (excK ⟨true, 1383, 2194, 1389, 2202⟩) 1374 2182, .c md5 (excK ⟨true, 1404, 2221, 1410, 2229⟩) 1395 2209, .c md5 (excK ⟨true, 1425, 2248, 1431, 2256⟩) 1416 2236, .c md5 (excK ⟨true, 1446, 2275, 1452, 2283⟩) 1437 2263, .c md5 (excK ⟨true, 1467, 2302, 1473, 2310⟩) 1458 2290]
noncomputable def hot16 (P : Params) : List (Nat × Obj) := [(70, wkO (app (w1) (app (w2) (app (w3) (app (w4) (app (w5) (app (w6) (app (w12) (app (w13) (app (w14) (w15))))))))))), (69, z69 P), (3, ⟨.type "dict", none, .dict ⟨ent P (Str.ofString "__name__") 165 md5 :: app (dB P) (app (d0v0 P) (app (d1v0 P) (app (d2v0 P) (app (d3v0 P) (app (d4v0 P) (app (d5v0 P) (app (d6v0 P) (app (d7v0 P) (app (d8v0 P) (app (d9v0 P) (app (d10v0 P) (app (d11v0 P) (app (d12v0 P) (app (d13v0 P) (app (d14v0 P) (d15v0 P))))))))))))))))⟩ 107, #[]⟩), (51, ⟨.none, none, .fields ⟨app (t0) (app (t1) (app (t2) (app (t3) (app (t4) (app (t5) (app (t6) (app (t7) (app (t8) (app (t9) (app (t10) (app (t11) (app (t12) (app (t13) (app (t14) (t15)))))))))))))))⟩, #[]⟩), (52, z52 P), (4, z4 P), (2, z2 P), (0, z0 P)]
noncomputable def sp16 : List Sp := [.c md5 (excK ⟨true, 1488, 2329, 1494, 2337⟩) 1479 2317, .c md5 (excK ⟨true, 1509, 2356, 1515, 2364⟩) 1500 2344, .c md5 (excK ⟨true, 1530, 2383, 1536, 2391⟩) 1521 2371, .c md5 (excK ⟨true, 1551, 2410, 1557, 2418⟩) 1542 2398, .c md5 (excK ⟨true, 1572, 2437, 1578, 2445⟩) 1563 2425, .c md5 (excK ⟨true, 1593, 2464, 1599, 2472⟩) 1584 2452]
noncomputable def hot17 (P : Params) : List (Nat × Obj) := [(70, wkO (app (w1) (app (w2) (app (w3) (app (w4) (app (w5) (app (w6) (app (w12) (app (w13) (app (w14) (app (w15) (w16)))))))))))), (69, z69 P), (3, ⟨.type "dict", none, .dict ⟨ent P (Str.ofString "__name__") 165 md5 :: app (dB P) (app (d0v0 P) (app (d1v0 P) (app (d2v0 P) (app (d3v0 P) (app (d4v0 P) (app (d5v0 P) (app (d6v0 P) (app (d7v0 P) (app (d8v0 P) (app (d9v0 P) (app (d10v0 P) (app (d11v0 P) (app (d12v0 P) (app (d13v0 P) (app (d14v0 P) (app (d15v0 P) (d16v0 P)))))))))))))))))⟩ 113, #[]⟩), (51, ⟨.none, none, .fields ⟨app (t0) (app (t1) (app (t2) (app (t3) (app (t4) (app (t5) (app (t6) (app (t7) (app (t8) (app (t9) (app (t10) (app (t11) (app (t12) (app (t13) (app (t14) (app (t15) (t16))))))))))))))))⟩, #[]⟩), (52, z52 P), (4, z4 P), (2, z2 P), (0, z0 P)]
noncomputable def sp17 : List Sp := [.c md5 (excK ⟨true, 1614, 2491, 1620, 2499⟩) 1605 2479, .c md5 (excK ⟨true, 1635, 2518, 1641, 2527⟩) 1626 2506, .c md5 (excK ⟨true, 1656, 2547, 1662, 2555⟩) 1647 2535, .c md5 (excK ⟨true, 1677, 2574, 1683, 2582⟩) 1668 2562, .c md5 (excK ⟨true, 1698, 2601, 1704, 2609⟩) 1689 2589, .c md5 (excK ⟨true, 1719, 2628, 1725, 2636⟩) 1710 2616]
noncomputable def hot18 (P : Params) : List (Nat × Obj) := [(70, wkO (app (w1) (app (w2) (app (w3) (app (w4) (app (w5) (app (w6) (app (w12) (app (w13) (app (w14) (app (w15) (app (w16) (w17))))))))))))), (69, z69 P), (3, ⟨.type "dict", none, .dict ⟨ent P (Str.ofString "__name__") 165 md5 :: app (dB P) (app (d0v0 P) (app (d1v0 P) (app (d2v0 P) (app (d3v0 P) (app (d4v0 P) (app (d5v0 P) (app (d6v0 P) (app (d7v0 P) (app (d8v0 P) (app (d9v0 P) (app (d10v0 P) (app (d11v0 P) (app (d12v0 P) (app (d13v0 P) (app (d14v0 P) (app (d15v0 P) (app (d16v0 P) (d17v0 P))))))))))))))))))⟩ 119, #[]⟩), (51, ⟨.none, none, .fields ⟨app (t0) (app (t1) (app (t2) (app (t3) (app (t4) (app (t5) (app (t6) (app (t7) (app (t8) (app (t9) (app (t10) (app (t11) (app (t12) (app (t13) (app (t14) (app (t15) (app (t16) (t17)))))))))))))))))⟩, #[]⟩), (52, z52 P), (4, z4 P), (2, z2 P), (0, z0 P)]
noncomputable def sp18 : List Sp := [.c md5 (excK ⟨true, 1740, 2655, 1746, 2663⟩) 1731 2643, .c md5 (excK ⟨true, 1761, 2682, 1767, 2690⟩) 1752 2670, .c md5 (excK ⟨true, 1782, 2709, 1788, 2717⟩) 1773 2697, .c md5 (excK ⟨true, 1803, 2736, 1809, 2744⟩) 1794 2724]
noncomputable def hot19 (P : Params) : List (Nat × Obj) := [(70, wkO (app (w1) (app (w2) (app (w3) (app (w4) (app (w5) (app (w6) (app (w12) (app (w13) (app (w14) (app (w15) (app (w16) (app (w17) (w18)))))))))))))), (69, z69 P), (3, ⟨.type "dict", none, .dict ⟨ent P (Str.ofString "__name__") 165 md5 :: app (dB P) (app (d0v0 P) (app (d1v0 P) (app (d2v0 P) (app (d3v0 P) (app (d4v0 P) (app (d5v0 P) (app (d6v0 P) (app (d7v0 P) (app (d8v0 P) (app (d9v0 P) (app (d10v0 P) (app (d11v0 P) (app (d12v0 P) (app (d13v0 P) (app (d14v0 P) (app (d15v0 P) (app (d16v0 P) (app (d17v0 P) (d18v0 P)))))))))))))))))))⟩ 123, #[]⟩), (51, ⟨.none, none, .fields ⟨app (t0) (app (t1) (app (t2) (app (t3) (app (t4) (app (t5) (app (t6) (app (t7) (app (t8) (app (t9) (app (t10) (app (t11) (app (t12) (app (t13) (app (t14) (app (t15) (app (t16) (app (t17) (t18))))))))))))))))))⟩, #[]⟩), (52, z52 P), (4, z4 P), (2, z2 P), (0, z0 P)]
noncomputable def sp19 : List Sp := [.a, .d md6 false 1815 2753, .d md6 false 1820 2759, .d md6 true 1825 2765, .d md6 false 1832 2773, .d md6 true 1837 2779, .d md6 true 1844 2796, .d md6 false 1851 2804, .d md6 true 1856 2810, .d md6 false 1863 2819, .d md6 false 1868 2825]
noncomputable def hot20 (P : Params) : List (Nat × Obj) := [(70, wkO (app (w1) (app (w2) (app (w3) (app (w4) (app (w5) (app (w6) (app (w12) (app (w13) (app (w14) (app (w15) (app (w16) (app (w17) (w18)))))))))))))), (69, z69 P), (3, ⟨.type "dict", none, .dict ⟨ent P (Str.ofString "__name__") 165 md6 :: app (dB P) (app (d0v0 P) (app (d1v0 P) (app (d2v0 P) (app (d3v0 P) (app (d4v0 P) (app (d5v0 P) (app (d6v0 P) (app (d7v0 P) (app (d8v0 P) (app (d9v0 P) (app (d10v0 P) (app (d11v0 P) (app (d12v0 P) (app (d13v0 P) (app (d14v0 P) (app (d15v0 P) (app (d16v0 P) (app (d17v0 P) (app (d18v0 P) (d19v0 P))))))))))))))))))))⟩ 133, #[]⟩), (51, ⟨.none, none, .fields ⟨app (t0) (app (t1) (app (t2) (app (t3) (app (t4) (app (t5) (app (t6) (app (t7) (app (t8) (app (t9) (app (t10) (app (t11) (app (t12) (app (t13) (app (t14) (app (t15) (app (t16) (app (t17) (app (t18) (t19)))))))))))))))))))⟩, #[]⟩), (52, z52 P), (4, z4 P), (2, z2 P), (0, z0 P)]
noncomputable def sp20 : List Sp := [.d md6 false 1873 2831, .d md6 false 1878 2837, .d md6 true 1883 2843, .d md6 true 1890 2854, .d md6 true 1897 2867, .d md6 true 1904 2879, .a, .d md7 true 1911 2894, .d md7 true 1918 2901, .d md7 true 1925 2909, .d md7 true 1932 2917]
noncomputable def hot21 (P : Params) : List (Nat × Obj) := [(70, wkO (app (w1) (app (w2) (app (w3) (app (w4) (app (w5) (app (w6) (app (w12) (app (w13) (app (w14) (app (w15) (app (w16) (app (w17) (w18)))))))))))))), (69, z69 P), (3, ⟨.type "dict", none, .dict ⟨ent P (Str.ofString "__name__") 165 md7 :: app (dB P) (app (d0v0 P) (app (d1v0 P) (app (d2v0 P) (app (d3v0 P) (app (d4v0 P) (app (d5v0 P) (app (d6v0 P) (app (d7v0 P) (app (d8v0 P) (app (d9v0 P) (app (d10v0 P) (app (d11v0 P) (app (d12v0 P) (app (d13v0 P) (app (d14v0 P) (app (d15v0 P) (app (d16v0 P) (app (d17v0 P) (app (d18v0 P) (app (d19v0 P) (d20v0 P)))))))))))))))))))))⟩ 143, #[]⟩), (51, ⟨.none, none, .fields ⟨app (t0) (app (t1) (app (t2) (app (t3) (app (t4) (app (t5) (app (t6) (app (t7) (app (t8) (app (t9) (app (t10) (app (t11) (app (t12) (app (t13) (app (t14) (app (t15) (app (t16) (app (t17) (app (t18) (app (t19) (t20))))))))))))))))))))⟩, #[]⟩), (52, z52 P), (4, z4 P), (2, z2 P), (0, z0 P)]
noncomputable def sp21 : List Sp := [.d md7 true 1939 2927, .d md7 false 1946 2939, .d md7 false 1951 2945, .d md7 true 1956 2951, .a, .d md8 true 1963 2963, .d md8 true 1970 2971, .a, .d md8 false 1977 2981, .d md8 true 1982 2987, .a, .d md8 false 1989 3001, .a]
noncomputable def hot22 (P : Params) : List (Nat × Obj) := [(70, wkO (app (w1) (app (w2) (app (w3) (app (w4) (app (w5) (app (w6) (app (w12) (app (w13) (app (w14) (app (w15) (app (w16) (app (w17) (w18)))))))))))))), (69, z69 P), (3, ⟨.type "dict", none, .dict ⟨ent P (Str.ofString "__name__") 165 md9 :: app (dB P) (app (d0v0 P) (app (d1v0 P) (app (d2v0 P) (app (d3v0 P) (app (d4v0 P) (app (d5v0 P) (app (d6v0 P) (app (d7v0 P) (app (d8v0 P) (app (d9v0 P) (app (d10v0 P) (app (d11v0 P) (app (d12v0 P) (app (d13v0 P) (app (d14v0 P) (app (d15v0 P) (app (d16v0 P) (app (d17v0 P) (app (d18v0 P) (app (d19v0 P) (app (d20v0 P) (d21v0 P))))))))))))))))))))))⟩ 154, #[]⟩), (51, ⟨.none, none, .fields ⟨app (t0) (app (t1) (app (t2) (app (t3) (app (t4) (app (t5) (app (t6) (app (t7) (app (t8) (app (t9) (app (t10) (app (t11) (app (t12) (app (t13) (app (t14) (app (t15) (app (t16) (app (t17) (app (t18) (app (t19) (app (t20) (t21)))))))))))))))))))))⟩, #[]⟩), (52, z52 P), (4, z4 P), (2, z2 P), (0, z0 P)]
noncomputable def sp22 : List Sp := [.d md9 true 1994 3009, .d md9 true 2001 3017, .a, .d md9 false 2008 3026, .d md9 true 2013 3032, .d md9 false 2020 3042, .d md9 false 2025 3048, .d md9 true 2030 3054, .d md9 true 2037 3065]
noncomputable def hot23 (P : Params) : List (Nat × Obj) := [(70, wkO (app (w1) (app (w2) (app (w3) (app (w4) (app (w5) (app (w6) (app (w12) (app (w13) (app (w14) (app (w15) (app (w16) (app (w17) (w18)))))))))))))), (69, z69 P), (3, ⟨.type "dict", none, .dict ⟨ent P (Str.ofString "__name__") 165 md9 :: app (dB P) (app (d0v0 P) (app (d1v0 P) (app (d2v0 P) (app (d3v0 P) (app (d4v0 P) (app (d5v0 P) (app (d6v0 P) (app (d7v0 P) (app (d8v0 P) (app (d9v0 P) (app (d10v0 P) (app (d11v0 P) (app (d12v0 P) (app (d13v0 P) (app (d14v0 P) (app (d15v0 P) (app (d16v0 P) (app (d17v0 P) (app (d18v0 P) (app (d19v0 P) (app (d20v0 P) (app (d21v22 P) (d22v0 P)))))))))))))))))))))))⟩ 162, #[]⟩), (51, ⟨.none, none, .fields ⟨app (t0) (app (t1) (app (t2) (app (t3) (app (t4) (app (t5) (app (t6) (app (t7) (app (t8) (app (t9) (app (t10) (app (t11) (app (t12) (app (t13) (app (t14) (app (t15) (app (t16) (app (t17) (app (t18) (app (t19) (app (t20) (app (t21) (t22))))))))))))))))))))))⟩, #[]⟩), (52, z52 P), (4, z4 P), (2, z2 P), (0, z0 P)]
noncomputable def sp23 : List Sp := [.c md9 (plnK [⟨true, 2051, 3091, 2057, 3098⟩, ⟨true, 2058, 3099, 2064, 3105⟩, ⟨true, 2065, 3106, 2071, 3112⟩, ⟨true, 2072, 3113, 2078, 3119⟩, ⟨true, 2079, 3120, 2085, 3129⟩, ⟨true, 2086, 3130, 2092, 3143⟩, ⟨true, 2093, 3144, 2099, 3151⟩, ⟨true, 2100, 3152, 2106, 3160⟩, ⟨true, 2107, 3161, 2113, 3168⟩, ⟨true, 2114, 3169, 2120, 3176⟩, ⟨true, 2121, 3177, 2127, 3184⟩, ⟨true, 2128, 3185, 2134, 3191⟩, ⟨true, 2135, 3192, 2141, 3198⟩, ⟨true, 2142, 3199, 2148, 3205⟩, ⟨true, 2149, 3206, 2155, 3214⟩, ⟨true, 2156, 3215, 2162, 3221⟩, ⟨true, 2163, 3222, 2169, 3230⟩, ⟨true, 2170, 3231, 2176, 3237⟩, ⟨true, 2177, 3238, 2183, 3245⟩, ⟨true, 2184, 3246, 2190, 3253⟩]) 2044 3079]
noncomputable def hot24 (P : Params) : List (Nat × Obj) := [(70, wkO (app (w1) (app (w2) (app (w3) (app (w4) (app (w5) (app (w6) (app (w12) (app (w13) (app (w14) (app (w15) (app (w16) (app (w17) (w18)))))))))))))), (69, z69 P), (3, ⟨.type "dict", none, .dict ⟨ent P (Str.ofString "__name__") 165 md9 :: app (dB P) (app (d0v0 P) (app (d1v0 P) (app (d2v0 P) (app (d3v0 P) (app (d4v0 P) (app (d5v0 P) (app (d6v0 P) (app (d7v0 P) (app (d8v0 P) (app (d9v0 P) (app (d10v0 P) (app (d11v0 P) (app (d12v0 P) (app (d13v0 P) (app (d14v0 P) (app (d15v0 P) (app (d16v0 P) (app (d17v0 P) (app (d18v0 P) (app (d19v0 P) (app (d20v0 P) (app (d21v22 P) (app (d22v0 P) (d23v0 P))))))))))))))))))))))))⟩ 163, #[]⟩), (51, ⟨.none, none, .fields ⟨app (t0) (app (t1) (app (t2) (app (t3) (app (t4) (app (t5) (app (t6) (app (t7) (app (t8) (app (t9) (app (t10) (app (t11) (app (t12) (app (t13) (app (t14) (app (t15) (app (t16) (app (t17) (app (t18) (app (t19) (app (t20) (app (t21) (app (t22) (t23)))))))))))))))))))))))⟩, #[]⟩), (52, z52 P), (4, z4 P), (2, z2 P), (0, z0 P)]
noncomputable def sp24 : List Sp := [.a, .d md10 true 2198 3269, .d md10 true 2205 3276, .a, .d md11 true 2212 3287, .d md11 true 2219 3294, .d md11 false 2226 3303, .d md11 true 2231 3309, .d md11 true 2238 3320, .a, .d md12 false 2245 3337, .d md12 true 2250 3343]
noncomputable def hot25 (P : Params) : List (Nat × Obj) := [(70, wkO (app (w1) (app (w2) (app (w3) (app (w4) (app (w5) (app (w6) (app (w12) (app (w13) (app (w14) (app (w15) (app (w16) (app (w17) (w18)))))))))))))), (69, z69 P), (3, ⟨.type "dict", none, .dict ⟨ent P (Str.ofString "__name__") 165 md12 :: app (dB P) (app (d0v0 P) (app (d1v0 P) (app (d2v0 P) (app (d3v0 P) (app (d4v0 P) (app (d5v0 P) (app (d6v0 P) (app (d7v0 P) (app (d8v0 P) (app (d9v0 P) (app (d10v0 P) (app (d11v0 P) (app (d12v0 P) (app (d13v0 P) (app (d14v0 P) (app (d15v0 P) (app (d16v0 P) (app (d17v0 P) (app (d18v0 P) (app (d19v0 P) (app (d20v0 P) (app (d21v22 P) (app (d22v0 P) (app (d23v0 P) (d24v0 P)))))))))))))))))))))))))⟩ 172, #[]⟩), (51, ⟨.none, none, .fields ⟨app (t0) (app (t1) (app (t2) (app (t3) (app (t4) (app (t5) (app (t6) (app (t7) (app (t8) (app (t9) (app (t10) (app (t11) (app (t12) (app (t13) (app (t14) (app (t15) (app (t16) (app (t17) (app (t18) (app (t19) (app (t20) (app (t21) (app (t22) (app (t23) (t24))))))))))))))))))))))))⟩, #[]⟩), (52, z52 P), (4, z4 P), (2, z2 P), (0, z0 P)]
noncomputable def sp25 : List Sp := [.d md12 false 2257 3353, .d md12 false 2262 3359, .d md12 false 2267 3365, .d md12 true 2272 3371, .d md12 false 2279 3386, .d md12 false 2284 3392, .d md12 true 2289 3398, .a, .a, .d md13 false 2296 3414, .a, .d md13 false 2301 3421, .d md13 true 2306 3427]
noncomputable def hot26 (P : Params) : List (Nat × Obj) := [(70, wkO (app (w1) (app (w2) (app (w3) (app (w4) (app (w5) (app (w6) (app (w12) (app (w13) (app (w14) (app (w15) (app (w16) (app (w17) (w18)))))))))))))), (69, z69 P), (3, ⟨.type "dict", none, .dict ⟨ent P (Str.ofString "__name__") 165 md13 :: app (dB P) (app (d0v0 P) (app (d1v0 P) (app (d2v0 P) (app (d3v0 P) (app (d4v0 P) (app (d5v0 P) (app (d6v0 P) (app (d7v0 P) (app (d8v0 P) (app (d9v0 P) (app (d10v0 P) (app (d11v0 P) (app (d12v0 P) (app (d13v0 P) (app (d14v0 P) (app (d15v0 P) (app (d16v0 P) (app (d17v0 P) (app (d18v0 P) (app (d19v0 P) (app (d20v0 P) (app (d21v26 P) (app (d22v0 P) (app (d23v0 P) (app (d24v0 P) (d25v0 P))))))))))))))))))))))))))⟩ 183, #[]⟩), (51, ⟨.none, none, .fields ⟨app (t0) (app (t1) (app (t2) (app (t3) (app (t4) (app (t5) (app (t6) (app (t7) (app (t8) (app (t9) (app (t10) (app (t11) (app (t12) (app (t13) (app (t14) (app (t15) (app (t16) (app (t17) (app (t18) (app (t19) (app (t20) (app (t21) (app (t22) (app (t23) (app (t24) (t25)))))))))))))))))))))))))⟩, #[]⟩), (52, z52 P), (4, z4 P), (2, z2 P), (0, z0 P)]
noncomputable def sp26 : List Sp := [.d md13 false 2313 3437, .d md13 true 2318 3443, .a, .d md14 true 2325 3456, .d md14 true 2332 3465, .a, .d md15 false 2339 3476, .d md15 true 2344 3482, .d md15 true 2351 3494, .d md15 false 2358 3506, .d md15 false 2363 3512, .d md15 false 2368 3518]
noncomputable def hot27 (P : Params) : List (Nat × Obj) := [(70, wkO (app (w1) (app (w2) (app (w3) (app (w4) (app (w5) (app (w6) (app (w12) (app (w13) (app (w14) (app (w15) (app (w16) (app (w17) (w18)))))))))))))), (69, z69 P), (3, ⟨.type "dict", none, .dict ⟨ent P (Str.ofString "__name__") 165 md15 :: app (dB P) (app (d0v0 P) (app (d1v0 P) (app (d2v0 P) (app (d3v0 P) (app (d4v0 P) (app (d5v0 P) (app (d6v0 P) (app (d7v0 P) (app (d8v0 P) (app (d9v0 P) (app (d10v0 P) (app (d11v0 P) (app (d12v0 P) (app (d13v0 P) (app (d14v0 P) (app (d15v0 P) (app (d16v0 P) (app (d17v0 P) (app (d18v0 P) (app (d19v0 P) (app (d20v0 P) (app (d21v26 P) (app (d22v0 P) (app (d23v0 P) (app (d24v0 P) (app (d25v0 P) (d26v0 P)))))))))))))))))))))))))))⟩ 193, #[]⟩), (51, ⟨.none, none, .fields ⟨app (t0) (app (t1) (app (t2) (app (t3) (app (t4) (app (t5) (app (t6) (app (t7) (app (t8) (app (t9) (app (t10) (app (t11) (app (t12) (app (t13) (app (t14) (app (t15) (app (t16) (app (t17) (app (t18) (app (t19) (app (t20) (app (t21) (app (t22) (app (t23) (app (t24) (app (t25) (t26))))))))))))))))))))))))))⟩, #[]⟩), (52, z52 P), (4, z4 P), (2, z2 P), (0, z0 P)]
noncomputable def sp27 : List Sp := [.d md15 true 2373 3524, .a, .d md16 false 2380 3539, .d md16 true 2385 3545, .d md16 false 2392 3556, .d md16 true 2397 3562, .d md16 false 2404 3571, .d md16 true 2409 3577, .d md16 false 2416 3589, .d md16 false 2421 3595, .d md16 false 2426 3601]
noncomputable def hot28 (P : Params) : List (Nat × Obj) := [(70, wkO (app (w1) (app (w2) (app (w3) (app (w4) (app (w5) (app (w6) (app (w12) (app (w13) (app (w14) (app (w15) (app (w16) (app (w17) (w18)))))))))))))), (69, z69 P), (3, ⟨.type "dict", none, .dict ⟨ent P (Str.ofString "__name__") 165 md16 :: app (dB P) (app (d0v0 P) (app (d1v0 P) (app (d2v0 P) (app (d3v0 P) (app (d4v0 P) (app (d5v0 P) (app (d6v0 P) (app (d7v0 P) (app (d8v0 P) (app (d9v0 P) (app (d10v0 P) (app (d11v0 P) (app (d12v0 P) (app (d13v0 P) (app (d14v0 P) (app (d15v0 P) (app (d16v0 P) (app (d17v0 P) (app (d18v0 P) (app (d19v0 P) (app (d20v0 P) (app (d21v26 P) (app (d22v0 P) (app (d23v0 P) (app (d24v0 P) (app (d25v0 P) (app (d26v0 P) (d27v0 P))))))))))))))))))))))))))))⟩ 203, #[]⟩), (51, ⟨.none, none, .fields ⟨app (t0) (app (t1) (app (t2) (app (t3) (app (t4) (app (t5) (app (t6) (app (t7) (app (t8) (app (t9) (app (t10) (app (t11) (app (t12) (app (t13) (app (t14) (app (t15) (app (t16) (app (t17) (app (t18) (app (t19) (app (t20) (app (t21) (app (t22) (app (t23) (app (t24) (app (t25) (app (t26) (t27)))))))))))))))))))))))))))⟩, #[]⟩), (52, z52 P), (4, z4 P), (2, z2 P), (0, z0 P)]
noncomputable def sp28 : List Sp := [.d md16 true 2431 3607, .d md16 true 2438 3625, .d md16 false 2445 3637, .d md16 false 2450 3643, .a, .d md16 false 2455 3650, .a, .d md17 false 2460 3658, .d md17 true 2465 3664, .d md17 false 2472 3675, .d md17 false 2477 3681, .d md17 true 2482 3687]
noncomputable def hot29 (P : Params) : List (Nat × Obj) := [(70, wkO (app (w1) (app (w2) (app (w3) (app (w4) (app (w5) (app (w6) (app (w12) (app (w13) (app (w14) (app (w15) (app (w16) (app (w17) (w18)))))))))))))), (69, z69 P), (3, ⟨.type "dict", none, .dict ⟨ent P (Str.ofString "__name__") 165 md17 :: app (dB P) (app (d0v0 P) (app (d1v0 P) (app (d2v0 P) (app (d3v0 P) (app (d4v0 P) (app (d5v0 P) (app (d6v0 P) (app (d7v0 P) (app (d8v0 P) (app (d9v0 P) (app (d10v0 P) (app (d11v0 P) (app (d12v0 P) (app (d13v0 P) (app (d14v0 P) (app (d15v0 P) (app (d16v0 P) (app (d17v0 P) (app (d18v0 P) (app (d19v0 P) (app (d20v0 P) (app (d21v26 P) (app (d22v0 P) (app (d23v0 P) (app (d24v0 P) (app (d25v0 P) (app (d26v0 P) (app (d27v0 P) (d28v0 P)))))))))))))))))))))))))))))⟩ 214, #[]⟩), (51, ⟨.none, none, .fields ⟨app (t0) (app (t1) (app (t2) (app (t3) (app (t4) (app (t5) (app (t6) (app (t7) (app (t8) (app (t9) (app (t10) (app (t11) (app (t12) (app (t13) (app (t14) (app (t15) (app (t16) (app (t17) (app (t18) (app (t19) (app (t20) (app (t21) (app (t22) (app (t23) (app (t24) (app (t25) (app (t26) (app (t27) (t28))))))))))))))))))))))))))))⟩, #[]⟩), (52, z52 P), (4, z4 P), (2, z2 P), (0, z0 P)]
noncomputable def sp29 : List Sp := [.d md17 false 2489 3696, .d md17 true 2494 3702, .a, .d md17 false 2501 3716, .d md17 false 2506 3722, .d md17 false 2511 3728, .d md17 true 2516 3734, .d md17 false 2523 3742, .d md17 true 2528 3748, .d md17 false 2535 3761, .d md17 false 2540 3767]
noncomputable def hot30 (P : Params) : List (Nat × Obj) := [(70, wkO (app (w1) (app (w2) (app (w3) (app (w4) (app (w5) (app (w6) (app (w12) (app (w13) (app (w14) (app (w15) (app (w16) (app (w17) (w18)))))))))))))), (69, z69 P), (3, ⟨.type "dict", none, .dict ⟨ent P (Str.ofString "__name__") 165 md17 :: app (dB P) (app (d0v0 P) (app (d1v0 P) (app (d2v0 P) (app (d3v0 P) (app (d4v0 P) (app (d5v0 P) (app (d6v0 P) (app (d7v0 P) (app (d8v0 P) (app (d9v0 P) (app (d10v0 P) (app (d11v0 P) (app (d12v0 P) (app (d13v0 P) (app (d14v0 P) (app (d15v0 P) (app (d16v0 P) (app (d17v0 P) (app (d18v0 P) (app (d19v0 P) (app (d20v0 P) (app (d21v26 P) (app (d22v0 P) (app (d23v0 P) (app (d24v0 P) (app (d25v0 P) (app (d26v0 P) (app (d27v0 P) (app (d28v0 P) (d29v0 P))))))))))))))))))))))))))))))⟩ 225, #[]⟩), (51, ⟨.none, none, .fields ⟨app (t0) (app (t1) (app (t2) (app (t3) (app (t4) (app (t5) (app (t6) (app (t7) (app (t8) (app (t9) (app (t10) (app (t11) (app (t12) (app (t13) (app (t14) (app (t15) (app (t16) (app (t17) (app (t18) (app (t19) (app (t20) (app (t21) (app (t22) (app (t23) (app (t24) (app (t25) (app (t26) (app (t27) (app (t28) (t29)))))))))))))))))))))))))))))⟩, #[]⟩), (52, z52 P), (4, z4 P), (2, z2 P), (0, z0 P)]
noncomputable def sp30 : List Sp := [.d md17 true 2545 3773, .d md17 false 2552 3781, .d md17 true 2557 3787, .d md17 true 2564 3795, .d md17 false 2571 3804, .d md17 true 2576 3810, .a, .d md18 true 2583 3828, .d md18 true 2590 3839, .d md18 false 2597 3857]
noncomputable def hot31 (P : Params) : List (Nat × Obj) := [(70, wkO (app (w1) (app (w2) (app (w3) (app (w4) (app (w5) (app (w6) (app (w12) (app (w13) (app (w14) (app (w15) (app (w16) (app (w17) (w18)))))))))))))), (69, z69 P), (3, ⟨.type "dict", none, .dict ⟨ent P (Str.ofString "__name__") 165 md18 :: app (dB P) (app (d0v0 P) (app (d1v0 P) (app (d2v0 P) (app (d3v0 P) (app (d4v0 P) (app (d5v0 P) (app (d6v0 P) (app (d7v0 P) (app (d8v0 P) (app (d9v0 P) (app (d10v0 P) (app (d11v0 P) (app (d12v0 P) (app (d13v0 P) (app (d14v0 P) (app (d15v0 P) (app (d16v0 P) (app (d17v0 P) (app (d18v0 P) (app (d19v0 P) (app (d20v0 P) (app (d21v26 P) (app (d22v0 P) (app (d23v0 P) (app (d24v0 P) (app (d25v0 P) (app (d26v0 P) (app (d27v0 P) (app (d28v0 P) (app (d29v0 P) (d30v0 P)))))))))))))))))))))))))))))))⟩ 234, #[]⟩), (51, ⟨.none, none, .fields ⟨app (t0) (app (t1) (app (t2) (app (t3) (app (t4) (app (t5) (app (t6) (app (t7) (app (t8) (app (t9) (app (t10) (app (t11) (app (t12) (app (t13) (app (t14) (app (t15) (app (t16) (app (t17) (app (t18) (app (t19) (app (t20) (app (t21) (app (t22) (app (t23) (app (t24) (app (t25) (app (t26) (app (t27) (app (t28) (app (t29) (t30))))))))))))))))))))))))))))))⟩, #[]⟩), (52, z52 P), (4, z4 P), (2, z2 P), (0, z0 P)]
noncomputable def sp31 : List Sp := [.d md18 true 2602 3863, .d md18 true 2609 3874, .d md18 true 2616 3886, .d md18 false 2623 3898, .d md18 true 2628 3904, .d md18 true 2635 3916, .a, .d md19 true 2642 3931, .d md19 true 2649 3939, .d md19 true 2656 3947]
noncomputable def hot32 (P : Params) : List (Nat × Obj) := [(70, wkO (app (w1) (app (w2) (app (w3) (app (w4) (app (w5) (app (w6) (app (w12) (app (w13) (app (w14) (app (w15) (app (w16) (app (w17) (w18)))))))))))))), (69, z69 P), (3, ⟨.type "dict", none, .dict ⟨ent P (Str.ofString "__name__") 165 md19 :: app (dB P) (app (d0v0 P) (app (d1v0 P) (app (d2v0 P) (app (d3v0 P) (app (d4v0 P) (app (d5v0 P) (app (d6v0 P) (app (d7v0 P) (app (d8v0 P) (app (d9v0 P) (app (d10v0 P) (app (d11v0 P) (app (d12v0 P) (app (d13v0 P) (app (d14v0 P) (app (d15v0 P) (app (d16v0 P) (app (d17v0 P) (app (d18v0 P) (app (d19v0 P) (app (d20v0 P) (app (d21v26 P) (app (d22v0 P) (app (d23v0 P) (app (d24v0 P) (app (d25v0 P) (app (d26v0 P) (app (d27v0 P) (app (d28v0 P) (app (d29v0 P) (app (d30v0 P) (d31v0 P))))))))))))))))))))))))))))))))⟩ 243, #[]⟩), (51, ⟨.none, none, .fields ⟨app (t0) (app (t1) (app (t2) (app (t3) (app (t4) (app (t5) (app (t6) (app (t7) (app (t8) (app (t9) (app (t10) (app (t11) (app (t12) (app (t13) (app (t14) (app (t15) (app (t16) (app (t17) (app (t18) (app (t19) (app (t20) (app (t21) (app (t22) (app (t23) (app (t24) (app (t25) (app (t26) (app (t27) (app (t28) (app (t29) (app (t30) (t31)))))))))))))))))))))))))))))))⟩, #[]⟩), (52, z52 P), (4, z4 P), (2, z2 P), (0, z0 P)]
noncomputable def sp32 : List Sp := [.d md19 true 2663 3955, .d md19 true 2670 3963, .d md19 true 2677 3971, .d md19 true 2684 3979, .d md19 true 2691 3987, .d md19 true 2698 3996, .d md19 true 2705 4004, .d md19 true 2712 4013, .d md19 true 2719 4022, .a, .d md20 true 2726 4036]
noncomputable def hot33 (P : Params) : List (Nat × Obj) := [(70, wkO (app (w1) (app (w2) (app (w3) (app (w4) (app (w5) (app (w6) (app (w12) (app (w13) (app (w14) (app (w15) (app (w16) (app (w17) (w18)))))))))))))), (69, z69 P), (3, ⟨.type "dict", none, .dict ⟨ent P (Str.ofString "__name__") 165 md20 :: app (dB P) (app (d0v0 P) (app (d1v0 P) (app (d2v0 P) (app (d3v0 P) (app (d4v0 P) (app (d5v0 P) (app (d6v0 P) (app (d7v0 P) (app (d8v0 P) (app (d9v0 P) (app (d10v0 P) (app (d11v0 P) (app (d12v0 P) (app (d13v0 P) (app (d14v0 P) (app (d15v0 P) (app (d16v0 P) (app (d17v0 P) (app (d18v0 P) (app (d19v0 P) (app (d20v0 P) (app (d21v26 P) (app (d22v0 P) (app (d23v0 P) (app (d24v0 P) (app (d25v0 P) (app (d26v0 P) (app (d27v0 P) (app (d28v0 P) (app (d29v0 P) (app (d30v0 P) (app (d31v0 P) (d32v0 P)))))))))))))))))))))))))))))))))⟩ 253, #[]⟩), (51, ⟨.none, none, .fields ⟨app (t0) (app (t1) (app (t2) (app (t3) (app (t4) (app (t5) (app (t6) (app (t7) (app (t8) (app (t9) (app (t10) (app (t11) (app (t12) (app (t13) (app (t14) (app (t15) (app (t16) (app (t17) (app (t18) (app (t19) (app (t20) (app (t21) (app (t22) (app (t23) (app (t24) (app (t25) (app (t26) (app (t27) (app (t28) (app (t29) (app (t30) (app (t31) (t32))))))))))))))))))))))))))))))))⟩, #[]⟩), (52, z52 P), (4, z4 P), (2, z2 P), (0, z0 P)]
noncomputable def sp33 : List Sp := [.a, .d md20 true 2733 4044, .d md20 false 2740 4057, .d md20 true 2745 4063, .a, .d md21 true 2752 4080, .d md21 true 2759 4087, .d md21 true 2766 4098, .d md21 true 2773 4108, .d md21 true 2780 4118, .d md21 true 2787 4132]
noncomputable def hot34 (P : Params) : List (Nat × Obj) := [(70, wkO (app (w1) (app (w2) (app (w3) (app (w4) (app (w5) (app (w6) (app (w12) (app (w13) (app (w14) (app (w15) (app (w16) (app (w17) (w18)))))))))))))), (69, z69 P), (3, ⟨.type "dict", none, .dict ⟨ent P (Str.ofString "__name__") 165 md21 :: app (dB P) (app (d0v0 P) (app (d1v0 P) (app (d2v0 P) (app (d3v0 P) (app (d4v0 P) (app (d5v0 P) (app (d6v0 P) (app (d7v0 P) (app (d8v0 P) (app (d9v0 P) (app (d10v0 P) (app (d11v0 P) (app (d12v0 P) (app (d13v0 P) (app (d14v0 P) (app (d15v0 P) (app (d16v0 P) (app (d17v0 P) (app (d18v0 P) (app (d19v0 P) (app (d20v0 P) (app (d21v26 P) (app (d22v0 P) (app (d23v0 P) (app (d24v0 P) (app (d25v0 P) (app (d26v0 P) (app (d27v0 P) (app (d28v0 P) (app (d29v0 P) (app (d30v0 P) (app (d31v0 P) (app (d32v0 P) (d33v0 P))))))))))))))))))))))))))))))))))⟩ 263, #[]⟩), (51, ⟨.none, none, .fields ⟨app (t0) (app (t1) (app (t2) (app (t3) (app (t4) (app (t5) (app (t6) (app (t7) (app (t8) (app (t9) (app (t10) (app (t11) (app (t12) (app (t13) (app (t14) (app (t15) (app (t16) (app (t17) (app (t18) (app (t19) (app (t20) (app (t21) (app (t22) (app (t23) (app (t24) (app (t25) (app (t26) (app (t27) (app (t28) (app (t29) (app (t30) (app (t31) (app (t32) (t33)))))))))))))))))))))))))))))))))⟩, #[]⟩), (52, z52 P), (4, z4 P), (2, z2 P), (0, z0 P)]
noncomputable def sp34 : List Sp := [.d md21 true 2794 4141, .d md21 true 2801 4149, .a, .d md22 true 2808 4166, .d md22 false 2815 4176, .d md22 true 2820 4182, .d md22 false 2827 4190, .d md22 false 2832 4196, .d md22 false 2837 4202, .d md22 false 2842 4208, .d md22 false 2847 4214]
noncomputable def hot35 (P : Params) : List (Nat × Obj) := [(70, wkO (app (w1) (app (w2) (app (w3) (app (w4) (app (w5) (app (w6) (app (w12) (app (w13) (app (w14) (app (w15) (app (w16) (app (w17) (w18)))))))))))))), (69, z69 P), (3, ⟨.type "dict", none, .dict ⟨ent P (Str.ofString "__name__") 165 md22 :: app (dB P) (app (d0v0 P) (app (d1v0 P) (app (d2v0 P) (app (d3v0 P) (app (d4v0 P) (app (d5v0 P) (app (d6v0 P) (app (d7v0 P) (app (d8v0 P) (app (d9v0 P) (app (d10v0 P) (app (d11v0 P) (app (d12v0 P) (app (d13v0 P) (app (d14v0 P) (app (d15v0 P) (app (d16v0 P) (app (d17v0 P) (app (d18v0 P) (app (d19v0 P) (app (d20v0 P) (app (d21v26 P) (app (d22v0 P) (app (d23v0 P) (app (d24v0 P) (app (d25v0 P) (app (d26v0 P) (app (d27v0 P) (app (d28v0 P) (app (d29v0 P) (app (d30v0 P) (app (d31v0 P) (app (d32v0 P) (app (d33v0 P) (d34v0 P)))))))))))))))))))))))))))))))))))⟩ 273, #[]⟩), (51, ⟨.none, none, .fields ⟨app (t0) (app (t1) (app (t2) (app (t3) (app (t4) (app (t5) (app (t6) (app (t7) (app (t8) (app (t9) (app (t10) (app (t11) (app (t12) (app (t13) (app (t14) (app (t15) (app (t16) (app (t17) (app (t18) (app (t19) (app (t20) (app (t21) (app (t22) (app (t23) (app (t24) (app (t25) (app (t26) (app (t27) (app (t28) (app (t29) (app (t30) (app (t31) (app (t32) (app (t33) (t34))))))))))))))))))))))))))))))))))⟩, #[]⟩), (52, z52 P), (4, z4 P), (2, z2 P), (0, z0 P)]
noncomputable def sp35 : List Sp := [.d md22 true 2852 4220, .d md22 true 2859 4232, .d md22 false 2866 4245, .d md22 true 2871 4251, .a, .d md23 false 2878 4263, .d md23 true 2883 4269, .d md23 true 2890 4278, .d md23 true 2897 4287, .d md23 true 2904 4298, .d md23 false 2911 4309]
noncomputable def hot36 (P : Params) : List (Nat × Obj) := [(70, wkO (app (w1) (app (w2) (app (w3) (app (w4) (app (w5) (app (w6) (app (w12) (app (w13) (app (w14) (app (w15) (app (w16) (app (w17) (w18)))))))))))))), (69, z69 P), (3, ⟨.type "dict", none, .dict ⟨ent P (Str.ofString "__name__") 165 md23 :: app (dB P) (app (d0v0 P) (app (d1v0 P) (app (d2v0 P) (app (d3v0 P) (app (d4v0 P) (app (d5v0 P) (app (d6v0 P) (app (d7v0 P) (app (d8v0 P) (app (d9v0 P) (app (d10v0 P) (app (d11v0 P) (app (d12v0 P) (app (d13v0 P) (app (d14v0 P) (app (d15v0 P) (app (d16v0 P) (app (d17v0 P) (app (d18v0 P) (app (d19v0 P) (app (d20v0 P) (app (d21v26 P) (app (d22v0 P) (app (d23v0 P) (app (d24v0 P) (app (d25v0 P) (app (d26v0 P) (app (d27v0 P) (app (d28v0 P) (app (d29v0 P) (app (d30v0 P) (app (d31v0 P) (app (d32v0 P) (app (d33v0 P) (app (d34v0 P) (d35v0 P))))))))))))))))))))))))))))))))))))⟩ 283, #[]⟩), (51, ⟨.none, none, .fields ⟨app (t0) (app (t1) (app (t2) (app (t3) (app (t4) (app (t5) (app (t6) (app (t7) (app (t8) (app (t9) (app (t10) (app (t11) (app (t12) (app (t13) (app (t14) (app (t15) (app (t16) (app (t17) (app (t18) (app (t19) (app (t20) (app (t21) (app (t22) (app (t23) (app (t24) (app (t25) (app (t26) (app (t27) (app (t28) (app (t29) (app (t30) (app (t31) (app (t32) (app (t33) (app (t34) (t35)))))))))))))))))))))))))))))))))))⟩, #[]⟩), (52, z52 P), (4, z4 P), (2, z2 P), (0, z0 P)]
noncomputable def sp36 : List Sp := [.d md23 false 2916 4315, .d md23 false 2921 4321, .d md23 true 2926 4327, .d md23 true 2933 4336, .d md23 true 2940 4345, .d md23 false 2947 4358, .d md23 false 2952 4364, .a, .d md24 false 2957 4372, .a, .d md24 false 2962 4379, .d md24 true 2967 4385]
noncomputable def hot37 (P : Params) : List (Nat × Obj) := [(70, wkO (app (w1) (app (w2) (app (w3) (app (w4) (app (w5) (app (w6) (app (w12) (app (w13) (app (w14) (app (w15) (app (w16) (app (w17) (w18)))))))))))))), (69, z69 P), (3, ⟨.type "dict", none, .dict ⟨ent P (Str.ofString "__name__") 165 md24 :: app (dB P) (app (d0v0 P) (app (d1v0 P) (app (d2v0 P) (app (d3v0 P) (app (d4v0 P) (app (d5v0 P) (app (d6v0 P) (app (d7v0 P) (app (d8v0 P) (app (d9v0 P) (app (d10v0 P) (app (d11v0 P) (app (d12v0 P) (app (d13v0 P) (app (d14v0 P) (app (d15v0 P) (app (d16v0 P) (app (d17v0 P) (app (d18v0 P) (app (d19v0 P) (app (d20v0 P) (app (d21v38 P) (app (d22v0 P) (app (d23v0 P) (app (d24v0 P) (app (d25v0 P) (app (d26v0 P) (app (d27v0 P) (app (d28v0 P) (app (d29v0 P) (app (d30v0 P) (app (d31v0 P) (app (d32v0 P) (app (d33v0 P) (app (d34v0 P) (app (d35v0 P) (d36v0 P)))))))))))))))))))))))))))))))))))))⟩ 293, #[]⟩), (51, ⟨.none, none, .fields ⟨app (t0) (app (t1) (app (t2) (app (t3) (app (t4) (app (t5) (app (t6) (app (t7) (app (t8) (app (t9) (app (t10) (app (t11) (app (t12) (app (t13) (app (t14) (app (t15) (app (t16) (app (t17) (app (t18) (app (t19) (app (t20) (app (t21) (app (t22) (app (t23) (app (t24) (app (t25) (app (t26) (app (t27) (app (t28) (app (t29) (app (t30) (app (t31) (app (t32) (app (t33) (app (t34) (app (t35) (t36))))))))))))))))))))))))))))))))))))⟩, #[]⟩), (52, z52 P), (4, z4 P), (2, z2 P), (0, z0 P)]
noncomputable def sp37 : List Sp := [.d md24 true 2974 4393, .d md24 false 2981 4401, .d md24 true 2986 4407, .d md24 false 2993 4416, .d md24 true 2998 4422, .d md24 true 3005 4432, .d md24 false 3012 4444, .d md24 false 3017 4450, .d md24 false 3022 4456, .d md24 true 3027 4462, .d md24 false 3034 4471]
noncomputable def hot38 (P : Params) : List (Nat × Obj) := [(70, wkO (app (w1) (app (w2) (app (w3) (app (w4) (app (w5) (app (w6) (app (w12) (app (w13) (app (w14) (app (w15) (app (w16) (app (w17) (w18)))))))))))))), (69, z69 P), (3, ⟨.type "dict", none, .dict ⟨ent P (Str.ofString "__name__") 165 md24 :: app (dB P) (app (d0v0 P) (app (d1v0 P) (app (d2v0 P) (app (d3v0 P) (app (d4v0 P) (app (d5v0 P) (app (d6v0 P) (app (d7v0 P) (app (d8v0 P) (app (d9v0 P) (app (d10v0 P) (app (d11v0 P) (app (d12v0 P) (app (d13v0 P) (app (d14v0 P) (app (d15v0 P) (app (d16v0 P) (app (d17v0 P) (app (d18v0 P) (app (d19v0 P) (app (d20v0 P) (app (d21v38 P) (app (d22v0 P) (app (d23v0 P) (app (d24v0 P) (app (d25v0 P) (app (d26v0 P) (app (d27v0 P) (app (d28v0 P) (app (d29v0 P) (app (d30v0 P) (app (d31v0 P) (app (d32v0 P) (app (d33v0 P) (app (d34v0 P) (app (d35v0 P) (app (d36v0 P) (d37v0 P))))))))))))))))))))))))))))))))))))))⟩ 304, #[]⟩), (51, ⟨.none, none, .fields ⟨app (t0) (app (t1) (app (t2) (app (t3) (app (t4) (app (t5) (app (t6) (app (t7) (app (t8) (app (t9) (app (t10) (app (t11) (app (t12) (app (t13) (app (t14) (app (t15) (app (t16) (app (t17) (app (t18) (app (t19) (app (t20) (app (t21) (app (t22) (app (t23) (app (t24) (app (t25) (app (t26) (app (t27) (app (t28) (app (t29) (app (t30) (app (t31) (app (t32) (app (t33) (app (t34) (app (t35) (app (t36) (t37)))))))))))))))))))))))))))))))))))))⟩, #[]⟩), (52, z52 P), (4, z4 P), (2, z2 P), (0, z0 P)]
noncomputable def sp38 : List Sp := [.d md24 true 3039 4477, .d md24 false 3046 4488, .a, .d md25 false 3051 4496, .d md25 false 3056 4502, .d md25 false 3061 4508, .a, .d md25 true 3066 4515, .d md25 true 3073 4523, .a, .d md26 true 3080 4534, .d md26 false 3087 4541, .d md26 false 3092 4547]
noncomputable def hot39 (P : Params) : List (Nat × Obj) := [(70, wkO (app (w1) (app (w2) (app (w3) (app (w4) (app (w5) (app (w6) (app (w12) (app (w13) (app (w14) (app (w15) (app (w16) (app (w17) (w18)))))))))))))), (69, z69 P), (3, ⟨.type "dict", none, .dict ⟨ent P (Str.ofString "__name__") 165 md26 :: app (dB P) (app (d0v0 P) (app (d1v0 P) (app (d2v0 P) (app (d3v0 P) (app (d4v0 P) (app (d5v0 P) (app (d6v0 P) (app (d7v0 P) (app (d8v0 P) (app (d9v0 P) (app (d10v0 P) (app (d11v0 P) (app (d12v0 P) (app (d13v0 P) (app (d14v0 P) (app (d15v0 P) (app (d16v0 P) (app (d17v0 P) (app (d18v0 P) (app (d19v0 P) (app (d20v0 P) (app (d21v38 P) (app (d22v0 P) (app (d23v0 P) (app (d24v0 P) (app (d25v0 P) (app (d26v0 P) (app (d27v0 P) (app (d28v0 P) (app (d29v0 P) (app (d30v0 P) (app (d31v0 P) (app (d32v0 P) (app (d33v0 P) (app (d34v0 P) (app (d35v0 P) (app (d36v0 P) (app (d37v0 P) (d38v0 P)))))))))))))))))))))))))))))))))))))))⟩ 315, #[]⟩), (51, ⟨.none, none, .fields ⟨app (t0) (app (t1) (app (t2) (app (t3) (app (t4) (app (t5) (app (t6) (app (t7) (app (t8) (app (t9) (app (t10) (app (t11) (app (t12) (app (t13) (app (t14) (app (t15) (app (t16) (app (t17) (app (t18) (app (t19) (app (t20) (app (t21) (app (t22) (app (t23) (app (t24) (app (t25) (app (t26) (app (t27) (app (t28) (app (t29) (app (t30) (app (t31) (app (t32) (app (t33) (app (t34) (app (t35) (app (t36) (app (t37) (t38))))))))))))))))))))))))))))))))))))))⟩, #[]⟩), (52, z52 P), (4, z4 P), (2, z2 P), (0, z0 P)]
noncomputable def sp39 : List Sp := [.d md26 true 3097 4553, .d md26 false 3104 4562, .d md26 false 3109 4568, .a, .d md27 false 3114 4576, .d md27 true 3119 4582, .d md27 true 3126 4593, .d md27 false 3133 4604, .d md27 false 3138 4610, .d md27 true 3143 4616, .a, .d md28 true 3150 4632]
noncomputable def hot40 (P : Params) : List (Nat × Obj) := [(70, wkO (app (w1) (app (w2) (app (w3) (app (w4) (app (w5) (app (w6) (app (w12) (app (w13) (app (w14) (app (w15) (app (w16) (app (w17) (w18)))))))))))))), (69, z69 P), (3, ⟨.type "dict", none, .dict ⟨ent P (Str.ofString "__name__") 165 md28 :: app (dB P) (app (d0v0 P) (app (d1v0 P) (app (d2v0 P) (app (d3v0 P) (app (d4v0 P) (app (d5v0 P) (app (d6v0 P) (app (d7v0 P) (app (d8v0 P) (app (d9v0 P) (app (d10v0 P) (app (d11v0 P) (app (d12v0 P) (app (d13v0 P) (app (d14v0 P) (app (d15v0 P) (app (d16v0 P) (app (d17v0 P) (app (d18v0 P) (app (d19v0 P) (app (d20v0 P) (app (d21v38 P) (app (d22v0 P) (app (d23v0 P) (app (d24v0 P) (app (d25v0 P) (app (d26v0 P) (app (d27v0 P) (app (d28v0 P) (app (d29v0 P) (app (d30v0 P) (app (d31v0 P) (app (d32v0 P) (app (d33v0 P) (app (d34v0 P) (app (d35v0 P) (app (d36v0 P) (app (d37v0 P) (app (d38v0 P) (d39v0 P))))))))))))))))))))))))))))))))))))))))⟩ 325, #[]⟩), (51, ⟨.none, none, .fields ⟨app (t0) (app (t1) (app (t2) (app (t3) (app (t4) (app (t5) (app (t6) (app (t7) (app (t8) (app (t9) (app (t10) (app (t11) (app (t12) (app (t13) (app (t14) (app (t15) (app (t16) (app (t17) (app (t18) (app (t19) (app (t20) (app (t21) (app (t22) (app (t23) (app (t24) (app (t25) (app (t26) (app (t27) (app (t28) (app (t29) (app (t30) (app (t31) (app (t32) (app (t33) (app (t34) (app (t35) (app (t36) (app (t37) (app (t38) (t39)))))))))))))))))))))))))))))))))))))))⟩, #[]⟩), (52, z52 P), (4, z4 P), (2, z2 P), (0, z0 P)]
noncomputable def sp40 : List Sp := [.a, .d md29 true 3157 4649, .d md29 true 3164 4661, .d md29 true 3171 4669, .d md29 false 3178 4677, .d md29 true 3183 4683, .d md29 false 3190 4691, .d md29 true 3195 4697, .d md29 true 3202 4707, .a, .d md30 true 3209 4722]
noncomputable def hot41 (P : Params) : List (Nat × Obj) := [(70, wkO (app (w1) (app (w2) (app (w3) (app (w4) (app (w5) (app (w6) (app (w12) (app (w13) (app (w14) (app (w15) (app (w16) (app (w17) (w18)))))))))))))), (69, z69 P), (3, ⟨.type "dict", none, .dict ⟨ent P (Str.ofString "__name__") 165 md30 :: app (dB P) (app (d0v0 P) (app (d1v0 P) (app (d2v0 P) (app (d3v0 P) (app (d4v0 P) (app (d5v0 P) (app (d6v0 P) (app (d7v0 P) (app (d8v0 P) (app (d9v0 P) (app (d10v0 P) (app (d11v0 P) (app (d12v0 P) (app (d13v0 P) (app (d14v0 P) (app (d15v0 P) (app (d16v0 P) (app (d17v0 P) (app (d18v0 P) (app (d19v0 P) (app (d20v0 P) (app (d21v38 P) (app (d22v0 P) (app (d23v0 P) (app (d24v0 P) (app (d25v0 P) (app (d26v0 P) (app (d27v0 P) (app (d28v0 P) (app (d29v0 P) (app (d30v0 P) (app (d31v0 P) (app (d32v0 P) (app (d33v0 P) (app (d34v0 P) (app (d35v0 P) (app (d36v0 P) (app (d37v0 P) (app (d38v0 P) (app (d39v0 P) (d40v0 P)))))))))))))))))))))))))))))))))))))))))⟩ 334, #[]⟩), (51, ⟨.none, none, .fields ⟨app (t0) (app (t1) (app (t2) (app (t3) (app (t4) (app (t5) (app (t6) (app (t7) (app (t8) (app (t9) (app (t10) (app (t11) (app (t12) (app (t13) (app (t14) (app (t15) (app (t16) (app (t17) (app (t18) (app (t19) (app (t20) (app (t21) (app (t22) (app (t23) (app (t24) (app (t25) (app (t26) (app (t27) (app (t28) (app (t29) (app (t30) (app (t31) (app (t32) (app (t33) (app (t34) (app (t35) (app (t36) (app (t37) (app (t38) (app (t39) (t40))))))))))))))))))))))))))))))))))))))))⟩, #[]⟩), (52, z52 P), (4, z4 P), (2, z2 P), (0, z0 P)]
noncomputable def sp41 : List Sp := [.d md30 true 3216 4732, .d md30 false 3223 4745, .d md30 true 3228 4751, .a, .d md31 true 3235 4765, .d md31 false 3242 4773, .d md31 true 3247 4779, .d md31 true 3254 4787, .d md31 true 3261 4795, .d md31 true 3268 4803, .d md31 true 3275 4810]
noncomputable def hot42 (P : Params) : List (Nat × Obj) := [(70, wkO (app (w1) (app (w2) (app (w3) (app (w4) (app (w5) (app (w6) (app (w12) (app (w13) (app (w14) (app (w15) (app (w16) (app (w17) (w18)))))))))))))), (69, z69 P), (3, ⟨.type "dict", none, .dict ⟨ent P (Str.ofString "__name__") 165 md31 :: app (dB P) (app (d0v0 P) (app (d1v0 P) (app (d2v0 P) (app (d3v0 P) (app (d4v0 P) (app (d5v0 P) (app (d6v0 P) (app (d7v0 P) (app (d8v0 P) (app (d9v0 P) (app (d10v0 P) (app (d11v0 P) (app (d12v0 P) (app (d13v0 P) (app (d14v0 P) (app (d15v0 P) (app (d16v0 P) (app (d17v0 P) (app (d18v0 P) (app (d19v0 P) (app (d20v0 P) (app (d21v38 P) (app (d22v0 P) (app (d23v0 P) (app (d24v0 P) (app (d25v0 P) (app (d26v0 P) (app (d27v0 P) (app (d28v0 P) (app (d29v0 P) (app (d30v0 P) (app (d31v0 P) (app (d32v0 P) (app (d33v0 P) (app (d34v0 P) (app (d35v0 P) (app (d36v0 P) (app (d37v0 P) (app (d38v0 P) (app (d39v0 P) (app (d40v0 P) (d41v0 P))))))))))))))))))))))))))))))))))))))))))⟩ 344, #[]⟩), (51, ⟨.none, none, .fields ⟨app (t0) (app (t1) (app (t2) (app (t3) (app (t4) (app (t5) (app (t6) (app (t7) (app (t8) (app (t9) (app (t10) (app (t11) (app (t12) (app (t13) (app (t14) (app (t15) (app (t16) (app (t17) (app (t18) (app (t19) (app (t20) (app (t21) (app (t22) (app (t23) (app (t24) (app (t25) (app (t26) (app (t27) (app (t28) (app (t29) (app (t30) (app (t31) (app (t32) (app (t33) (app (t34) (app (t35) (app (t36) (app (t37) (app (t38) (app (t39) (app (t40) (t41)))))))))))))))))))))))))))))))))))))))))⟩, #[]⟩), (52, z52 P), (4, z4 P), (2, z2 P), (0, z0 P)]
noncomputable def sp42 : List Sp := [.d md31 true 3282 4820, .d md31 false 3289 4833, .d md31 true 3294 4839, .d md31 true 3301 4849, .d md31 true 3308 4863, .d md31 true 3315 4875, .d md31 true 3322 4883, .d md31 true 3329 4898, .d md31 true 3336 4911]
noncomputable def hot43 (P : Params) : List (Nat × Obj) := [(70, wkO (app (w1) (app (w2) (app (w3) (app (w4) (app (w5) (app (w6) (app (w12) (app (w13) (app (w14) (app (w15) (app (w16) (app (w17) (w18)))))))))))))), (69, z69 P), (3, ⟨.type "dict", none, .dict ⟨ent P (Str.ofString "__name__") 165 md31 :: app (dB P) (app (d0v0 P) (app (d1v0 P) (app (d2v0 P) (app (d3v0 P) (app (d4v0 P) (app (d5v0 P) (app (d6v0 P) (app (d7v0 P) (app (d8v0 P) (app (d9v0 P) (app (d10v0 P) (app (d11v0 P) (app (d12v0 P) (app (d13v0 P) (app (d14v0 P) (app (d15v0 P) (app (d16v0 P) (app (d17v0 P) (app (d18v0 P) (app (d19v0 P) (app (d20v0 P) (app (d21v38 P) (app (d22v0 P) (app (d23v0 P) (app (d24v0 P) (app (d25v0 P) (app (d26v0 P) (app (d27v0 P) (app (d28v0 P) (app (d29v0 P) (app (d30v0 P) (app (d31v0 P) (app (d32v0 P) (app (d33v0 P) (app (d34v0 P) (app (d35v0 P) (app (d36v0 P) (app (d37v0 P) (app (d38v0 P) (app (d39v0 P) (app (d40v0 P) (app (d41v0 P) (d42v0 P)))))))))))))))))))))))))))))))))))))))))))⟩ 353, #[]⟩), (51, ⟨.none, none, .fields ⟨app (t0) (app (t1) (app (t2) (app (t3) (app (t4) (app (t5) (app (t6) (app (t7) (app (t8) (app (t9) (app (t10) (app (t11) (app (t12) (app (t13) (app (t14) (app (t15) (app (t16) (app (t17) (app (t18) (app (t19) (app (t20) (app (t21) (app (t22) (app (t23) (app (t24) (app (t25) (app (t26) (app (t27) (app (t28) (app (t29) (app (t30) (app (t31) (app (t32) (app (t33) (app (t34) (app (t35) (app (t36) (app (t37) (app (t38) (app (t39) (app (t40) (app (t41) (t42))))))))))))))))))))))))))))))))))))))))))⟩, #[]⟩), (52, z52 P), (4, z4 P), (2, z2 P), (0, z0 P)]
noncomputable def sp43 : List Sp := [.d md31 false 3343 4929, .a, .d md32 true 3348 4937, .d md32 true 3355 4945, .d md32 true 3362 4957, .d md32 true 3369 4967, .d md32 true 3376 4983, .d md32 false 3383 4995, .d md32 true 3388 5001, .d md32 true 3395 5011]
noncomputable def hot44 (P : Params) : List (Nat × Obj) := [(70, wkO (app (w1) (app (w2) (app (w3) (app (w4) (app (w5) (app (w6) (app (w12) (app (w13) (app (w14) (app (w15) (app (w16) (app (w17) (w18)))))))))))))), (69, z69 P), (3, ⟨.type "dict", none, .dict ⟨ent P (Str.ofString "__name__") 165 md32 :: app (dB P) (app (d0v0 P) (app (d1v0 P) (app (d2v0 P) (app (d3v0 P) (app (d4v0 P) (app (d5v0 P) (app (d6v0 P) (app (d7v0 P) (app (d8v0 P) (app (d9v0 P) (app (d10v0 P) (app (d11v0 P) (app (d12v0 P) (app (d13v0 P) (app (d14v0 P) (app (d15v0 P) (app (d16v0 P) (app (d17v0 P) (app (d18v0 P) (app (d19v0 P) (app (d20v0 P) (app (d21v38 P) (app (d22v0 P) (app (d23v0 P) (app (d24v0 P) (app (d25v0 P) (app (d26v0 P) (app (d27v0 P) (app (d28v0 P) (app (d29v0 P) (app (d30v0 P) (app (d31v0 P) (app (d32v0 P) (app (d33v0 P) (app (d34v0 P) (app (d35v0 P) (app (d36v0 P) (app (d37v0 P) (app (d38v0 P) (app (d39v0 P) (app (d40v0 P) (app (d41v0 P) (app (d42v0 P) (d43v0 P))))))))))))))))))))))))))))))))))))))))))))⟩ 362, #[]⟩), (51, ⟨.none, none, .fields ⟨app (t0) (app (t1) (app (t2) (app (t3) (app (t4) (app (t5) (app (t6) (app (t7) (app (t8) (app (t9) (app (t10) (app (t11) (app (t12) (app (t13) (app (t14) (app (t15) (app (t16) (app (t17) (app (t18) (app (t19) (app (t20) (app (t21) (app (t22) (app (t23) (app (t24) (app (t25) (app (t26) (app (t27) (app (t28) (app (t29) (app (t30) (app (t31) (app (t32) (app (t33) (app (t34) (app (t35) (app (t36) (app (t37) (app (t38) (app (t39) (app (t40) (app (t41) (app (t42) (t43)))))))))))))))))))))))))))))))))))))))))))⟩, #[]⟩), (52, z52 P), (4, z4 P), (2, z2 P), (0, z0 P)]
noncomputable def sp44 : List Sp := [.d md32 true 3402 5021, .a, .d md32 false 3409 5035, .d md32 true 3414 5041, .d md32 true 3421 5052, .d md32 false 3428 5066, .a, .d md33 true 3433 5074, .a, .d md33 true 3440 5082, .d md33 true 3447 5089, .d md33 false 3454 5097]
noncomputable def hot45 (P : Params) : List (Nat × Obj) := [(70, wkO (app (w1) (app (w2) (app (w3) (app (w4) (app (w5) (app (w6) (app (w12) (app (w13) (app (w14) (app (w15) (app (w16) (app (w17) (w18)))))))))))))), (69, z69 P), (3, ⟨.type "dict", none, .dict ⟨ent P (Str.ofString "__name__") 165 md33 :: app (dB P) (app (d0v0 P) (app (d1v0 P) (app (d2v0 P) (app (d3v0 P) (app (d4v0 P) (app (d5v0 P) (app (d6v0 P) (app (d7v0 P) (app (d8v0 P) (app (d9v0 P) (app (d10v0 P) (app (d11v0 P) (app (d12v0 P) (app (d13v0 P) (app (d14v0 P) (app (d15v0 P) (app (d16v0 P) (app (d17v0 P) (app (d18v0 P) (app (d19v0 P) (app (d20v0 P) (app (d21v38 P) (app (d22v0 P) (app (d23v0 P) (app (d24v0 P) (app (d25v0 P) (app (d26v0 P) (app (d27v0 P) (app (d28v0 P) (app (d29v47 P) (app (d30v0 P) (app (d31v0 P) (app (d32v48 P) (app (d33v0 P) (app (d34v0 P) (app (d35v0 P) (app (d36v0 P) (app (d37v0 P) (app (d38v0 P) (app (d39v0 P) (app (d40v0 P) (app (d41v0 P) (app (d42v0 P) (app (d43v0 P) (d44v0 P)))))))))))))))))))))))))))))))))))))))))))))⟩ 371, #[]⟩), (51, ⟨.none, none, .fields ⟨app (t0) (app (t1) (app (t2) (app (t3) (app (t4) (app (t5) (app (t6) (app (t7) (app (t8) (app (t9) (app (t10) (app (t11) (app (t12) (app (t13) (app (t14) (app (t15) (app (t16) (app (t17) (app (t18) (app (t19) (app (t20) (app (t21) (app (t22) (app (t23) (app (t24) (app (t25) (app (t26) (app (t27) (app (t28) (app (t29) (app (t30) (app (t31) (app (t32) (app (t33) (app (t34) (app (t35) (app (t36) (app (t37) (app (t38) (app (t39) (app (t40) (app (t41) (app (t42) (app (t43) (t44))))))))))))))))))))))))))))))))))))))))))))⟩, #[]⟩), (52, z52 P), (4, z4 P), (2, z2 P), (0, z0 P)]
noncomputable def sp45 : List Sp := [.d md33 true 3459 5103, .a, .d md33 false 3466 5112, .a, .d md33 true 3471 5119, .d md33 false 3478 5130, .d md33 true 3483 5136, .d md33 false 3490 5147, .d md33 false 3495 5153, .d md33 true 3500 5159, .d md33 true 3507 5167, .d md33 true 3514 5176]
noncomputable def hot46 (P : Params) : List (Nat × Obj) := [(70, wkO (app (w1) (app (w2) (app (w3) (app (w4) (app (w5) (app (w6) (app (w12) (app (w13) (app (w14) (app (w15) (app (w16) (app (w17) (w18)))))))))))))), (69, z69 P), (3, ⟨.type "dict", none, .dict ⟨ent P (Str.ofString "__name__") 165 md33 :: app (dB P) (app (d0v0 P) (app (d1v0 P) (app (d2v0 P) (app (d3v0 P) (app (d4v0 P) (app (d5v0 P) (app (d6v0 P) (app (d7v0 P) (app (d8v0 P) (app (d9v0 P) (app (d10v0 P) (app (d11v0 P) (app (d12v0 P) (app (d13v0 P) (app (d14v0 P) (app (d15v0 P) (app (d16v0 P) (app (d17v0 P) (app (d18v0 P) (app (d19v0 P) (app (d20v0 P) (app (d21v38 P) (app (d22v0 P) (app (d23v0 P) (app (d24v0 P) (app (d25v0 P) (app (d26v0 P) (app (d27v0 P) (app (d28v50 P) (app (d29v47 P) (app (d30v0 P) (app (d31v0 P) (app (d32v48 P) (app (d33v0 P) (app (d34v0 P) (app (d35v0 P) (app (d36v0 P) (app (d37v0 P) (app (d38v0 P) (app (d39v0 P) (app (d40v0 P) (app (d41v0 P) (app (d42v0 P) (app (d43v0 P) (app (d44v0 P) (d45v0 P))))))))))))))))))))))))))))))))))))))))))))))⟩ 382, #[]⟩), (51, ⟨.none, none, .fields ⟨app (t0) (app (t1) (app (t2) (app (t3) (app (t4) (app (t5) (app (t6) (app (t7) (app (t8) (app (t9) (app (t10) (app (t11) (app (t12) (app (t13) (app (t14) (app (t15) (app (t16) (app (t17) (app (t18) (app (t19) (app (t20) (app (t21) (app (t22) (app (t23) (app (t24) (app (t25) (app (t26) (app (t27) (app (t28) (app (t29) (app (t30) (app (t31) (app (t32) (app (t33) (app (t34) (app (t35) (app (t36) (app (t37) (app (t38) (app (t39) (app (t40) (app (t41) (app (t42) (app (t43) (app (t44) (t45)))))))))))))))))))))))))))))))))))))))))))))⟩, #[]⟩), (52, z52 P), (4, z4 P), (2, z2 P), (0, z0 P)]
noncomputable def sp46 : List Sp := [.d md33 true 3521 5187, .d md33 true 3528 5198, .d md33 false 3535 5209, .d md33 false 3540 5215, .a, .d md34 true 3545 5223, .d md34 true 3552 5233, .d md34 true 3559 5246, .d md34 false 3566 5263, .d md34 true 3571 5269]
noncomputable def hot47 (P : Params) : List (Nat × Obj) := [(70, wkO (app (w1) (app (w2) (app (w3) (app (w4) (app (w5) (app (w6) (app (w12) (app (w13) (app (w14) (app (w15) (app (w16) (app (w17) (w18)))))))))))))), (69, z69 P), (3, ⟨.type "dict", none, .dict ⟨ent P (Str.ofString "__name__") 165 md34 :: app (dB P) (app (d0v0 P) (app (d1v0 P) (app (d2v0 P) (app (d3v0 P) (app (d4v0 P) (app (d5v0 P) (app (d6v0 P) (app (d7v0 P) (app (d8v0 P) (app (d9v0 P) (app (d10v0 P) (app (d11v0 P) (app (d12v0 P) (app (d13v0 P) (app (d14v0 P) (app (d15v0 P) (app (d16v0 P) (app (d17v0 P) (app (d18v0 P) (app (d19v0 P) (app (d20v0 P) (app (d21v38 P) (app (d22v0 P) (app (d23v0 P) (app (d24v0 P) (app (d25v0 P) (app (d26v0 P) (app (d27v0 P) (app (d28v50 P) (app (d29v47 P) (app (d30v0 P) (app (d31v0 P) (app (d32v48 P) (app (d33v0 P) (app (d34v0 P) (app (d35v0 P) (app (d36v0 P) (app (d37v0 P) (app (d38v0 P) (app (d39v0 P) (app (d40v0 P) (app (d41v0 P) (app (d42v0 P) (app (d43v0 P) (app (d44v0 P) (app (d45v0 P) (d46v0 P)))))))))))))))))))))))))))))))))))))))))))))))⟩ 391, #[]⟩), (51, ⟨.none, none, .fields ⟨app (t0) (app (t1) (app (t2) (app (t3) (app (t4) (app (t5) (app (t6) (app (t7) (app (t8) (app (t9) (app (t10) (app (t11) (app (t12) (app (t13) (app (t14) (app (t15) (app (t16) (app (t17) (app (t18) (app (t19) (app (t20) (app (t21) (app (t22) (app (t23) (app (t24) (app (t25) (app (t26) (app (t27) (app (t28) (app (t29) (app (t30) (app (t31) (app (t32) (app (t33) (app (t34) (app (t35) (app (t36) (app (t37) (app (t38) (app (t39) (app (t40) (app (t41) (app (t42) (app (t43) (app (t44) (app (t45) (t46))))))))))))))))))))))))))))))))))))))))))))))⟩, #[]⟩), (52, z52 P), (4, z4 P), (2, z2 P), (0, z0 P)]
noncomputable def sp47 : List Sp := [.d md34 true 3578 5284, .a, .d md35 true 3585 5299, .d md35 false 3592 5307, .d md35 false 3597 5313, .d md35 false 3602 5319, .d md35 true 3607 5325, .a, .d md35 true 3614 5344, .d md35 true 3621 5353, .d md35 true 3628 5362]
noncomputable def hot48 (P : Params) : List (Nat × Obj) := [(70, wkO (app (w1) (app (w2) (app (w3) (app (w4) (app (w5) (app (w6) (app (w12) (app (w13) (app (w14) (app (w15) (app (w16) (app (w17) (w18)))))))))))))), (69, z69 P), (3, ⟨.type "dict", none, .dict ⟨ent P (Str.ofString "__name__") 165 md35 :: app (dB P) (app (d0v0 P) (app (d1v0 P) (app (d2v0 P) (app (d3v0 P) (app (d4v0 P) (app (d5v0 P) (app (d6v0 P) (app (d7v0 P) (app (d8v0 P) (app (d9v0 P) (app (d10v0 P) (app (d11v0 P) (app (d12v0 P) (app (d13v0 P) (app (d14v0 P) (app (d15v0 P) (app (d16v0 P) (app (d17v0 P) (app (d18v0 P) (app (d19v0 P) (app (d20v0 P) (app (d21v38 P) (app (d22v0 P) (app (d23v0 P) (app (d24v0 P) (app (d25v0 P) (app (d26v0 P) (app (d27v0 P) (app (d28v50 P) (app (d29v47 P) (app (d30v0 P) (app (d31v0 P) (app (d32v48 P) (app (d33v0 P) (app (d34v0 P) (app (d35v0 P) (app (d36v0 P) (app (d37v0 P) (app (d38v53 P) (app (d39v0 P) (app (d40v0 P) (app (d41v0 P) (app (d42v0 P) (app (d43v0 P) (app (d44v0 P) (app (d45v0 P) (app (d46v0 P) (d47v0 P))))))))))))))))))))))))))))))))))))))))))))))))⟩ 400, #[]⟩), (51, ⟨.none, none, .fields ⟨app (t0) (app (t1) (app (t2) (app (t3) (app (t4) (app (t5) (app (t6) (app (t7) (app (t8) (app (t9) (app (t10) (app (t11) (app (t12) (app (t13) (app (t14) (app (t15) (app (t16) (app (t17) (app (t18) (app (t19) (app (t20) (app (t21) (app (t22) (app (t23) (app (t24) (app (t25) (app (t26) (app (t27) (app (t28) (app (t29) (app (t30) (app (t31) (app (t32) (app (t33) (app (t34) (app (t35) (app (t36) (app (t37) (app (t38) (app (t39) (app (t40) (app (t41) (app (t42) (app (t43) (app (t44) (app (t45) (app (t46) (t47)))))))))))))))))))))))))))))))))))))))))))))))⟩, #[]⟩), (52, z52 P), (4, z4 P), (2, z2 P), (0, z0 P)]
noncomputable def sp48 : List Sp := [.d md35 true 3635 5371, .d md35 false 3642 5380, .d md35 false 3647 5386, .d md35 true 3652 5392, .d md35 true 3659 5402, .d md35 true 3666 5411, .d md35 true 3673 5421, .d md35 false 3680 5431, .d md35 true 3685 5437, .d md35 true 3692 5450]
noncomputable def hot49 (P : Params) : List (Nat × Obj) := [(70, wkO (app (w1) (app (w2) (app (w3) (app (w4) (app (w5) (app (w6) (app (w12) (app (w13) (app (w14) (app (w15) (app (w16) (app (w17) (w18)))))))))))))), (69, z69 P), (3, ⟨.type "dict", none, .dict ⟨ent P (Str.ofString "__name__") 165 md35 :: app (dB P) (app (d0v0 P) (app (d1v0 P) (app (d2v0 P) (app (d3v0 P) (app (d4v0 P) (app (d5v0 P) (app (d6v0 P) (app (d7v0 P) (app (d8v0 P) (app (d9v0 P) (app (d10v0 P) (app (d11v0 P) (app (d12v0 P) (app (d13v0 P) (app (d14v0 P) (app (d15v0 P) (app (d16v0 P) (app (d17v0 P) (app (d18v0 P) (app (d19v0 P) (app (d20v0 P) (app (d21v38 P) (app (d22v0 P) (app (d23v0 P) (app (d24v0 P) (app (d25v0 P) (app (d26v0 P) (app (d27v0 P) (app (d28v50 P) (app (d29v47 P) (app (d30v0 P) (app (d31v0 P) (app (d32v48 P) (app (d33v0 P) (app (d34v0 P) (app (d35v0 P) (app (d36v0 P) (app (d37v0 P) (app (d38v53 P) (app (d39v0 P) (app (d40v0 P) (app (d41v0 P) (app (d42v0 P) (app (d43v0 P) (app (d44v0 P) (app (d45v0 P) (app (d46v0 P) (app (d47v0 P) (d48v0 P)))))))))))))))))))))))))))))))))))))))))))))))))⟩ 410, #[]⟩), (51, ⟨.none, none, .fields ⟨app (t0) (app (t1) (app (t2) (app (t3) (app (t4) (app (t5) (app (t6) (app (t7) (app (t8) (app (t9) (app (t10) (app (t11) (app (t12) (app (t13) (app (t14) (app (t15) (app (t16) (app (t17) (app (t18) (app (t19) (app (t20) (app (t21) (app (t22) (app (t23) (app (t24) (app (t25) (app (t26) (app (t27) (app (t28) (app (t29) (app (t30) (app (t31) (app (t32) (app (t33) (app (t34) (app (t35) (app (t36) (app (t37) (app (t38) (app (t39) (app (t40) (app (t41) (app (t42) (app (t43) (app (t44) (app (t45) (app (t46) (app (t47) (t48))))))))))))))))))))))))))))))))))))))))))))))))⟩, #[]⟩), (52, z52 P), (4, z4 P), (2, z2 P), (0, z0 P)]
noncomputable def sp49 : List Sp := [.d md35 true 3699 5460, .d md35 false 3706 5474, .d md35 true 3711 5480, .a, .d md36 true 3718 5498, .d md36 false 3725 5507, .d md36 false 3730 5513, .a, .d md36 true 3735 5520, .d md36 false 3742 5529, .a, .d md37 false 3747 5537]
noncomputable def hot50 (P : Params) : List (Nat × Obj) := [(70, wkO (app (w1) (app (w2) (app (w3) (app (w4) (app (w5) (app (w6) (app (w12) (app (w13) (app (w14) (app (w15) (app (w16) (app (w17) (w18)))))))))))))), (69, z69 P), (3, ⟨.type "dict", none, .dict ⟨ent P (Str.ofString "__name__") 165 md37 :: app (dB P) (app (d0v0 P) (app (d1v0 P) (app (d2v0 P) (app (d3v0 P) (app (d4v0 P) (app (d5v0 P) (app (d6v0 P) (app (d7v0 P) (app (d8v0 P) (app (d9v0 P) (app (d10v0 P) (app (d11v0 P) (app (d12v0 P) (app (d13v0 P) (app (d14v0 P) (app (d15v0 P) (app (d16v0 P) (app (d17v0 P) (app (d18v0 P) (app (d19v0 P) (app (d20v0 P) (app (d21v38 P) (app (d22v0 P) (app (d23v0 P) (app (d24v0 P) (app (d25v56 P) (app (d26v0 P) (app (d27v0 P) (app (d28v50 P) (app (d29v47 P) (app (d30v0 P) (app (d31v0 P) (app (d32v48 P) (app (d33v0 P) (app (d34v0 P) (app (d35v0 P) (app (d36v0 P) (app (d37v0 P) (app (d38v53 P) (app (d39v0 P) (app (d40v0 P) (app (d41v0 P) (app (d42v0 P) (app (d43v0 P) (app (d44v0 P) (app (d45v0 P) (app (d46v0 P) (app (d47v0 P) (app (d48v0 P) (d49v0 P))))))))))))))))))))))))))))))))))))))))))))))))))⟩ 419, #[]⟩), (51, ⟨.none, none, .fields ⟨app (t0) (app (t1) (app (t2) (app (t3) (app (t4) (app (t5) (app (t6) (app (t7) (app (t8) (app (t9) (app (t10) (app (t11) (app (t12) (app (t13) (app (t14) (app (t15) (app (t16) (app (t17) (app (t18) (app (t19) (app (t20) (app (t21) (app (t22) (app (t23) (app (t24) (app (t25) (app (t26) (app (t27) (app (t28) (app (t29) (app (t30) (app (t31) (app (t32) (app (t33) (app (t34) (app (t35) (app (t36) (app (t37) (app (t38) (app (t39) (app (t40) (app (t41) (app (t42) (app (t43) (app (t44) (app (t45) (app (t46) (app (t47) (app (t48) (t49)))))))))))))))))))))))))))))))))))))))))))))))))⟩, #[]⟩), (52, z52 P), (4, z4 P), (2, z2 P), (0, z0 P)]
noncomputable def sp50 : List Sp := [.d md37 true 3752 5543, .d md37 false 3759 5553, .d md37 true 3764 5559, .d md37 true 3771 5569, .a, .d md37 false 3778 5586, .a, .d md37 true 3783 5593, .d md37 true 3790 5607, .d md37 true 3797 5620, .d md37 false 3804 5631]
noncomputable def hot51 (P : Params) : List (Nat × Obj) := [(70, wkO (app (w1) (app (w2) (app (w3) (app (w4) (app (w5) (app (w6) (app (w12) (app (w13) (app (w14) (app (w15) (app (w16) (app (w17) (w18)))))))))))))), (69, z69 P), (3, ⟨.type "dict", none, .dict ⟨ent P (Str.ofString "__name__") 165 md37 :: app (dB P) (app (d0v0 P) (app (d1v0 P) (app (d2v0 P) (app (d3v0 P) (app (d4v0 P) (app (d5v0 P) (app (d6v0 P) (app (d7v0 P) (app (d8v0 P) (app (d9v0 P) (app (d10v0 P) (app (d11v0 P) (app (d12v0 P) (app (d13v0 P) (app (d14v0 P) (app (d15v0 P) (app (d16v0 P) (app (d17v0 P) (app (d18v0 P) (app (d19v0 P) (app (d20v0 P) (app (d21v38 P) (app (d22v0 P) (app (d23v0 P) (app (d24v0 P) (app (d25v56 P) (app (d26v0 P) (app (d27v0 P) (app (d28v50 P) (app (d29v47 P) (app (d30v0 P) (app (d31v0 P) (app (d32v48 P) (app (d33v0 P) (app (d34v0 P) (app (d35v0 P) (app (d36v0 P) (app (d37v0 P) (app (d38v53 P) (app (d39v0 P) (app (d40v0 P) (app (d41v0 P) (app (d42v0 P) (app (d43v0 P) (app (d44v0 P) (app (d45v58 P) (app (d46v0 P) (app (d47v0 P) (app (d48v0 P) (app (d49v0 P) (d50v0 P)))))))))))))))))))))))))))))))))))))))))))))))))))⟩ 429, #[]⟩), (51, ⟨.none, none, .fields ⟨app (t0) (app (t1) (app (t2) (app (t3) (app (t4) (app (t5) (app (t6) (app (t7) (app (t8) (app (t9) (app (t10) (app (t11) (app (t12) (app (t13) (app (t14) (app (t15) (app (t16) (app (t17) (app (t18) (app (t19) (app (t20) (app (t21) (app (t22) (app (t23) (app (t24) (app (t25) (app (t26) (app (t27) (app (t28) (app (t29) (app (t30) (app (t31) (app (t32) (app (t33) (app (t34) (app (t35) (app (t36) (app (t37) (app (t38) (app (t39) (app (t40) (app (t41) (app (t42) (app (t43) (app (t44) (app (t45) (app (t46) (app (t47) (app (t48) (app (t49) (t50))))))))))))))))))))))))))))))))))))))))))))))))))⟩, #[]⟩), (52, z52 P), (4, z4 P), (2, z2 P), (0, z0 P)]
noncomputable def sp51 : List Sp := [.d md37 false 3809 5637, .d md37 true 3814 5643, .a, .d md38 false 3821 5654, .a, .d md38 true 3826 5661, .d md38 false 3833 5671, .d md38 true 3838 5677, .d md38 true 3845 5686, .d md38 false 3852 5695, .a, .d md38 false 3857 5702, .a]
noncomputable def hot52 (P : Params) : List (Nat × Obj) := [(70, wkO (app (w1) (app (w2) (app (w3) (app (w4) (app (w5) (app (w6) (app (w12) (app (w13) (app (w14) (app (w15) (app (w16) (app (w17) (w18)))))))))))))), (69, z69 P), (3, ⟨.type "dict", none, .dict ⟨ent P (Str.ofString "__name__") 165 md39 :: app (dB P) (app (d0v0 P) (app (d1v0 P) (app (d2v0 P) (app (d3v0 P) (app (d4v0 P) (app (d5v0 P) (app (d6v0 P) (app (d7v0 P) (app (d8v0 P) (app (d9v0 P) (app (d10v0 P) (app (d11v0 P) (app (d12v0 P) (app (d13v0 P) (app (d14v0 P) (app (d15v0 P) (app (d16v0 P) (app (d17v0 P) (app (d18v0 P) (app (d19v0 P) (app (d20v0 P) (app (d21v60 P) (app (d22v0 P) (app (d23v0 P) (app (d24v0 P) (app (d25v56 P) (app (d26v0 P) (app (d27v0 P) (app (d28v50 P) (app (d29v47 P) (app (d30v0 P) (app (d31v0 P) (app (d32v48 P) (app (d33v0 P) (app (d34v0 P) (app (d35v0 P) (app (d36v0 P) (app (d37v0 P) (app (d38v53 P) (app (d39v0 P) (app (d40v0 P) (app (d41v0 P) (app (d42v0 P) (app (d43v0 P) (app (d44v0 P) (app (d45v58 P) (app (d46v0 P) (app (d47v0 P) (app (d48v0 P) (app (d49v0 P) (app (d50v61 P) (d51v0 P))))))))))))))))))))))))))))))))))))))))))))))))))))⟩ 438, #[]⟩), (51, ⟨.none, none, .fields ⟨app (t0) (app (t1) (app (t2) (app (t3) (app (t4) (app (t5) (app (t6) (app (t7) (app (t8) (app (t9) (app (t10) (app (t11) (app (t12) (app (t13) (app (t14) (app (t15) (app (t16) (app (t17) (app (t18) (app (t19) (app (t20) (app (t21) (app (t22) (app (t23) (app (t24) (app (t25) (app (t26) (app (t27) (app (t28) (app (t29) (app (t30) (app (t31) (app (t32) (app (t33) (app (t34) (app (t35) (app (t36) (app (t37) (app (t38) (app (t39) (app (t40) (app (t41) (app (t42) (app (t43) (app (t44) (app (t45) (app (t46) (app (t47) (app (t48) (app (t49) (app (t50) (t51)))))))))))))))))))))))))))))))))))))))))))))))))))⟩, #[]⟩), (52, z52 P), (4, z4 P), (2, z2 P), (0, z0 P)]
noncomputable def sp52 : List Sp := [.d md39 true 3862 5710, .d md39 true 3869 5721, .d md39 true 3876 5734, .d md39 true 3883 5748, .d md39 true 3890 5757, .d md39 true 3897 5770, .a, .d md40 false 3904 5781, .d md40 false 3909 5787, .d md40 true 3914 5793, .d md40 false 3921 5803]
noncomputable def hot53 (P : Params) : List (Nat × Obj) := [(70, wkO (app (w1) (app (w2) (app (w3) (app (w4) (app (w5) (app (w6) (app (w12) (app (w13) (app (w14) (app (w15) (app (w16) (app (w17) (w18)))))))))))))), (69, z69 P), (3, ⟨.type "dict", none, .dict ⟨ent P (Str.ofString "__name__") 165 md40 :: app (dB P) (app (d0v0 P) (app (d1v0 P) (app (d2v0 P) (app (d3v0 P) (app (d4v0 P) (app (d5v0 P) (app (d6v0 P) (app (d7v0 P) (app (d8v0 P) (app (d9v0 P) (app (d10v0 P) (app (d11v0 P) (app (d12v0 P) (app (d13v0 P) (app (d14v0 P) (app (d15v0 P) (app (d16v0 P) (app (d17v0 P) (app (d18v0 P) (app (d19v0 P) (app (d20v0 P) (app (d21v60 P) (app (d22v0 P) (app (d23v0 P) (app (d24v0 P) (app (d25v56 P) (app (d26v0 P) (app (d27v0 P) (app (d28v50 P) (app (d29v47 P) (app (d30v0 P) (app (d31v0 P) (app (d32v48 P) (app (d33v0 P) (app (d34v0 P) (app (d35v0 P) (app (d36v0 P) (app (d37v0 P) (app (d38v53 P) (app (d39v0 P) (app (d40v0 P) (app (d41v0 P) (app (d42v0 P) (app (d43v0 P) (app (d44v0 P) (app (d45v58 P) (app (d46v0 P) (app (d47v0 P) (app (d48v0 P) (app (d49v0 P) (app (d50v61 P) (app (d51v0 P) (d52v0 P)))))))))))))))))))))))))))))))))))))))))))))))))))))⟩ 448, #[]⟩), (51, ⟨.none, none, .fields ⟨app (t0) (app (t1) (app (t2) (app (t3) (app (t4) (app (t5) (app (t6) (app (t7) (app (t8) (app (t9) (app (t10) (app (t11) (app (t12) (app (t13) (app (t14) (app (t15) (app (t16) (app (t17) (app (t18) (app (t19) (app (t20) (app (t21) (app (t22) (app (t23) (app (t24) (app (t25) (app (t26) (app (t27) (app (t28) (app (t29) (app (t30) (app (t31) (app (t32) (app (t33) (app (t34) (app (t35) (app (t36) (app (t37) (app (t38) (app (t39) (app (t40) (app (t41) (app (t42) (app (t43) (app (t44) (app (t45) (app (t46) (app (t47) (app (t48) (app (t49) (app (t50) (app (t51) (t52))))))))))))))))))))))))))))))))))))))))))))))))))))⟩, #[]⟩), (52, z52 P), (4, z4 P), (2, z2 P), (0, z0 P)]
noncomputable def sp53 : List Sp := [.d md40 true 3926 5809, .d md40 true 3933 5818, .d md40 true 3940 5827, .d md40 true 3947 5836, .d md40 false 3954 5848, .a, .d md41 false 3959 5856, .d md41 true 3964 5862, .d md41 true 3971 5872, .d md41 false 3978 5884, .d md41 true 3983 5890]
noncomputable def hot54 (P : Params) : List (Nat × Obj) := [(70, wkO (app (w1) (app (w2) (app (w3) (app (w4) (app (w5) (app (w6) (app (w12) (app (w13) (app (w14) (app (w15) (app (w16) (app (w17) (w18)))))))))))))), (69, z69 P), (3, ⟨.type "dict", none, .dict ⟨ent P (Str.ofString "__name__") 165 md41 :: app (dB P) (app (d0v0 P) (app (d1v0 P) (app (d2v0 P) (app (d3v0 P) (app (d4v0 P) (app (d5v0 P) (app (d6v0 P) (app (d7v0 P) (app (d8v0 P) (app (d9v0 P) (app (d10v0 P) (app (d11v0 P) (app (d12v0 P) (app (d13v0 P) (app (d14v0 P) (app (d15v0 P) (app (d16v0 P) (app (d17v0 P) (app (d18v0 P) (app (d19v0 P) (app (d20v0 P) (app (d21v60 P) (app (d22v0 P) (app (d23v0 P) (app (d24v0 P) (app (d25v56 P) (app (d26v0 P) (app (d27v0 P) (app (d28v50 P) (app (d29v47 P) (app (d30v0 P) (app (d31v0 P) (app (d32v48 P) (app (d33v0 P) (app (d34v0 P) (app (d35v0 P) (app (d36v0 P) (app (d37v0 P) (app (d38v53 P) (app (d39v0 P) (app (d40v0 P) (app (d41v0 P) (app (d42v0 P) (app (d43v0 P) (app (d44v0 P) (app (d45v58 P) (app (d46v0 P) (app (d47v0 P) (app (d48v0 P) (app (d49v0 P) (app (d50v61 P) (app (d51v0 P) (app (d52v0 P) (d53v0 P))))))))))))))))))))))))))))))))))))))))))))))))))))))⟩ 458, #[]⟩), (51, ⟨.none, none, .fields ⟨app (t0) (app (t1) (app (t2) (app (t3) (app (t4) (app (t5) (app (t6) (app (t7) (app (t8) (app (t9) (app (t10) (app (t11) (app (t12) (app (t13) (app (t14) (app (t15) (app (t16) (app (t17) (app (t18) (app (t19) (app (t20) (app (t21) (app (t22) (app (t23) (app (t24) (app (t25) (app (t26) (app (t27) (app (t28) (app (t29) (app (t30) (app (t31) (app (t32) (app (t33) (app (t34) (app (t35) (app (t36) (app (t37) (app (t38) (app (t39) (app (t40) (app (t41) (app (t42) (app (t43) (app (t44) (app (t45) (app (t46) (app (t47) (app (t48) (app (t49) (app (t50) (app (t51) (app (t52) (t53)))))))))))))))))))))))))))))))))))))))))))))))))))))⟩, #[]⟩), (52, z52 P), (4, z4 P), (2, z2 P), (0, z0 P)]
noncomputable def sp54 : List Sp := [.d md41 false 3990 5901, .d md41 true 3995 5907, .d md41 true 4002 5920, .d md41 false 4009 5935, .d md41 true 4014 5941, .d md41 true 4021 5952, .d md41 false 4028 5963, .d md41 false 4033 5969, .a, .d md42 true 4038 5977, .d md42 true 4045 5988]
noncomputable def hot55 (P : Params) : List (Nat × Obj) := [(70, wkO (app (w1) (app (w2) (app (w3) (app (w4) (app (w5) (app (w6) (app (w12) (app (w13) (app (w14) (app (w15) (app (w16) (app (w17) (w18)))))))))))))), (69, z69 P), (3, ⟨.type "dict", none, .dict ⟨ent P (Str.ofString "__name__") 165 md42 :: app (dB P) (app (d0v0 P) (app (d1v0 P) (app (d2v0 P) (app (d3v0 P) (app (d4v0 P) (app (d5v0 P) (app (d6v0 P) (app (d7v0 P) (app (d8v0 P) (app (d9v0 P) (app (d10v0 P) (app (d11v0 P) (app (d12v0 P) (app (d13v0 P) (app (d14v0 P) (app (d15v0 P) (app (d16v0 P) (app (d17v0 P) (app (d18v0 P) (app (d19v0 P) (app (d20v0 P) (app (d21v60 P) (app (d22v0 P) (app (d23v0 P) (app (d24v0 P) (app (d25v56 P) (app (d26v0 P) (app (d27v0 P) (app (d28v50 P) (app (d29v47 P) (app (d30v0 P) (app (d31v0 P) (app (d32v48 P) (app (d33v0 P) (app (d34v0 P) (app (d35v0 P) (app (d36v0 P) (app (d37v0 P) (app (d38v53 P) (app (d39v0 P) (app (d40v0 P) (app (d41v0 P) (app (d42v0 P) (app (d43v0 P) (app (d44v0 P) (app (d45v58 P) (app (d46v0 P) (app (d47v0 P) (app (d48v0 P) (app (d49v0 P) (app (d50v61 P) (app (d51v0 P) (app (d52v0 P) (app (d53v0 P) (d54v0 P)))))))))))))))))))))))))))))))))))))))))))))))))))))))⟩ 468, #[]⟩), (51, ⟨.none, none, .fields ⟨app (t0) (app (t1) (app (t2) (app (t3) (app (t4) (app (t5) (app (t6) (app (t7) (app (t8) (app (t9) (app (t10) (app (t11) (app (t12) (app (t13) (app (t14) (app (t15) (app (t16) (app (t17) (app (t18) (app (t19) (app (t20) (app (t21) (app (t22) (app (t23) (app (t24) (app (t25) (app (t26) (app (t27) (app (t28) (app (t29) (app (t30) (app (t31) (app (t32) (app (t33) (app (t34) (app (t35) (app (t36) (app (t37) (app (t38) (app (t39) (app (t40) (app (t41) (app (t42) (app (t43) (app (t44) (app (t45) (app (t46) (app (t47) (app (t48) (app (t49) (app (t50) (app (t51) (app (t52) (app (t53) (t54))))))))))))))))))))))))))))))))))))))))))))))))))))))⟩, #[]⟩), (52, z52 P), (4, z4 P), (2, z2 P), (0, z0 P)]
noncomputable def sp55 : List Sp := [.d md42 false 4052 5999, .d md42 false 4057 6005, .d md42 false 4062 6011, .d md42 true 4067 6017, .a, .d md43 false 4074 6033, .d md43 false 4079 6039, .d md43 false 4084 6045, .d md43 false 4089 6051, .d md43 false 4094 6057, .d md43 false 4099 6063, .d md43 false 4104 6069]
noncomputable def hot56 (P : Params) : List (Nat × Obj) := [(70, wkO (app (w1) (app (w2) (app (w3) (app (w4) (app (w5) (app (w6) (app (w12) (app (w13) (app (w14) (app (w15) (app (w16) (app (w17) (w18)))))))))))))), (69, z69 P), (3, ⟨.type "dict", none, .dict ⟨ent P (Str.ofString "__name__") 165 md43 :: app (dB P) (app (d0v0 P) (app (d1v0 P) (app (d2v0 P) (app (d3v0 P) (app (d4v0 P) (app (d5v0 P) (app (d6v0 P) (app (d7v0 P) (app (d8v0 P) (app (d9v0 P) (app (d10v0 P) (app (d11v0 P) (app (d12v0 P) (app (d13v0 P) (app (d14v0 P) (app (d15v0 P) (app (d16v0 P) (app (d17v0 P) (app (d18v0 P) (app (d19v0 P) (app (d20v0 P) (app (d21v60 P) (app (d22v0 P) (app (d23v0 P) (app (d24v0 P) (app (d25v56 P) (app (d26v0 P) (app (d27v0 P) (app (d28v50 P) (app (d29v47 P) (app (d30v0 P) (app (d31v0 P) (app (d32v48 P) (app (d33v0 P) (app (d34v0 P) (app (d35v0 P) (app (d36v0 P) (app (d37v0 P) (app (d38v53 P) (app (d39v0 P) (app (d40v0 P) (app (d41v0 P) (app (d42v0 P) (app (d43v0 P) (app (d44v0 P) (app (d45v58 P) (app (d46v0 P) (app (d47v0 P) (app (d48v0 P) (app (d49v0 P) (app (d50v61 P) (app (d51v0 P) (app (d52v0 P) (app (d53v0 P) (app (d54v0 P) (d55v0 P))))))))))))))))))))))))))))))))))))))))))))))))))))))))⟩ 479, #[]⟩), (51, ⟨.none, none, .fields ⟨app (t0) (app (t1) (app (t2) (app (t3) (app (t4) (app (t5) (app (t6) (app (t7) (app (t8) (app (t9) (app (t10) (app (t11) (app (t12) (app (t13) (app (t14) (app (t15) (app (t16) (app (t17) (app (t18) (app (t19) (app (t20) (app (t21) (app (t22) (app (t23) (app (t24) (app (t25) (app (t26) (app (t27) (app (t28) (app (t29) (app (t30) (app (t31) (app (t32) (app (t33) (app (t34) (app (t35) (app (t36) (app (t37) (app (t38) (app (t39) (app (t40) (app (t41) (app (t42) (app (t43) (app (t44) (app (t45) (app (t46) (app (t47) (app (t48) (app (t49) (app (t50) (app (t51) (app (t52) (app (t53) (app (t54) (t55)))))))))))))))))))))))))))))))))))))))))))))))))))))))⟩, #[]⟩), (52, z52 P), (4, z4 P), (2, z2 P), (0, z0 P)]
noncomputable def sp56 : List Sp := [.d md43 false 4109 6075, .a, .d md44 false 4114 6083, .d md44 false 4119 6089, .d md44 false 4124 6095, .d md44 false 4129 6101, .d md44 false 4134 6107, .d md44 false 4139 6113, .d md44 true 4144 6119, .d md44 true 4151 6133, .d md44 true 4158 6145, .d md44 false 4165 6155]
noncomputable def hot57 (P : Params) : List (Nat × Obj) := [(70, wkO (app (w1) (app (w2) (app (w3) (app (w4) (app (w5) (app (w6) (app (w12) (app (w13) (app (w14) (app (w15) (app (w16) (app (w17) (w18)))))))))))))), (69, z69 P), (3, ⟨.type "dict", none, .dict ⟨ent P (Str.ofString "__name__") 165 md44 :: app (dB P) (app (d0v0 P) (app (d1v0 P) (app (d2v0 P) (app (d3v0 P) (app (d4v0 P) (app (d5v0 P) (app (d6v0 P) (app (d7v0 P) (app (d8v0 P) (app (d9v0 P) (app (d10v0 P) (app (d11v0 P) (app (d12v0 P) (app (d13v0 P) (app (d14v0 P) (app (d15v0 P) (app (d16v0 P) (app (d17v0 P) (app (d18v0 P) (app (d19v0 P) (app (d20v0 P) (app (d21v60 P) (app (d22v0 P) (app (d23v0 P) (app (d24v0 P) (app (d25v56 P) (app (d26v0 P) (app (d27v0 P) (app (d28v50 P) (app (d29v47 P) (app (d30v0 P) (app (d31v0 P) (app (d32v48 P) (app (d33v0 P) (app (d34v0 P) (app (d35v0 P) (app (d36v0 P) (app (d37v0 P) (app (d38v53 P) (app (d39v0 P) (app (d40v0 P) (app (d41v0 P) (app (d42v0 P) (app (d43v0 P) (app (d44v0 P) (app (d45v58 P) (app (d46v0 P) (app (d47v0 P) (app (d48v0 P) (app (d49v0 P) (app (d50v61 P) (app (d51v0 P) (app (d52v0 P) (app (d53v0 P) (app (d54v0 P) (app (d55v0 P) (d56v0 P)))))))))))))))))))))))))))))))))))))))))))))))))))))))))⟩ 490, #[]⟩), (51, ⟨.none, none, .fields ⟨app (t0) (app (t1) (app (t2) (app (t3) (app (t4) (app (t5) (app (t6) (app (t7) (app (t8) (app (t9) (app (t10) (app (t11) (app (t12) (app (t13) (app (t14) (app (t15) (app (t16) (app (t17) (app (t18) (app (t19) (app (t20) (app (t21) (app (t22) (app (t23) (app (t24) (app (t25) (app (t26) (app (t27) (app (t28) (app (t29) (app (t30) (app (t31) (app (t32) (app (t33) (app (t34) (app (t35) (app (t36) (app (t37) (app (t38) (app (t39) (app (t40) (app (t41) (app (t42) (app (t43) (app (t44) (app (t45) (app (t46) (app (t47) (app (t48) (app (t49) (app (t50) (app (t51) (app (t52) (app (t53) (app (t54) (app (t55) (t56))))))))))))))))))))))))))))))))))))))))))))))))))))))))⟩, #[]⟩), (52, z52 P), (4, z4 P), (2, z2 P), (0, z0 P)]
noncomputable def sp57 : List Sp := [.a, .d md45 false 4170 6163, .d md45 true 4175 6169, .d md45 false 4182 6183, .d md45 true 4187 6189, .d md45 false 4194 6205, .d md45 false 4199 6211, .d md45 true 4204 6217, .d md45 false 4211 6231, .d md45 false 4216 6237, .d md45 true 4221 6243]
noncomputable def hot58 (P : Params) : List (Nat × Obj) := [(70, wkO (app (w1) (app (w2) (app (w3) (app (w4) (app (w5) (app (w6) (app (w12) (app (w13) (app (w14) (app (w15) (app (w16) (app (w17) (w18)))))))))))))), (69, z69 P), (3, ⟨.type "dict", none, .dict ⟨ent P (Str.ofString "__name__") 165 md45 :: app (dB P) (app (d0v0 P) (app (d1v0 P) (app (d2v0 P) (app (d3v0 P) (app (d4v0 P) (app (d5v0 P) (app (d6v0 P) (app (d7v0 P) (app (d8v0 P) (app (d9v0 P) (app (d10v0 P) (app (d11v0 P) (app (d12v0 P) (app (d13v0 P) (app (d14v0 P) (app (d15v0 P) (app (d16v0 P) (app (d17v0 P) (app (d18v0 P) (app (d19v0 P) (app (d20v0 P) (app (d21v60 P) (app (d22v0 P) (app (d23v0 P) (app (d24v0 P) (app (d25v56 P) (app (d26v0 P) (app (d27v0 P) (app (d28v50 P) (app (d29v47 P) (app (d30v0 P) (app (d31v0 P) (app (d32v48 P) (app (d33v0 P) (app (d34v0 P) (app (d35v0 P) (app (d36v0 P) (app (d37v0 P) (app (d38v53 P) (app (d39v0 P) (app (d40v0 P) (app (d41v0 P) (app (d42v0 P) (app (d43v0 P) (app (d44v0 P) (app (d45v58 P) (app (d46v0 P) (app (d47v0 P) (app (d48v0 P) (app (d49v0 P) (app (d50v61 P) (app (d51v0 P) (app (d52v0 P) (app (d53v0 P) (app (d54v0 P) (app (d55v0 P) (app (d56v0 P) (d57v0 P))))))))))))))))))))))))))))))))))))))))))))))))))))))))))⟩ 500, #[]⟩), (51, ⟨.none, none, .fields ⟨app (t0) (app (t1) (app (t2) (app (t3) (app (t4) (app (t5) (app (t6) (app (t7) (app (t8) (app (t9) (app (t10) (app (t11) (app (t12) (app (t13) (app (t14) (app (t15) (app (t16) (app (t17) (app (t18) (app (t19) (app (t20) (app (t21) (app (t22) (app (t23) (app (t24) (app (t25) (app (t26) (app (t27) (app (t28) (app (t29) (app (t30) (app (t31) (app (t32) (app (t33) (app (t34) (app (t35) (app (t36) (app (t37) (app (t38) (app (t39) (app (t40) (app (t41) (app (t42) (app (t43) (app (t44) (app (t45) (app (t46) (app (t47) (app (t48) (app (t49) (app (t50) (app (t51) (app (t52) (app (t53) (app (t54) (app (t55) (app (t56) (t57)))))))))))))))))))))))))))))))))))))))))))))))))))))))))⟩, #[]⟩), (52, z52 P), (4, z4 P), (2, z2 P), (0, z0 P)]
noncomputable def sp58 : List Sp := [.d md45 true 4228 6258, .d md45 true 4235 6273, .d md45 true 4242 6283, .a, .d md46 false 4249 6295, .d md46 false 4254 6301, .d md46 true 4259 6307, .d md46 true 4266 6326, .d md46 true 4273 6338, .d md46 true 4280 6350]
noncomputable def hot59 (P : Params) : List (Nat × Obj) := [(70, wkO (app (w1) (app (w2) (app (w3) (app (w4) (app (w5) (app (w6) (app (w12) (app (w13) (app (w14) (app (w15) (app (w16) (app (w17) (w18)))))))))))))), (69, z69 P), (3, ⟨.type "dict", none, .dict ⟨ent P (Str.ofString "__name__") 165 md46 :: app (dB P) (app (d0v0 P) (app (d1v0 P) (app (d2v0 P) (app (d3v0 P) (app (d4v0 P) (app (d5v0 P) (app (d6v0 P) (app (d7v0 P) (app (d8v0 P) (app (d9v0 P) (app (d10v0 P) (app (d11v0 P) (app (d12v0 P) (app (d13v0 P) (app (d14v0 P) (app (d15v0 P) (app (d16v0 P) (app (d17v0 P) (app (d18v0 P) (app (d19v0 P) (app (d20v0 P) (app (d21v60 P) (app (d22v0 P) (app (d23v0 P) (app (d24v0 P) (app (d25v56 P) (app (d26v0 P) (app (d27v0 P) (app (d28v50 P) (app (d29v47 P) (app (d30v0 P) (app (d31v0 P) (app (d32v48 P) (app (d33v0 P) (app (d34v0 P) (app (d35v0 P) (app (d36v0 P) (app (d37v0 P) (app (d38v53 P) (app (d39v0 P) (app (d40v0 P) (app (d41v0 P) (app (d42v0 P) (app (d43v0 P) (app (d44v0 P) (app (d45v58 P) (app (d46v0 P) (app (d47v0 P) (app (d48v0 P) (app (d49v0 P) (app (d50v61 P) (app (d51v0 P) (app (d52v0 P) (app (d53v0 P) (app (d54v0 P) (app (d55v0 P) (app (d56v0 P) (app (d57v0 P) (d58v0 P)))))))))))))))))))))))))))))))))))))))))))))))))))))))))))⟩ 509, #[]⟩), (51, ⟨.none, none, .fields ⟨app (t0) (app (t1) (app (t2) (app (t3) (app (t4) (app (t5) (app (t6) (app (t7) (app (t8) (app (t9) (app (t10) (app (t11) (app (t12) (app (t13) (app (t14) (app (t15) (app (t16) (app (t17) (app (t18) (app (t19) (app (t20) (app (t21) (app (t22) (app (t23) (app (t24) (app (t25) (app (t26) (app (t27) (app (t28) (app (t29) (app (t30) (app (t31) (app (t32) (app (t33) (app (t34) (app (t35) (app (t36) (app (t37) (app (t38) (app (t39) (app (t40) (app (t41) (app (t42) (app (t43) (app (t44) (app (t45) (app (t46) (app (t47) (app (t48) (app (t49) (app (t50) (app (t51) (app (t52) (app (t53) (app (t54) (app (t55) (app (t56) (app (t57) (t58))))))))))))))))))))))))))))))))))))))))))))))))))))))))))⟩, #[]⟩), (52, z52 P), (4, z4 P), (2, z2 P), (0, z0 P)]
noncomputable def sp59 : List Sp := [.d md46 false 4287 6359, .d md46 true 4292 6365, .d md46 true 4299 6379, .a, .d md47 false 4306 6393, .d md47 false 4311 6399, .d md47 false 4316 6405, .d md47 false 4321 6411, .d md47 true 4326 6417, .d md47 false 4333 6427, .d md47 true 4338 6433, .a]
noncomputable def hot60 (P : Params) : List (Nat × Obj) := [(70, wkO (app (w1) (app (w2) (app (w3) (app (w4) (app (w5) (app (w6) (app (w12) (app (w13) (app (w14) (app (w15) (app (w16) (app (w17) (w18)))))))))))))), (69, z69 P), (3, ⟨.type "dict", none, .dict ⟨ent P (Str.ofString "__name__") 165 md48 :: app (dB P) (app (d0v0 P) (app (d1v0 P) (app (d2v0 P) (app (d3v0 P) (app (d4v0 P) (app (d5v0 P) (app (d6v0 P) (app (d7v0 P) (app (d8v0 P) (app (d9v0 P) (app (d10v0 P) (app (d11v0 P) (app (d12v0 P) (app (d13v0 P) (app (d14v0 P) (app (d15v0 P) (app (d16v0 P) (app (d17v0 P) (app (d18v0 P) (app (d19v0 P) (app (d20v0 P) (app (d21v60 P) (app (d22v0 P) (app (d23v0 P) (app (d24v0 P) (app (d25v56 P) (app (d26v0 P) (app (d27v0 P) (app (d28v50 P) (app (d29v47 P) (app (d30v0 P) (app (d31v0 P) (app (d32v48 P) (app (d33v0 P) (app (d34v0 P) (app (d35v0 P) (app (d36v0 P) (app (d37v0 P) (app (d38v53 P) (app (d39v0 P) (app (d40v0 P) (app (d41v0 P) (app (d42v0 P) (app (d43v0 P) (app (d44v0 P) (app (d45v58 P) (app (d46v0 P) (app (d47v0 P) (app (d48v0 P) (app (d49v0 P) (app (d50v61 P) (app (d51v0 P) (app (d52v0 P) (app (d53v0 P) (app (d54v0 P) (app (d55v0 P) (app (d56v0 P) (app (d57v0 P) (app (d58v0 P) (d59v0 P))))))))))))))))))))))))))))))))))))))))))))))))))))))))))))⟩ 519, #[]⟩), (51, ⟨.none, none, .fields ⟨app (t0) (app (t1) (app (t2) (app (t3) (app (t4) (app (t5) (app (t6) (app (t7) (app (t8) (app (t9) (app (t10) (app (t11) (app (t12) (app (t13) (app (t14) (app (t15) (app (t16) (app (t17) (app (t18) (app (t19) (app (t20) (app (t21) (app (t22) (app (t23) (app (t24) (app (t25) (app (t26) (app (t27) (app (t28) (app (t29) (app (t30) (app (t31) (app (t32) (app (t33) (app (t34) (app (t35) (app (t36) (app (t37) (app (t38) (app (t39) (app (t40) (app (t41) (app (t42) (app (t43) (app (t44) (app (t45) (app (t46) (app (t47) (app (t48) (app (t49) (app (t50) (app (t51) (app (t52) (app (t53) (app (t54) (app (t55) (app (t56) (app (t57) (app (t58) (t59)))))))))))))))))))))))))))))))))))))))))))))))))))))))))))⟩, #[]⟩), (52, z52 P), (4, z4 P), (2, z2 P), (0, z0 P)]
noncomputable def sp60 : List Sp := [.d md48 false 4345 6447, .d md48 true 4350 6453, .d md48 true 4357 6466, .d md48 false 4364 6484, .d md48 true 4369 6490, .d md48 true 4376 6499, .d md48 true 4383 6507, .d md48 false 4390 6517, .a, .d md49 true 4395 6525, .d md49 true 4402 6532]
noncomputable def hot61 (P : Params) : List (Nat × Obj) := [(70, wkO (app (w1) (app (w2) (app (w3) (app (w4) (app (w5) (app (w6) (app (w12) (app (w13) (app (w14) (app (w15) (app (w16) (app (w17) (w18)))))))))))))), (69, z69 P), (3, ⟨.type "dict", none, .dict ⟨ent P (Str.ofString "__name__") 165 md49 :: app (dB P) (app (d0v0 P) (app (d1v0 P) (app (d2v0 P) (app (d3v0 P) (app (d4v0 P) (app (d5v0 P) (app (d6v0 P) (app (d7v0 P) (app (d8v0 P) (app (d9v0 P) (app (d10v0 P) (app (d11v0 P) (app (d12v0 P) (app (d13v0 P) (app (d14v0 P) (app (d15v0 P) (app (d16v0 P) (app (d17v0 P) (app (d18v0 P) (app (d19v0 P) (app (d20v0 P) (app (d21v60 P) (app (d22v0 P) (app (d23v0 P) (app (d24v0 P) (app (d25v56 P) (app (d26v0 P) (app (d27v0 P) (app (d28v50 P) (app (d29v47 P) (app (d30v0 P) (app (d31v0 P) (app (d32v48 P) (app (d33v0 P) (app (d34v0 P) (app (d35v0 P) (app (d36v0 P) (app (d37v0 P) (app (d38v53 P) (app (d39v0 P) (app (d40v0 P) (app (d41v0 P) (app (d42v0 P) (app (d43v0 P) (app (d44v0 P) (app (d45v58 P) (app (d46v0 P) (app (d47v0 P) (app (d48v0 P) (app (d49v0 P) (app (d50v61 P) (app (d51v0 P) (app (d52v0 P) (app (d53v0 P) (app (d54v0 P) (app (d55v0 P) (app (d56v0 P) (app (d57v0 P) (app (d58v0 P) (app (d59v0 P) (d60v0 P)))))))))))))))))))))))))))))))))))))))))))))))))))))))))))))⟩ 529, #[]⟩), (51, ⟨.none, none, .fields ⟨app (t0) (app (t1) (app (t2) (app (t3) (app (t4) (app (t5) (app (t6) (app (t7) (app (t8) (app (t9) (app (t10) (app (t11) (app (t12) (app (t13) (app (t14) (app (t15) (app (t16) (app (t17) (app (t18) (app (t19) (app (t20) (app (t21) (app (t22) (app (t23) (app (t24) (app (t25) (app (t26) (app (t27) (app (t28) (app (t29) (app (t30) (app (t31) (app (t32) (app (t33) (app (t34) (app (t35) (app (t36) (app (t37) (app (t38) (app (t39) (app (t40) (app (t41) (app (t42) (app (t43) (app (t44) (app (t45) (app (t46) (app (t47) (app (t48) (app (t49) (app (t50) (app (t51) (app (t52) (app (t53) (app (t54) (app (t55) (app (t56) (app (t57) (app (t58) (app (t59) (t60))))))))))))))))))))))))))))))))))))))))))))))))))))))))))))⟩, #[]⟩), (52, z52 P), (4, z4 P), (2, z2 P), (0, z0 P)]
noncomputable def sp61 : List Sp := [.d md49 true 4409 6543, .d md49 true 4416 6551, .d md49 true 4423 6559, .d md49 true 4430 6567, .d md49 true 4437 6575, .d md49 false 4444 6583, .d md49 true 4449 6589, .d md49 true 4456 6597, .d md49 true 4463 6605, .d md49 true 4470 6614]
noncomputable def hot62 (P : Params) : List (Nat × Obj) := [(70, wkO (app (w1) (app (w2) (app (w3) (app (w4) (app (w5) (app (w6) (app (w12) (app (w13) (app (w14) (app (w15) (app (w16) (app (w17) (w18)))))))))))))), (69, z69 P), (3, ⟨.type "dict", none, .dict ⟨ent P (Str.ofString "__name__") 165 md49 :: app (dB P) (app (d0v0 P) (app (d1v0 P) (app (d2v0 P) (app (d3v0 P) (app (d4v0 P) (app (d5v0 P) (app (d6v0 P) (app (d7v0 P) (app (d8v0 P) (app (d9v0 P) (app (d10v0 P) (app (d11v0 P) (app (d12v0 P) (app (d13v0 P) (app (d14v0 P) (app (d15v0 P) (app (d16v0 P) (app (d17v0 P) (app (d18v0 P) (app (d19v0 P) (app (d20v0 P) (app (d21v60 P) (app (d22v0 P) (app (d23v0 P) (app (d24v0 P) (app (d25v56 P) (app (d26v0 P) (app (d27v0 P) (app (d28v50 P) (app (d29v47 P) (app (d30v0 P) (app (d31v0 P) (app (d32v48 P) (app (d33v0 P) (app (d34v0 P) (app (d35v0 P) (app (d36v0 P) (app (d37v0 P) (app (d38v53 P) (app (d39v0 P) (app (d40v0 P) (app (d41v0 P) (app (d42v0 P) (app (d43v0 P) (app (d44v0 P) (app (d45v58 P) (app (d46v0 P) (app (d47v0 P) (app (d48v0 P) (app (d49v0 P) (app (d50v61 P) (app (d51v0 P) (app (d52v0 P) (app (d53v0 P) (app (d54v0 P) (app (d55v0 P) (app (d56v0 P) (app (d57v0 P) (app (d58v0 P) (app (d59v0 P) (app (d60v0 P) (d61v0 P))))))))))))))))))))))))))))))))))))))))))))))))))))))))))))))⟩ 539, #[]⟩), (51, ⟨.none, none, .fields ⟨app (t0) (app (t1) (app (t2) (app (t3) (app (t4) (app (t5) (app (t6) (app (t7) (app (t8) (app (t9) (app (t10) (app (t11) (app (t12) (app (t13) (app (t14) (app (t15) (app (t16) (app (t17) (app (t18) (app (t19) (app (t20) (app (t21) (app (t22) (app (t23) (app (t24) (app (t25) (app (t26) (app (t27) (app (t28) (app (t29) (app (t30) (app (t31) (app (t32) (app (t33) (app (t34) (app (t35) (app (t36) (app (t37) (app (t38) (app (t39) (app (t40) (app (t41) (app (t42) (app (t43) (app (t44) (app (t45) (app (t46) (app (t47) (app (t48) (app (t49) (app (t50) (app (t51) (app (t52) (app (t53) (app (t54) (app (t55) (app (t56) (app (t57) (app (t58) (app (t59) (app (t60) (t61)))))))))))))))))))))))))))))))))))))))))))))))))))))))))))))⟩, #[]⟩), (52, z52 P), (4, z4 P), (2, z2 P), (0, z0 P)]
noncomputable def sp62 : List Sp := [.d md49 true 4477 6623, .d md49 true 4484 6632, .d md49 false 4491 6641, .d md49 true 4496 6647]
noncomputable def hot0b (P : Params) : List (Nat × Obj) := [(3, ⟨.type "dict", none, .dict ⟨ent P (Str.ofString "__name__") 165 md1 :: app (dB P) (d0v0 P)⟩ 15, #[]⟩), (51, ⟨.none, none, .fields ⟨t0⟩, #[]⟩), (52, z52 P), (4, z4 P), (2, z2 P), (0, z0 P)]
noncomputable def hot63 (P : Params) : List (Nat × Obj) := [(70, wkO (app (w1) (app (w2) (app (w3) (app (w4) (app (w5) (app (w6) (app (w12) (app (w13) (app (w14) (app (w15) (app (w16) (app (w17) (w18)))))))))))))), (69, z69 P), (3, ⟨.type "dict", none, .dict ⟨ent P (Str.ofString "__name__") 165 md49 :: app (dB P) (app (d0v0 P) (app (d1v0 P) (app (d2v0 P) (app (d3v0 P) (app (d4v0 P) (app (d5v0 P) (app (d6v0 P) (app (d7v0 P) (app (d8v0 P) (app (d9v0 P) (app (d10v0 P) (app (d11v0 P) (app (d12v0 P) (app (d13v0 P) (app (d14v0 P) (app (d15v0 P) (app (d16v0 P) (app (d17v0 P) (app (d18v0 P) (app (d19v0 P) (app (d20v0 P) (app (d21v60 P) (app (d22v0 P) (app (d23v0 P) (app (d24v0 P) (app (d25v56 P) (app (d26v0 P) (app (d27v0 P) (app (d28v50 P) (app (d29v47 P) (app (d30v0 P) (app (d31v0 P) (app (d32v48 P) (app (d33v0 P) (app (d34v0 P) (app (d35v0 P) (app (d36v0 P) (app (d37v0 P) (app (d38v53 P) (app (d39v0 P) (app (d40v0 P) (app (d41v0 P) (app (d42v0 P) (app (d43v0 P) (app (d44v0 P) (app (d45v58 P) (app (d46v0 P) (app (d47v0 P) (app (d48v0 P) (app (d49v0 P) (app (d50v61 P) (app (d51v0 P) (app (d52v0 P) (app (d53v0 P) (app (d54v0 P) (app (d55v0 P) (app (d56v0 P) (app (d57v0 P) (app (d58v0 P) (app (d59v0 P) (app (d60v0 P) (app (d61v0 P) (d62v0 P)))))))))))))))))))))))))))))))))))))))))))))))))))))))))))))))⟩ 543, #[]⟩), (51, ⟨.none, none, .fields ⟨app (t0) (app (t1) (app (t2) (app (t3) (app (t4) (app (t5) (app (t6) (app (t7) (app (t8) (app (t9) (app (t10) (app (t11) (app (t12) (app (t13) (app (t14) (app (t15) (app (t16) (app (t17) (app (t18) (app (t19) (app (t20) (app (t21) (app (t22) (app (t23) (app (t24) (app (t25) (app (t26) (app (t27) (app (t28) (app (t29) (app (t30) (app (t31) (app (t32) (app (t33) (app (t34) (app (t35) (app (t36) (app (t37) (app (t38) (app (t39) (app (t40) (app (t41) (app (t42) (app (t43) (app (t44) (app (t45) (app (t46) (app (t47) (app (t48) (app (t49) (app (t50) (app (t51) (app (t52) (app (t53) (app (t54) (app (t55) (app (t56) (app (t57) (app (t58) (app (t59) (app (t60) (app (t61) (t62))))))))))))))))))))))))))))))))))))))))))))))))))))))))))))))⟩, #[]⟩), (52, z52 P), (4, z4 P), (2, z2 P), (0, z0 P)]
noncomputable def OR (p : Program) (w : World) : Option Shared := some ⟨⟨⟨ys w.params⟩, life0⟩, #[], drawn0, 457, (start (opening p)).1.os⟩
theorem mentionR : (fun (_ : Program → World → Option Shared) => true) OR = true := by k_qdec
noncomputable def FV (p : Program) (w : World) (os : OsState) : Option (Heap × Array GenState × Drawn × Nat) := (fenceModules? p ⟨⟨⟨ys w.params⟩, life0⟩, #[], drawn0, 457, os⟩).map fun s => (s.heap, s.gens, s.drawn, s.toks)
noncomputable def FR (p : Program) (w : World) (os : OsState) : Option (Heap × Array GenState × Drawn × Nat) := some (⟨⟨zs w.params⟩, life0⟩, #[], drawn0, 457)
theorem mentionF : (fun (_ _ : Program → World → OsState → Option (Heap × Array GenState × Drawn × Nat)) => true) FV FR = true := by k_qdec
noncomputable def L0 (P : Params) : List Obj := app (zs P) [z50 P, z51 P, z52 P, z53 P]
noncomputable def KV (p : Program) (w : World) (os : OsState) : Option (Shared × Thread) := topGo treeTable p w 50 (some (.ref 6)) 12 ⟨⟨⟨zs w.params⟩, life0⟩, #[], drawn0, 457, os⟩ (topStub p)
noncomputable def KR (p : Program) (w : World) (os : OsState) : Option (Shared × Thread) := some (⟨heapOf (hot0 w.params) (L0 w.params) life0, #[], drawn0, 463, os⟩, ⟨denote treeTable (cdM p), cdM p, ps0, [topFrame ps0]⟩)
theorem mentionK : (fun (_ _ : Program → World → OsState → Option (Shared × Thread)) => true) KV KR = true := by k_qdec
noncomputable def LT63 (p : Program) (P : Params) : List Obj := []
noncomputable def LT62 (p : Program) (P : Params) : List Obj := app (objsO P sp62 (stsO p 586 4)) (LT63 p P)
noncomputable def LT61 (p : Program) (P : Params) : List Obj := app (objsO P sp61 (stsO p 576 10)) (LT62 p P)
noncomputable def LT60 (p : Program) (P : Params) : List Obj := app (objsO P sp60 (stsO p 565 11)) (LT61 p P)
noncomputable def LT59 (p : Program) (P : Params) : List Obj := app (objsO P sp59 (stsO p 553 12)) (LT60 p P)
noncomputable def LT58 (p : Program) (P : Params) : List Obj := app (objsO P sp58 (stsO p 543 10)) (LT59 p P)
noncomputable def LT57 (p : Program) (P : Params) : List Obj := app (objsO P sp57 (stsO p 532 11)) (LT58 p P)
noncomputable def LT56 (p : Program) (P : Params) : List Obj := app (objsO P sp56 (stsO p 520 12)) (LT57 p P)
noncomputable def LT55 (p : Program) (P : Params) : List Obj := app (objsO P sp55 (stsO p 508 12)) (LT56 p P)
noncomputable def LT54 (p : Program) (P : Params) : List Obj := app (objsO P sp54 (stsO p 497 11)) (LT55 p P)
noncomputable def LT53 (p : Program) (P : Params) : List Obj := app (objsO P sp53 (stsO p 486 11)) (LT54 p P)
noncomputable def LT52 (p : Program) (P : Params) : List Obj := app (objsO P sp52 (stsO p 475 11)) (LT53 p P)
noncomputable def LT51 (p : Program) (P : Params) : List Obj := app (objsO P sp51 (stsO p 462 13)) (LT52 p P)
noncomputable def LT50 (p : Program) (P : Params) : List Obj := app (objsO P sp50 (stsO p 451 11)) (LT51 p P)
noncomputable def LT49 (p : Program) (P : Params) : List Obj := app (objsO P sp49 (stsO p 439 12)) (LT50 p P)
noncomputable def LT48 (p : Program) (P : Params) : List Obj := app (objsO P sp48 (stsO p 429 10)) (LT49 p P)
noncomputable def LT47 (p : Program) (P : Params) : List Obj := app (objsO P sp47 (stsO p 418 11)) (LT48 p P)
noncomputable def LT46 (p : Program) (P : Params) : List Obj := app (objsO P sp46 (stsO p 408 10)) (LT47 p P)
noncomputable def LT45 (p : Program) (P : Params) : List Obj := app (objsO P sp45 (stsO p 396 12)) (LT46 p P)
noncomputable def LT44 (p : Program) (P : Params) : List Obj := app (objsO P sp44 (stsO p 384 12)) (LT45 p P)
noncomputable def LT43 (p : Program) (P : Params) : List Obj := app (objsO P sp43 (stsO p 374 10)) (LT44 p P)
noncomputable def LT42 (p : Program) (P : Params) : List Obj := app (objsO P sp42 (stsO p 365 9)) (LT43 p P)
noncomputable def LT41 (p : Program) (P : Params) : List Obj := app (objsO P sp41 (stsO p 354 11)) (LT42 p P)
noncomputable def LT40 (p : Program) (P : Params) : List Obj := app (objsO P sp40 (stsO p 343 11)) (LT41 p P)
noncomputable def LT39 (p : Program) (P : Params) : List Obj := app (objsO P sp39 (stsO p 331 12)) (LT40 p P)
noncomputable def LT38 (p : Program) (P : Params) : List Obj := app (objsO P sp38 (stsO p 318 13)) (LT39 p P)
noncomputable def LT37 (p : Program) (P : Params) : List Obj := app (objsO P sp37 (stsO p 307 11)) (LT38 p P)
noncomputable def LT36 (p : Program) (P : Params) : List Obj := app (objsO P sp36 (stsO p 295 12)) (LT37 p P)
noncomputable def LT35 (p : Program) (P : Params) : List Obj := app (objsO P sp35 (stsO p 284 11)) (LT36 p P)
noncomputable def LT34 (p : Program) (P : Params) : List Obj := app (objsO P sp34 (stsO p 273 11)) (LT35 p P)
noncomputable def LT33 (p : Program) (P : Params) : List Obj := app (objsO P sp33 (stsO p 262 11)) (LT34 p P)
noncomputable def LT32 (p : Program) (P : Params) : List Obj := app (objsO P sp32 (stsO p 251 11)) (LT33 p P)
noncomputable def LT31 (p : Program) (P : Params) : List Obj := app (objsO P sp31 (stsO p 241 10)) (LT32 p P)
noncomputable def LT30 (p : Program) (P : Params) : List Obj := app (objsO P sp30 (stsO p 231 10)) (LT31 p P)
noncomputable def LT29 (p : Program) (P : Params) : List Obj := app (objsO P sp29 (stsO p 220 11)) (LT30 p P)
noncomputable def LT28 (p : Program) (P : Params) : List Obj := app (objsO P sp28 (stsO p 208 12)) (LT29 p P)
noncomputable def LT27 (p : Program) (P : Params) : List Obj := app (objsO P sp27 (stsO p 197 11)) (LT28 p P)
noncomputable def LT26 (p : Program) (P : Params) : List Obj := app (objsO P sp26 (stsO p 185 12)) (LT27 p P)
noncomputable def LT25 (p : Program) (P : Params) : List Obj := app (objsO P sp25 (stsO p 172 13)) (LT26 p P)
noncomputable def LT24 (p : Program) (P : Params) : List Obj := app (objsO P sp24 (stsO p 160 12)) (LT25 p P)
noncomputable def LT23 (p : Program) (P : Params) : List Obj := app (objsO P sp23 (stsO p 159 1)) (LT24 p P)
noncomputable def LT22 (p : Program) (P : Params) : List Obj := app (objsO P sp22 (stsO p 150 9)) (LT23 p P)
noncomputable def LT21 (p : Program) (P : Params) : List Obj := app (objsO P sp21 (stsO p 137 13)) (LT22 p P)
noncomputable def LT20 (p : Program) (P : Params) : List Obj := app (objsO P sp20 (stsO p 126 11)) (LT21 p P)
noncomputable def LT19 (p : Program) (P : Params) : List Obj := app (objsO P sp19 (stsO p 115 11)) (LT20 p P)
noncomputable def LT18 (p : Program) (P : Params) : List Obj := app (objsO P sp18 (stsO p 111 4)) (LT19 p P)
noncomputable def LT17 (p : Program) (P : Params) : List Obj := app (objsO P sp17 (stsO p 105 6)) (LT18 p P)
noncomputable def LT16 (p : Program) (P : Params) : List Obj := app (objsO P sp16 (stsO p 99 6)) (LT17 p P)
noncomputable def LT15 (p : Program) (P : Params) : List Obj := app (objsO P sp15 (stsO p 93 6)) (LT16 p P)
noncomputable def LT14 (p : Program) (P : Params) : List Obj := app (objsO P sp14 (stsO p 87 6)) (LT15 p P)
noncomputable def LT13 (p : Program) (P : Params) : List Obj := app (objsO P sp13 (stsO p 81 6)) (LT14 p P)
noncomputable def LT12 (p : Program) (P : Params) : List Obj := app (objsO P sp12 (stsO p 75 6)) (LT13 p P)
noncomputable def LT11 (p : Program) (P : Params) : List Obj := app (objsO P sp11 (stsO p 70 5)) (LT12 p P)
noncomputable def LT10 (p : Program) (P : Params) : List Obj := app (objsO P sp10 (stsO p 59 11)) (LT11 p P)
noncomputable def LT9 (p : Program) (P : Params) : List Obj := app (objsO P sp9 (stsO p 48 11)) (LT10 p P)
noncomputable def LT8 (p : Program) (P : Params) : List Obj := app (objsO P sp8 (stsO p 47 1)) (LT9 p P)
noncomputable def LT7 (p : Program) (P : Params) : List Obj := app (objsO P sp7 (stsO p 34 13)) (LT8 p P)
noncomputable def LT6 (p : Program) (P : Params) : List Obj := app (objsO P sp6 (stsO p 33 1)) (LT7 p P)
noncomputable def LT5 (p : Program) (P : Params) : List Obj := app (objsO P sp5 (stsO p 27 6)) (LT6 p P)
noncomputable def LT4 (p : Program) (P : Params) : List Obj := app (objsO P sp4 (stsO p 21 6)) (LT5 p P)
noncomputable def LT3 (p : Program) (P : Params) : List Obj := app (objsO P sp3 (stsO p 15 6)) (LT4 p P)
noncomputable def LT2 (p : Program) (P : Params) : List Obj := app (objsO P sp2 (stsO p 9 6)) (LT3 p P)
noncomputable def LT1 (p : Program) (P : Params) : List Obj := app (objsO P sp1 (stsO p 3 6)) (LT2 p P)
noncomputable def LX (p : Program) (P : Params) : List Obj := app (ov (hot63 P) (app (L0 P) (objsO P sp0 (stsO p 0 3))) 0) (LT1 p P)
theorem mentionL : (fun (_ : Program → Params → List Obj) => true) LX = true := by k_qdec
theorem mention : (fun (_ : Program) (_ : List (Params → List (Nat × Obj))) (_ : List (List Sp)) => true) PySem.Challenge.pw_ringwalkers_k00_errors_made [hot0, hot1, hot2, hot3, hot4, hot5, hot6, hot7, hot8, hot9, hot10, hot11, hot12, hot13, hot14, hot15, hot16, hot17, hot18, hot19, hot20, hot21, hot22, hot23, hot24, hot25, hot26, hot27, hot28, hot29, hot30, hot31, hot32, hot33, hot34, hot35, hot36, hot37, hot38, hot39, hot40, hot41, hot42, hot43, hot44, hot45, hot46, hot47, hot48, hot49, hot50, hot51, hot52, hot53, hot54, hot55, hot56, hot57, hot58, hot59, hot60, hot61, hot62, hot0b, hot63] [sp0, sp1, sp2, sp3, sp4, sp5, sp6, sp7, sp8, sp9, sp10, sp11, sp12, sp13, sp14, sp15, sp16, sp17, sp18, sp19, sp20, sp21, sp22, sp23, sp24, sp25, sp26, sp27, sp28, sp29, sp30, sp31, sp32, sp33, sp34, sp35, sp36, sp37, sp38, sp39, sp40, sp41, sp42, sp43, sp44, sp45, sp46, sp47, sp48, sp49, sp50, sp51, sp52, sp53, sp54, sp55, sp56, sp57, sp58, sp59, sp60, sp61, sp62] = true := by k_qdec
end RWk
end
section
namespace RWk
open PySem PySem.W
theorem pc0 (w : World) : (fun os => PySem.W.Fast.tw12318476347054185907 PySem.W.Fast.tw5842520607744118111 w os 0 3 225 54 463 (PySem.W.Fast.tw1581470010189877316 w.params) ⟨0, 0, 0, 0⟩) = fun os => PySem.W.Fast.tw12462966934249337159 PySem.W.Fast.tw5842520607744118111 w os 0 3 PySem.W.Fast.tw13395173202328607666 54 74 490 (PySem.W.Fast.tw10984897103533379712 w.params) ⟨7, 0, 8, 8⟩ := by kernel_rfl
theorem pc8 (w : World) : (fun os => PySem.W.Fast.tw12318476347054185907 PySem.W.Fast.tw5842520607744118111 w os 47 1 322 782 1400 (PySem.W.Fast.tw65875038430390420 w.params) ⟨192, 0, 192, 8⟩) = fun os => PySem.W.Fast.tw12462966934249337159 PySem.W.Fast.tw5842520607744118111 w os 47 1 PySem.W.Fast.tw3112286118501483944 782 822 1453 (PySem.W.Fast.tw15596832209290277042 w.params) ⟨193, 0, 215, 68⟩ := by kernel_rfl
theorem pc16 (w : World) : (fun os => PySem.W.Fast.tw12318476347054185907 PySem.W.Fast.tw5842520607744118111 w os 99 6 1567 1479 2317 (PySem.W.Fast.tw6341867688744616266 w.params) ⟨450, 0, 454, 26⟩) = fun os => PySem.W.Fast.tw12462966934249337159 PySem.W.Fast.tw5842520607744118111 w os 99 6 PySem.W.Fast.tw3255748137583407523 1479 1605 2479 (PySem.W.Fast.tw1748279365196422573 w.params) ⟨480, 0, 484, 22⟩ := by kernel_rfl
theorem pc24 (w : World) : (fun os => PySem.W.Fast.tw12318476347054185907 PySem.W.Fast.tw5842520607744118111 w os 160 12 302 2198 3267 (PySem.W.Fast.tw2341257373348788765 w.params) ⟨735, 0, 825, 96⟩) = fun os => PySem.W.Fast.tw12462966934249337159 PySem.W.Fast.tw5842520607744118111 w os 160 12 PySem.W.Fast.tw1817303033830226485 2198 2257 3353 (PySem.W.Fast.tw6855184859666016495 w.params) ⟨868, 0, 872, 22⟩ := by kernel_rfl
theorem pc32 (w : World) : (fun os => PySem.W.Fast.tw12318476347054185907 PySem.W.Fast.tw5842520607744118111 w os 251 11 316 2663 3955 (PySem.W.Fast.tw12285071364828471680 w.params) ⟨1277, 0, 1278, 69⟩) = fun os => PySem.W.Fast.tw12462966934249337159 PySem.W.Fast.tw5842520607744118111 w os 251 11 PySem.W.Fast.tw13197516903715152720 2663 2733 4043 (PySem.W.Fast.tw9743374424433660313 w.params) ⟨1319, 0, 1322, 31⟩ := by kernel_rfl
theorem pc40 (w : World) : (fun os => PySem.W.Fast.tw12318476347054185907 PySem.W.Fast.tw5842520607744118111 w os 343 11 294 3157 4647 (PySem.W.Fast.tw2928191078726268398 w.params) ⟨1722, 0, 1732, 44⟩) = fun os => PySem.W.Fast.tw12462966934249337159 PySem.W.Fast.tw5842520607744118111 w os 343 11 PySem.W.Fast.tw11304152899054228907 3157 3216 4732 (PySem.W.Fast.tw7863938988104178271 w.params) ⟨1784, 0, 1788, 36⟩ := by kernel_rfl
theorem pc48 (w : World) : (fun os => PySem.W.Fast.tw12318476347054185907 PySem.W.Fast.tw5842520607744118111 w os 429 10 304 3635 5371 (PySem.W.Fast.tw17666649903710164633 w.params) ⟨2181, 0, 2183, 48⟩) = fun os => PySem.W.Fast.tw12462966934249337159 PySem.W.Fast.tw5842520607744118111 w os 429 10 PySem.W.Fast.tw16738301569647867002 3635 3699 5460 (PySem.W.Fast.tw3028503575504738583 w.params) ⟨2229, 0, 2231, 87⟩ := by kernel_rfl
theorem pc56 (w : World) : (fun os => PySem.W.Fast.tw12318476347054185907 PySem.W.Fast.tw5842520607744118111 w os 520 12 320 4109 6075 (PySem.W.Fast.tw1357988695206575754 w.params) ⟨2589, 0, 2592, 85⟩) = fun os => PySem.W.Fast.tw12462966934249337159 PySem.W.Fast.tw5842520607744118111 w os 520 12 PySem.W.Fast.tw2916508132460897238 4109 4170 6161 (PySem.W.Fast.tw15309101993843405113 w.params) ⟨2654, 0, 2665, 75⟩ := by kernel_rfl
end RWk
end
section
namespace RWk
open PySem PySem.W
theorem pc1 (w : World) : (fun os => PySem.W.Fast.tw12318476347054185907 PySem.W.Fast.tw5842520607744118111 w os 3 6 1569 74 490 (PySem.W.Fast.tw4856869814644502777 w.params) ⟨7, 0, 8, 8⟩) = fun os => PySem.W.Fast.tw12462966934249337159 PySem.W.Fast.tw5842520607744118111 w os 3 6 PySem.W.Fast.tw15821540051359268783 74 200 654 (PySem.W.Fast.tw4006410079236502279 w.params) ⟨35, 0, 39, 26⟩ := by kernel_rfl
theorem pc9 (w : World) : (fun os => PySem.W.Fast.tw12318476347054185907 PySem.W.Fast.tw5842520607744118111 w os 48 11 317 822 1453 (PySem.W.Fast.tw15596832209290277042 w.params) ⟨193, 0, 215, 68⟩) = fun os => PySem.W.Fast.tw12462966934249337159 PySem.W.Fast.tw5842520607744118111 w os 48 11 PySem.W.Fast.tw18010374267202418425 822 889 1537 (PySem.W.Fast.tw17375271650354098287 w.params) ⟨251, 0, 254, 16⟩ := by kernel_rfl
theorem pc17 (w : World) : (fun os => PySem.W.Fast.tw12318476347054185907 PySem.W.Fast.tw5842520607744118111 w os 105 6 1569 1605 2479 (PySem.W.Fast.tw1748279365196422573 w.params) ⟨480, 0, 484, 22⟩) = fun os => PySem.W.Fast.tw12462966934249337159 PySem.W.Fast.tw5842520607744118111 w os 105 6 PySem.W.Fast.tw8262242747881867853 1605 1731 2643 (PySem.W.Fast.tw5962002192309883336 w.params) ⟨511, 0, 515, 32⟩ := by kernel_rfl
theorem pc25 (w : World) : (fun os => PySem.W.Fast.tw12318476347054185907 PySem.W.Fast.tw5842520607744118111 w os 172 13 316 2257 3353 (PySem.W.Fast.tw6855184859666016495 w.params) ⟨868, 0, 872, 22⟩) = fun os => PySem.W.Fast.tw12462966934249337159 PySem.W.Fast.tw5842520607744118111 w os 172 13 PySem.W.Fast.tw9350711981069799072 2257 2313 3437 (PySem.W.Fast.tw12325780006809922917 w.params) ⟨940, 0, 943, 38⟩ := by kernel_rfl
theorem pc33 (w : World) : (fun os => PySem.W.Fast.tw12318476347054185907 PySem.W.Fast.tw5842520607744118111 w os 262 11 311 2733 4043 (PySem.W.Fast.tw9743374424433660313 w.params) ⟨1319, 0, 1322, 31⟩) = fun os => PySem.W.Fast.tw12462966934249337159 PySem.W.Fast.tw5842520607744118111 w os 262 11 PySem.W.Fast.tw11108594088368300297 2733 2794 4141 (PySem.W.Fast.tw7515848115923847795 w.params) ⟨1388, 0, 1393, 81⟩ := by kernel_rfl
theorem pc41 (w : World) : (fun os => PySem.W.Fast.tw12318476347054185907 PySem.W.Fast.tw5842520607744118111 w os 354 11 312 3216 4732 (PySem.W.Fast.tw7863938988104178271 w.params) ⟨1784, 0, 1788, 36⟩) = fun os => PySem.W.Fast.tw12462966934249337159 PySem.W.Fast.tw5842520607744118111 w os 354 11 PySem.W.Fast.tw1404767023716090507 3216 3282 4820 (PySem.W.Fast.tw12130600226097515541 w.params) ⟨1841, 0, 1842, 54⟩ := by kernel_rfl
theorem pc49 (w : World) : (fun os => PySem.W.Fast.tw12318476347054185907 PySem.W.Fast.tw5842520607744118111 w os 439 12 295 3699 5460 (PySem.W.Fast.tw3028503575504738583 w.params) ⟨2229, 0, 2231, 87⟩) = fun os => PySem.W.Fast.tw12462966934249337159 PySem.W.Fast.tw5842520607744118111 w os 439 12 PySem.W.Fast.tw5550801983124933056 3699 3752 5543 (PySem.W.Fast.tw15134231596998359935 w.params) ⟨2294, 0, 2295, 97⟩ := by kernel_rfl
theorem pc57 (w : World) : (fun os => PySem.W.Fast.tw12318476347054185907 PySem.W.Fast.tw5842520607744118111 w os 532 11 313 4170 6161 (PySem.W.Fast.tw15309101993843405113 w.params) ⟨2654, 0, 2665, 75⟩) = fun os => PySem.W.Fast.tw12462966934249337159 PySem.W.Fast.tw5842520607744118111 w os 532 11 PySem.W.Fast.tw14439293454195182324 4170 4228 6258 (PySem.W.Fast.tw14724862886890094241 w.params) ⟨2747, 0, 2754, 103⟩ := by kernel_rfl
end RWk
end
section
namespace RWk
open PySem PySem.W
theorem pc2 (w : World) : (fun os => PySem.W.Fast.tw12318476347054185907 PySem.W.Fast.tw5842520607744118111 w os 9 6 1567 200 654 (PySem.W.Fast.tw4006410079236502279 w.params) ⟨35, 0, 39, 26⟩) = fun os => PySem.W.Fast.tw12462966934249337159 PySem.W.Fast.tw5842520607744118111 w os 9 6 PySem.W.Fast.tw1727862920371323782 200 326 816 (PySem.W.Fast.tw10987386818769013788 w.params) ⟨65, 0, 69, 30⟩ := by kernel_rfl
theorem pc10 (w : World) : (fun os => PySem.W.Fast.tw12318476347054185907 PySem.W.Fast.tw5842520607744118111 w os 59 11 311 889 1537 (PySem.W.Fast.tw17375271650354098287 w.params) ⟨251, 0, 254, 16⟩) = fun os => PySem.W.Fast.tw12462966934249337159 PySem.W.Fast.tw5842520607744118111 w os 59 11 PySem.W.Fast.tw655306874718866387 889 949 1630 (PySem.W.Fast.tw13738307791543504329 w.params) ⟨306, 0, 312, 53⟩ := by kernel_rfl
theorem pc18 (w : World) : (fun os => PySem.W.Fast.tw12318476347054185907 PySem.W.Fast.tw5842520607744118111 w os 111 4 1045 1731 2643 (PySem.W.Fast.tw5962002192309883336 w.params) ⟨511, 0, 515, 32⟩) = fun os => PySem.W.Fast.tw12462966934249337159 PySem.W.Fast.tw5842520607744118111 w os 111 4 PySem.W.Fast.tw7814647317319148225 1731 1815 2751 (PySem.W.Fast.tw14339040948568530509 w.params) ⟨531, 0, 535, 24⟩ := by kernel_rfl
theorem pc26 (w : World) : (fun os => PySem.W.Fast.tw12318476347054185907 PySem.W.Fast.tw5842520607744118111 w os 185 12 312 2313 3437 (PySem.W.Fast.tw12325780006809922917 w.params) ⟨940, 0, 943, 38⟩) = fun os => PySem.W.Fast.tw12462966934249337159 PySem.W.Fast.tw5842520607744118111 w os 185 12 PySem.W.Fast.tw2267881009348054634 2313 2373 3524 (PySem.W.Fast.tw14590273582339926883 w.params) ⟨998, 0, 1004, 93⟩ := by kernel_rfl
theorem pc34 (w : World) : (fun os => PySem.W.Fast.tw12318476347054185907 PySem.W.Fast.tw5842520607744118111 w os 273 11 295 2794 4141 (PySem.W.Fast.tw7515848115923847795 w.params) ⟨1388, 0, 1393, 81⟩) = fun os => PySem.W.Fast.tw12462966934249337159 PySem.W.Fast.tw5842520607744118111 w os 273 11 PySem.W.Fast.tw9941097148617876471 2794 2852 4220 (PySem.W.Fast.tw12767150881651930729 w.params) ⟨1437, 0, 1441, 98⟩ := by kernel_rfl
theorem pc42 (w : World) : (fun os => PySem.W.Fast.tw12318476347054185907 PySem.W.Fast.tw5842520607744118111 w os 365 9 306 3282 4820 (PySem.W.Fast.tw12130600226097515541 w.params) ⟨1841, 0, 1842, 54⟩) = fun os => PySem.W.Fast.tw12462966934249337159 PySem.W.Fast.tw5842520607744118111 w os 365 9 PySem.W.Fast.tw15126810429776656138 3282 3343 4929 (PySem.W.Fast.tw7761619445818507519 w.params) ⟨1887, 0, 1903, 23⟩ := by kernel_rfl
theorem pc50 (w : World) : (fun os => PySem.W.Fast.tw12318476347054185907 PySem.W.Fast.tw5842520607744118111 w os 451 11 305 3752 5543 (PySem.W.Fast.tw15134231596998359935 w.params) ⟨2294, 0, 2295, 97⟩) = fun os => PySem.W.Fast.tw12462966934249337159 PySem.W.Fast.tw5842520607744118111 w os 451 11 PySem.W.Fast.tw5363282257257787554 3752 3809 5637 (PySem.W.Fast.tw13179923897210278321 w.params) ⟨2331, 0, 2333, 102⟩ := by kernel_rfl
theorem pc58 (w : World) : (fun os => PySem.W.Fast.tw12318476347054185907 PySem.W.Fast.tw5842520607744118111 w os 543 10 303 4228 6258 (PySem.W.Fast.tw14724862886890094241 w.params) ⟨2747, 0, 2754, 103⟩) = fun os => PySem.W.Fast.tw12462966934249337159 PySem.W.Fast.tw5842520607744118111 w os 543 10 PySem.W.Fast.tw52858996694781118 4228 4287 6359 (PySem.W.Fast.tw298502306034318833 w.params) ⟨2797, 0, 2798, 91⟩ := by kernel_rfl
end RWk
end
section
namespace RWk
open PySem PySem.W
theorem pc3 (w : World) : (fun os => PySem.W.Fast.tw12318476347054185907 PySem.W.Fast.tw5842520607744118111 w os 15 6 1567 326 816 (PySem.W.Fast.tw10987386818769013788 w.params) ⟨65, 0, 69, 30⟩) = fun os => PySem.W.Fast.tw12462966934249337159 PySem.W.Fast.tw5842520607744118111 w os 15 6 PySem.W.Fast.tw18132839246952521164 326 452 978 (PySem.W.Fast.tw15787822498535634888 w.params) ⟨95, 0, 99, 26⟩ := by kernel_rfl
theorem pc11 (w : World) : (fun os => PySem.W.Fast.tw12318476347054185907 PySem.W.Fast.tw5842520607744118111 w os 70 5 137 949 1630 (PySem.W.Fast.tw13738307791543504329 w.params) ⟨306, 0, 312, 53⟩) = fun os => PySem.W.Fast.tw12462966934249337159 PySem.W.Fast.tw5842520607744118111 w os 70 5 PySem.W.Fast.tw62879486612853535 949 975 1673 (PySem.W.Fast.tw4280188087068621564 w.params) ⟨336, 0, 336, 8⟩ := by kernel_rfl
theorem pc19 (w : World) : (fun os => PySem.W.Fast.tw12318476347054185907 PySem.W.Fast.tw5842520607744118111 w os 115 11 296 1815 2751 (PySem.W.Fast.tw14339040948568530509 w.params) ⟨531, 0, 535, 24⟩) = fun os => PySem.W.Fast.tw12462966934249337159 PySem.W.Fast.tw5842520607744118111 w os 115 11 PySem.W.Fast.tw6583475518156503511 1815 1873 2831 (PySem.W.Fast.tw12794928346072808689 w.params) ⟨578, 0, 581, 84⟩ := by kernel_rfl
theorem pc27 (w : World) : (fun os => PySem.W.Fast.tw12318476347054185907 PySem.W.Fast.tw5842520607744118111 w os 197 11 299 2373 3524 (PySem.W.Fast.tw14590273582339926883 w.params) ⟨998, 0, 1004, 93⟩) = fun os => PySem.W.Fast.tw12462966934249337159 PySem.W.Fast.tw5842520607744118111 w os 197 11 PySem.W.Fast.tw550707490937687695 2373 2431 3607 (PySem.W.Fast.tw6686961985360929622 w.params) ⟨1047, 0, 1060, 25⟩ := by kernel_rfl
theorem pc35 (w : World) : (fun os => PySem.W.Fast.tw12318476347054185907 PySem.W.Fast.tw5842520607744118111 w os 284 11 317 2852 4220 (PySem.W.Fast.tw12767150881651930729 w.params) ⟨1437, 0, 1441, 98⟩) = fun os => PySem.W.Fast.tw12462966934249337159 PySem.W.Fast.tw5842520607744118111 w os 284 11 PySem.W.Fast.tw3408784571710956311 2852 2916 4315 (PySem.W.Fast.tw14853603150908442856 w.params) ⟨1482, 0, 1485, 30⟩ := by kernel_rfl
theorem pc43 (w : World) : (fun os => PySem.W.Fast.tw12318476347054185907 PySem.W.Fast.tw5842520607744118111 w os 374 10 294 3343 4929 (PySem.W.Fast.tw7761619445818507519 w.params) ⟨1887, 0, 1903, 23⟩) = fun os => PySem.W.Fast.tw12462966934249337159 PySem.W.Fast.tw5842520607744118111 w os 374 10 PySem.W.Fast.tw14670287164063469627 3343 3402 5021 (PySem.W.Fast.tw5382941848047721533 w.params) ⟨1956, 0, 1958, 61⟩ := by kernel_rfl
theorem pc51 (w : World) : (fun os => PySem.W.Fast.tw12318476347054185907 PySem.W.Fast.tw5842520607744118111 w os 462 13 294 3809 5637 (PySem.W.Fast.tw13179923897210278321 w.params) ⟨2331, 0, 2333, 102⟩) = fun os => PySem.W.Fast.tw12462966934249337159 PySem.W.Fast.tw5842520607744118111 w os 462 13 PySem.W.Fast.tw14769393873053659835 3809 3862 5710 (PySem.W.Fast.tw786816886372530958 w.params) ⟨2379, 0, 2379, 8⟩ := by kernel_rfl
theorem pc59 (w : World) : (fun os => PySem.W.Fast.tw12318476347054185907 PySem.W.Fast.tw5842520607744118111 w os 553 12 311 4287 6359 (PySem.W.Fast.tw298502306034318833 w.params) ⟨2797, 0, 2798, 91⟩) = fun os => PySem.W.Fast.tw12462966934249337159 PySem.W.Fast.tw5842520607744118111 w os 553 12 PySem.W.Fast.tw15371672547665980858 4287 4345 6447 (PySem.W.Fast.tw6003982300112734065 w.params) ⟨2878, 0, 2878, 8⟩ := by kernel_rfl
end RWk
end
section
namespace RWk
open PySem PySem.W
theorem pc4 (w : World) : (fun os => PySem.W.Fast.tw12318476347054185907 PySem.W.Fast.tw5842520607744118111 w os 21 6 1567 452 978 (PySem.W.Fast.tw15787822498535634888 w.params) ⟨95, 0, 99, 26⟩) = fun os => PySem.W.Fast.tw12462966934249337159 PySem.W.Fast.tw5842520607744118111 w os 21 6 PySem.W.Fast.tw13949182688010053085 452 578 1140 (PySem.W.Fast.tw11732196121737442052 w.params) ⟨125, 0, 129, 26⟩ := by kernel_rfl
theorem pc12 (w : World) : (fun os => PySem.W.Fast.tw12318476347054185907 PySem.W.Fast.tw5842520607744118111 w os 75 6 1567 975 1673 (PySem.W.Fast.tw4280188087068621564 w.params) ⟨336, 0, 336, 8⟩) = fun os => PySem.W.Fast.tw12462966934249337159 PySem.W.Fast.tw5842520607744118111 w os 75 6 PySem.W.Fast.tw9439156866937912508 975 1101 1835 (PySem.W.Fast.tw1438690033885928943 w.params) ⟨362, 0, 366, 24⟩ := by kernel_rfl
theorem pc20 (w : World) : (fun os => PySem.W.Fast.tw12318476347054185907 PySem.W.Fast.tw5842520607744118111 w os 126 11 320 1873 2831 (PySem.W.Fast.tw12794928346072808689 w.params) ⟨578, 0, 581, 84⟩) = fun os => PySem.W.Fast.tw12462966934249337159 PySem.W.Fast.tw5842520607744118111 w os 126 11 PySem.W.Fast.tw15775564146921822396 1873 1939 2927 (PySem.W.Fast.tw1138999356262797056 w.params) ⟨623, 0, 626, 39⟩ := by kernel_rfl
theorem pc28 (w : World) : (fun os => PySem.W.Fast.tw12318476347054185907 PySem.W.Fast.tw5842520607744118111 w os 208 12 314 2431 3607 (PySem.W.Fast.tw6686961985360929622 w.params) ⟨1047, 0, 1060, 25⟩) = fun os => PySem.W.Fast.tw12462966934249337159 PySem.W.Fast.tw5842520607744118111 w os 208 12 PySem.W.Fast.tw12479961224287314204 2431 2489 3696 (PySem.W.Fast.tw18295116953968174031 w.params) ⟨1123, 0, 1124, 51⟩ := by kernel_rfl
theorem pc36 (w : World) : (fun os => PySem.W.Fast.tw12318476347054185907 PySem.W.Fast.tw5842520607744118111 w os 295 12 303 2916 4315 (PySem.W.Fast.tw14853603150908442856 w.params) ⟨1482, 0, 1485, 30⟩) = fun os => PySem.W.Fast.tw12462966934249337159 PySem.W.Fast.tw5842520607744118111 w os 295 12 PySem.W.Fast.tw1666855395624641561 2916 2974 4393 (PySem.W.Fast.tw6144754193658765181 w.params) ⟨1542, 0, 1543, 64⟩ := by kernel_rfl
theorem pc44 (w : World) : (fun os => PySem.W.Fast.tw12318476347054185907 PySem.W.Fast.tw5842520607744118111 w os 384 12 300 3402 5021 (PySem.W.Fast.tw5382941848047721533 w.params) ⟨1956, 0, 1958, 61⟩) = fun os => PySem.W.Fast.tw12462966934249337159 PySem.W.Fast.tw5842520607744118111 w os 384 12 PySem.W.Fast.tw8098905145614449987 3402 3459 5103 (PySem.W.Fast.tw16992354298914170440 w.params) ⟨1999, 0, 2003, 52⟩ := by kernel_rfl
theorem pc52 (w : World) : (fun os => PySem.W.Fast.tw12318476347054185907 PySem.W.Fast.tw5842520607744118111 w os 475 11 321 3862 5710 (PySem.W.Fast.tw786816886372530958 w.params) ⟨2379, 0, 2379, 8⟩) = fun os => PySem.W.Fast.tw12462966934249337159 PySem.W.Fast.tw5842520607744118111 w os 475 11 PySem.W.Fast.tw13511539673698946815 3862 3926 5809 (PySem.W.Fast.tw14828559812663264636 w.params) ⟨2428, 0, 2436, 51⟩ := by kernel_rfl
theorem pc60 (w : World) : (fun os => PySem.W.Fast.tw12318476347054185907 PySem.W.Fast.tw5842520607744118111 w os 565 11 318 4345 6447 (PySem.W.Fast.tw6003982300112734065 w.params) ⟨2878, 0, 2878, 8⟩) = fun os => PySem.W.Fast.tw12462966934249337159 PySem.W.Fast.tw5842520607744118111 w os 565 11 PySem.W.Fast.tw15888018678362603510 4345 4409 6543 (PySem.W.Fast.tw2615854027860426076 w.params) ⟨2938, 0, 2949, 101⟩ := by kernel_rfl
end RWk
end
section
namespace RWk
open PySem PySem.W
theorem pc5 (w : World) : (fun os => PySem.W.Fast.tw12318476347054185907 PySem.W.Fast.tw5842520607744118111 w os 27 6 1567 578 1140 (PySem.W.Fast.tw11732196121737442052 w.params) ⟨125, 0, 129, 26⟩) = fun os => PySem.W.Fast.tw12462966934249337159 PySem.W.Fast.tw5842520607744118111 w os 27 6 PySem.W.Fast.tw12111064908819713410 578 704 1302 (PySem.W.Fast.tw1726488748080977285 w.params) ⟨155, 0, 159, 24⟩ := by kernel_rfl
theorem pc13 (w : World) : (fun os => PySem.W.Fast.tw12318476347054185907 PySem.W.Fast.tw5842520607744118111 w os 81 6 1563 1101 1835 (PySem.W.Fast.tw1438690033885928943 w.params) ⟨362, 0, 366, 24⟩) = fun os => PySem.W.Fast.tw12462966934249337159 PySem.W.Fast.tw5842520607744118111 w os 81 6 PySem.W.Fast.tw1934434173029238978 1101 1227 1993 (PySem.W.Fast.tw8463785803083804035 w.params) ⟨391, 0, 394, 26⟩ := by kernel_rfl
theorem pc21 (w : World) : (fun os => PySem.W.Fast.tw12318476347054185907 PySem.W.Fast.tw5842520607744118111 w os 137 13 305 1939 2927 (PySem.W.Fast.tw1138999356262797056 w.params) ⟨623, 0, 626, 39⟩) = fun os => PySem.W.Fast.tw12462966934249337159 PySem.W.Fast.tw5842520607744118111 w os 137 13 PySem.W.Fast.tw17424456610602673073 1939 1994 3009 (PySem.W.Fast.tw5918763099338290653 w.params) ⟨679, 0, 679, 8⟩ := by kernel_rfl
theorem pc29 (w : World) : (fun os => PySem.W.Fast.tw12318476347054185907 PySem.W.Fast.tw5842520607744118111 w os 220 11 293 2489 3696 (PySem.W.Fast.tw18295116953968174031 w.params) ⟨1123, 0, 1124, 51⟩) = fun os => PySem.W.Fast.tw12462966934249337159 PySem.W.Fast.tw5842520607744118111 w os 220 11 PySem.W.Fast.tw10271458752136977406 2489 2545 3773 (PySem.W.Fast.tw4965234540809625212 w.params) ⟨1175, 0, 1178, 65⟩ := by kernel_rfl
theorem pc37 (w : World) : (fun os => PySem.W.Fast.tw12318476347054185907 PySem.W.Fast.tw5842520607744118111 w os 307 11 315 2974 4393 (PySem.W.Fast.tw6144754193658765181 w.params) ⟨1542, 0, 1543, 64⟩) = fun os => PySem.W.Fast.tw12462966934249337159 PySem.W.Fast.tw5842520607744118111 w os 307 11 PySem.W.Fast.tw6770419485684801149 2974 3039 4477 (PySem.W.Fast.tw1823366259226388739 w.params) ⟨1587, 0, 1592, 69⟩ := by kernel_rfl
theorem pc45 (w : World) : (fun os => PySem.W.Fast.tw12318476347054185907 PySem.W.Fast.tw5842520607744118111 w os 396 12 315 3459 5103 (PySem.W.Fast.tw16992354298914170440 w.params) ⟨1999, 0, 2003, 52⟩) = fun os => PySem.W.Fast.tw12462966934249337159 PySem.W.Fast.tw5842520607744118111 w os 396 12 PySem.W.Fast.tw8658647633909553480 3459 3521 5187 (PySem.W.Fast.tw6727323642645634731 w.params) ⟨2047, 0, 2051, 86⟩ := by kernel_rfl
theorem pc53 (w : World) : (fun os => PySem.W.Fast.tw12318476347054185907 PySem.W.Fast.tw5842520607744118111 w os 486 11 314 3926 5809 (PySem.W.Fast.tw14828559812663264636 w.params) ⟨2428, 0, 2436, 51⟩) = fun os => PySem.W.Fast.tw12462966934249337159 PySem.W.Fast.tw5842520607744118111 w os 486 11 PySem.W.Fast.tw13346035681737766911 3926 3990 5901 (PySem.W.Fast.tw14217733620317395700 w.params) ⟨2482, 0, 2484, 37⟩ := by kernel_rfl
theorem pc61 (w : World) : (fun os => PySem.W.Fast.tw12318476347054185907 PySem.W.Fast.tw5842520607744118111 w os 576 10 299 4409 6543 (PySem.W.Fast.tw2615854027860426076 w.params) ⟨2938, 0, 2949, 101⟩) = fun os => PySem.W.Fast.tw12462966934249337159 PySem.W.Fast.tw5842520607744118111 w os 576 10 PySem.W.Fast.tw16359692081183359971 4409 4477 6623 (PySem.W.Fast.tw1520129368630242203 w.params) ⟨3134, 0, 3184, 21⟩ := by kernel_rfl
end RWk
end
section
namespace RWk
open PySem PySem.W
theorem pc6 (w : World) : (fun os => PySem.W.Fast.tw12318476347054185907 PySem.W.Fast.tw5842520607744118111 w os 33 1 262 704 1302 (PySem.W.Fast.tw1726488748080977285 w.params) ⟨155, 0, 159, 24⟩) = fun os => PySem.W.Fast.tw12462966934249337159 PySem.W.Fast.tw5842520607744118111 w os 33 1 PySem.W.Fast.tw17641594447158518808 704 725 1329 (PySem.W.Fast.tw18213002274699605749 w.params) ⟨160, 0, 164, 26⟩ := by kernel_rfl
theorem pc14 (w : World) : (fun os => PySem.W.Fast.tw12318476347054185907 PySem.W.Fast.tw5842520607744118111 w os 87 6 1567 1227 1993 (PySem.W.Fast.tw8463785803083804035 w.params) ⟨391, 0, 394, 26⟩) = fun os => PySem.W.Fast.tw12462966934249337159 PySem.W.Fast.tw5842520607744118111 w os 87 6 PySem.W.Fast.tw9513447904300438229 1227 1353 2155 (PySem.W.Fast.tw16051827773154727025 w.params) ⟨420, 0, 424, 26⟩ := by kernel_rfl
theorem pc22 (w : World) : (fun os => PySem.W.Fast.tw12318476347054185907 PySem.W.Fast.tw5842520607744118111 w os 150 9 250 1994 3009 (PySem.W.Fast.tw5918763099338290653 w.params) ⟨679, 0, 679, 8⟩) = fun os => PySem.W.Fast.tw12462966934249337159 PySem.W.Fast.tw5842520607744118111 w os 150 9 PySem.W.Fast.tw5897594149416409756 1994 2044 3079 (PySem.W.Fast.tw17797298872434560499 w.params) ⟨729, 0, 734, 16⟩ := by kernel_rfl
theorem pc30 (w : World) : (fun os => PySem.W.Fast.tw12318476347054185907 PySem.W.Fast.tw5842520607744118111 w os 231 10 290 2545 3773 (PySem.W.Fast.tw4965234540809625212 w.params) ⟨1175, 0, 1178, 65⟩) = fun os => PySem.W.Fast.tw12462966934249337159 PySem.W.Fast.tw5842520607744118111 w os 231 10 PySem.W.Fast.tw6092999336495682197 2545 2602 3863 (PySem.W.Fast.tw4816322157639190758 w.params) ⟨1241, 0, 1247, 99⟩ := by kernel_rfl
theorem pc38 (w : World) : (fun os => PySem.W.Fast.tw12318476347054185907 PySem.W.Fast.tw5842520607744118111 w os 318 13 308 3039 4477 (PySem.W.Fast.tw1823366259226388739 w.params) ⟨1587, 0, 1592, 69⟩) = fun os => PySem.W.Fast.tw12462966934249337159 PySem.W.Fast.tw5842520607744118111 w os 318 13 PySem.W.Fast.tw634776721708122 3039 3097 4553 (PySem.W.Fast.tw2591093419987431336 w.params) ⟨1643, 0, 1651, 47⟩ := by kernel_rfl
theorem pc46 (w : World) : (fun os => PySem.W.Fast.tw12318476347054185907 PySem.W.Fast.tw5842520607744118111 w os 408 10 297 3521 5187 (PySem.W.Fast.tw6727323642645634731 w.params) ⟨2047, 0, 2051, 86⟩) = fun os => PySem.W.Fast.tw12462966934249337159 PySem.W.Fast.tw5842520607744118111 w os 408 10 PySem.W.Fast.tw10182571373061850040 3521 3578 5284 (PySem.W.Fast.tw5630719118980929923 w.params) ⟨2120, 0, 2132, 39⟩ := by kernel_rfl
theorem pc54 (w : World) : (fun os => PySem.W.Fast.tw12318476347054185907 PySem.W.Fast.tw5842520607744118111 w os 497 11 318 3990 5901 (PySem.W.Fast.tw14217733620317395700 w.params) ⟨2482, 0, 2484, 37⟩) = fun os => PySem.W.Fast.tw12462966934249337159 PySem.W.Fast.tw5842520607744118111 w os 497 11 PySem.W.Fast.tw17310505439774284165 3990 4052 5999 (PySem.W.Fast.tw5968858487924211316 w.params) ⟨2528, 0, 2530, 75⟩ := by kernel_rfl
theorem pc62 (w : World) : (fun os => PySem.W.Fast.tw12318476347054185907 PySem.W.Fast.tw5842520607744118111 w os 586 4 129 4477 6623 (PySem.W.Fast.tw1520129368630242203 w.params) ⟨3134, 0, 3184, 21⟩) = fun os => PySem.W.Fast.tw12462966934249337159 PySem.W.Fast.tw5842520607744118111 w os 586 4 PySem.W.Fast.tw12011135119676620553 4477 4503 6665 (PySem.W.Fast.tw16808585219888254189 w.params) ⟨3290, 0, 3307, 29⟩ := by kernel_rfl
end RWk
end
section
namespace RWk
open PySem PySem.W
theorem pc7 (w : World) : (fun os => PySem.W.Fast.tw12318476347054185907 PySem.W.Fast.tw5842520607744118111 w os 34 13 292 725 1329 (PySem.W.Fast.tw18213002274699605749 w.params) ⟨160, 0, 164, 26⟩) = fun os => PySem.W.Fast.tw12462966934249337159 PySem.W.Fast.tw5842520607744118111 w os 34 13 PySem.W.Fast.tw12597746010254870833 725 782 1400 (PySem.W.Fast.tw65875038430390420 w.params) ⟨192, 0, 192, 8⟩ := by kernel_rfl
theorem pc15 (w : World) : (fun os => PySem.W.Fast.tw12318476347054185907 PySem.W.Fast.tw5842520607744118111 w os 93 6 1567 1353 2155 (PySem.W.Fast.tw16051827773154727025 w.params) ⟨420, 0, 424, 26⟩) = fun os => PySem.W.Fast.tw12462966934249337159 PySem.W.Fast.tw5842520607744118111 w os 93 6 PySem.W.Fast.tw6863021539161195171 1353 1479 2317 (PySem.W.Fast.tw6341867688744616266 w.params) ⟨450, 0, 454, 26⟩ := by kernel_rfl
theorem pc23 (w : World) : (fun os => PySem.W.Fast.tw12318476347054185907 PySem.W.Fast.tw5842520607744118111 w os 159 1 843 2044 3079 (PySem.W.Fast.tw17797298872434560499 w.params) ⟨729, 0, 734, 16⟩) = fun os => PySem.W.Fast.tw12462966934249337159 PySem.W.Fast.tw5842520607744118111 w os 159 1 PySem.W.Fast.tw10149100464631652978 2044 2198 3267 (PySem.W.Fast.tw2341257373348788765 w.params) ⟨735, 0, 825, 96⟩ := by kernel_rfl
theorem pc31 (w : World) : (fun os => PySem.W.Fast.tw12318476347054185907 PySem.W.Fast.tw5842520607744118111 w os 241 10 296 2602 3863 (PySem.W.Fast.tw4816322157639190758 w.params) ⟨1241, 0, 1247, 99⟩) = fun os => PySem.W.Fast.tw12462966934249337159 PySem.W.Fast.tw5842520607744118111 w os 241 10 PySem.W.Fast.tw15149835209670452356 2602 2663 3955 (PySem.W.Fast.tw12285071364828471680 w.params) ⟨1277, 0, 1278, 69⟩ := by kernel_rfl
theorem pc39 (w : World) : (fun os => PySem.W.Fast.tw12318476347054185907 PySem.W.Fast.tw5842520607744118111 w os 331 12 319 3097 4553 (PySem.W.Fast.tw2591093419987431336 w.params) ⟨1643, 0, 1651, 47⟩) = fun os => PySem.W.Fast.tw12462966934249337159 PySem.W.Fast.tw5842520607744118111 w os 331 12 PySem.W.Fast.tw5574756989097196864 3097 3157 4647 (PySem.W.Fast.tw2928191078726268398 w.params) ⟨1722, 0, 1732, 44⟩ := by kernel_rfl
theorem pc47 (w : World) : (fun os => PySem.W.Fast.tw12318476347054185907 PySem.W.Fast.tw5842520607744118111 w os 418 11 296 3578 5284 (PySem.W.Fast.tw5630719118980929923 w.params) ⟨2120, 0, 2132, 39⟩) = fun os => PySem.W.Fast.tw12462966934249337159 PySem.W.Fast.tw5842520607744118111 w os 418 11 PySem.W.Fast.tw13395139680903162399 3578 3635 5371 (PySem.W.Fast.tw17666649903710164633 w.params) ⟨2181, 0, 2183, 48⟩ := by kernel_rfl
theorem pc55 (w : World) : (fun os => PySem.W.Fast.tw12318476347054185907 PySem.W.Fast.tw5842520607744118111 w os 508 12 306 4052 5999 (PySem.W.Fast.tw5968858487924211316 w.params) ⟨2528, 0, 2530, 75⟩) = fun os => PySem.W.Fast.tw12462966934249337159 PySem.W.Fast.tw5842520607744118111 w os 508 12 PySem.W.Fast.tw6190294191171843700 4052 4109 6075 (PySem.W.Fast.tw1357988695206575754 w.params) ⟨2589, 0, 2592, 85⟩ := by kernel_rfl
end RWk
end
section
namespace RWk
open PySem PySem.W
theorem opn : PySem.W.Fast.tw5015006333864032847 PySem.W.Fast.tw5842520607744118111 = PySem.W.Fast.tw11123400252575464846 PySem.W.Fast.tw5842520607744118111 := by kernel_rfl
theorem fnc : PySem.W.Fast.tw6830084558662851750 PySem.W.Fast.tw5842520607744118111 = PySem.W.Fast.tw7491188998652021260 PySem.W.Fast.tw5842520607744118111 := by kernel_rfl
theorem blk (w : World) (s : Shared) : PySem.W.Fast.tw17653879583545322052 PySem.W.Fast.tw5842520607744118111 w s = BR PySem.W.Fast.tw5842520607744118111 s := by kernel_rfl
theorem pre : PySem.W.Fast.tw8003206740936431112 PySem.W.Fast.tw5842520607744118111 = PySem.W.Fast.tw1247613064148511758 PySem.W.Fast.tw5842520607744118111 := by kernel_rfl
theorem fin (w : World) (h : Heap) (k : Nat) (os : OsState) (c : Code) (q : Pos) : topRun treeTable PG w 50 (some (.ref 6)) 2 ⟨h, #[], drawn0, k, os⟩ (restOf [] (envM PG) c q [topFrame ps0]) = some ⟨h, #[], drawn0, k, os⟩ := by kernel_rfl
end RWk
end
section
namespace RWk
open PySem PySem.W
theorem cv {w : World} {a k N n tk n' tk' : Nat} {hot hot' thot thot' : Params → List (Nat × Obj)} {ss tss : List Sp} {q q' : Pos} (eh : hot = thot) (eh' : hot' = thot') (es : ss = tss)
    (h : (fun os => PySem.W.Fast.tw12318476347054185907 PySem.W.Fast.tw5842520607744118111 w os a k N n tk (thot w.params) q) = fun os => PySem.W.Fast.tw12462966934249337159 PySem.W.Fast.tw5842520607744118111 w os a k tss n n' tk' (thot' w.params) q') (os : OsState) :
    PV PG w os a k N n tk (hot w.params) q = RV PG w os a k ss n n' tk' (hot' w.params) q' := by
  have e1 : PV = PySem.W.Fast.tw12318476347054185907 := PySem.W.Fast.te12318476347054185907
  have e2 : RV = PySem.W.Fast.tw12462966934249337159 := PySem.W.Fast.te12462966934249337159
  have e3 : PG = PySem.W.Fast.tw5842520607744118111 := PySem.W.Fast.te5842520607744118111
  rw [eh, eh', es, e1, e2, e3]
  exact congrFun h os
theorem run0 (w : World) (os : OsState) : PV PG w os 0 3 225 54 463 (hot0 w.params) ⟨0, 0, 0, 0⟩ = RV PG w os 0 3 sp0 54 74 490 (hot0b w.params) ⟨7, 0, 8, 8⟩ := cv PySem.W.Fast.te1581470010189877316 PySem.W.Fast.te10984897103533379712 PySem.W.Fast.te13395173202328607666 (pc0 w) os
theorem run1 (w : World) (os : OsState) : PV PG w os 3 6 1569 74 490 (hot1 w.params) ⟨7, 0, 8, 8⟩ = RV PG w os 3 6 sp1 74 200 654 (hot2 w.params) ⟨35, 0, 39, 26⟩ := cv PySem.W.Fast.te4856869814644502777 PySem.W.Fast.te4006410079236502279 PySem.W.Fast.te15821540051359268783 (pc1 w) os
theorem run2 (w : World) (os : OsState) : PV PG w os 9 6 1567 200 654 (hot2 w.params) ⟨35, 0, 39, 26⟩ = RV PG w os 9 6 sp2 200 326 816 (hot3 w.params) ⟨65, 0, 69, 30⟩ := cv PySem.W.Fast.te4006410079236502279 PySem.W.Fast.te10987386818769013788 PySem.W.Fast.te1727862920371323782 (pc2 w) os
theorem run3 (w : World) (os : OsState) : PV PG w os 15 6 1567 326 816 (hot3 w.params) ⟨65, 0, 69, 30⟩ = RV PG w os 15 6 sp3 326 452 978 (hot4 w.params) ⟨95, 0, 99, 26⟩ := cv PySem.W.Fast.te10987386818769013788 PySem.W.Fast.te15787822498535634888 PySem.W.Fast.te18132839246952521164 (pc3 w) os
theorem run4 (w : World) (os : OsState) : PV PG w os 21 6 1567 452 978 (hot4 w.params) ⟨95, 0, 99, 26⟩ = RV PG w os 21 6 sp4 452 578 1140 (hot5 w.params) ⟨125, 0, 129, 26⟩ := cv PySem.W.Fast.te15787822498535634888 PySem.W.Fast.te11732196121737442052 PySem.W.Fast.te13949182688010053085 (pc4 w) os
theorem run5 (w : World) (os : OsState) : PV PG w os 27 6 1567 578 1140 (hot5 w.params) ⟨125, 0, 129, 26⟩ = RV PG w os 27 6 sp5 578 704 1302 (hot6 w.params) ⟨155, 0, 159, 24⟩ := cv PySem.W.Fast.te11732196121737442052 PySem.W.Fast.te1726488748080977285 PySem.W.Fast.te12111064908819713410 (pc5 w) os
theorem run6 (w : World) (os : OsState) : PV PG w os 33 1 262 704 1302 (hot6 w.params) ⟨155, 0, 159, 24⟩ = RV PG w os 33 1 sp6 704 725 1329 (hot7 w.params) ⟨160, 0, 164, 26⟩ := cv PySem.W.Fast.te1726488748080977285 PySem.W.Fast.te18213002274699605749 PySem.W.Fast.te17641594447158518808 (pc6 w) os
theorem run7 (w : World) (os : OsState) : PV PG w os 34 13 292 725 1329 (hot7 w.params) ⟨160, 0, 164, 26⟩ = RV PG w os 34 13 sp7 725 782 1400 (hot8 w.params) ⟨192, 0, 192, 8⟩ := cv PySem.W.Fast.te18213002274699605749 PySem.W.Fast.te65875038430390420 PySem.W.Fast.te12597746010254870833 (pc7 w) os
theorem run8 (w : World) (os : OsState) : PV PG w os 47 1 322 782 1400 (hot8 w.params) ⟨192, 0, 192, 8⟩ = RV PG w os 47 1 sp8 782 822 1453 (hot9 w.params) ⟨193, 0, 215, 68⟩ := cv PySem.W.Fast.te65875038430390420 PySem.W.Fast.te15596832209290277042 PySem.W.Fast.te3112286118501483944 (pc8 w) os
theorem run9 (w : World) (os : OsState) : PV PG w os 48 11 317 822 1453 (hot9 w.params) ⟨193, 0, 215, 68⟩ = RV PG w os 48 11 sp9 822 889 1537 (hot10 w.params) ⟨251, 0, 254, 16⟩ := cv PySem.W.Fast.te15596832209290277042 PySem.W.Fast.te17375271650354098287 PySem.W.Fast.te18010374267202418425 (pc9 w) os
theorem run10 (w : World) (os : OsState) : PV PG w os 59 11 311 889 1537 (hot10 w.params) ⟨251, 0, 254, 16⟩ = RV PG w os 59 11 sp10 889 949 1630 (hot11 w.params) ⟨306, 0, 312, 53⟩ := cv PySem.W.Fast.te17375271650354098287 PySem.W.Fast.te13738307791543504329 PySem.W.Fast.te655306874718866387 (pc10 w) os
theorem run11 (w : World) (os : OsState) : PV PG w os 70 5 137 949 1630 (hot11 w.params) ⟨306, 0, 312, 53⟩ = RV PG w os 70 5 sp11 949 975 1673 (hot12 w.params) ⟨336, 0, 336, 8⟩ := cv PySem.W.Fast.te13738307791543504329 PySem.W.Fast.te4280188087068621564 PySem.W.Fast.te62879486612853535 (pc11 w) os
theorem run12 (w : World) (os : OsState) : PV PG w os 75 6 1567 975 1673 (hot12 w.params) ⟨336, 0, 336, 8⟩ = RV PG w os 75 6 sp12 975 1101 1835 (hot13 w.params) ⟨362, 0, 366, 24⟩ := cv PySem.W.Fast.te4280188087068621564 PySem.W.Fast.te1438690033885928943 PySem.W.Fast.te9439156866937912508 (pc12 w) os
theorem run13 (w : World) (os : OsState) : PV PG w os 81 6 1563 1101 1835 (hot13 w.params) ⟨362, 0, 366, 24⟩ = RV PG w os 81 6 sp13 1101 1227 1993 (hot14 w.params) ⟨391, 0, 394, 26⟩ := cv PySem.W.Fast.te1438690033885928943 PySem.W.Fast.te8463785803083804035 PySem.W.Fast.te1934434173029238978 (pc13 w) os
theorem run14 (w : World) (os : OsState) : PV PG w os 87 6 1567 1227 1993 (hot14 w.params) ⟨391, 0, 394, 26⟩ = RV PG w os 87 6 sp14 1227 1353 2155 (hot15 w.params) ⟨420, 0, 424, 26⟩ := cv PySem.W.Fast.te8463785803083804035 PySem.W.Fast.te16051827773154727025 PySem.W.Fast.te9513447904300438229 (pc14 w) os
theorem run15 (w : World) (os : OsState) : PV PG w os 93 6 1567 1353 2155 (hot15 w.params) ⟨420, 0, 424, 26⟩ = RV PG w os 93 6 sp15 1353 1479 2317 (hot16 w.params) ⟨450, 0, 454, 26⟩ := cv PySem.W.Fast.te16051827773154727025 PySem.W.Fast.te6341867688744616266 PySem.W.Fast.te6863021539161195171 (pc15 w) os
theorem run16 (w : World) (os : OsState) : PV PG w os 99 6 1567 1479 2317 (hot16 w.params) ⟨450, 0, 454, 26⟩ = RV PG w os 99 6 sp16 1479 1605 2479 (hot17 w.params) ⟨480, 0, 484, 22⟩ := cv PySem.W.Fast.te6341867688744616266 PySem.W.Fast.te1748279365196422573 PySem.W.Fast.te3255748137583407523 (pc16 w) os
theorem run17 (w : World) (os : OsState) : PV PG w os 105 6 1569 1605 2479 (hot17 w.params) ⟨480, 0, 484, 22⟩ = RV PG w os 105 6 sp17 1605 1731 2643 (hot18 w.params) ⟨511, 0, 515, 32⟩ := cv PySem.W.Fast.te1748279365196422573 PySem.W.Fast.te5962002192309883336 PySem.W.Fast.te8262242747881867853 (pc17 w) os
theorem run18 (w : World) (os : OsState) : PV PG w os 111 4 1045 1731 2643 (hot18 w.params) ⟨511, 0, 515, 32⟩ = RV PG w os 111 4 sp18 1731 1815 2751 (hot19 w.params) ⟨531, 0, 535, 24⟩ := cv PySem.W.Fast.te5962002192309883336 PySem.W.Fast.te14339040948568530509 PySem.W.Fast.te7814647317319148225 (pc18 w) os
theorem run19 (w : World) (os : OsState) : PV PG w os 115 11 296 1815 2751 (hot19 w.params) ⟨531, 0, 535, 24⟩ = RV PG w os 115 11 sp19 1815 1873 2831 (hot20 w.params) ⟨578, 0, 581, 84⟩ := cv PySem.W.Fast.te14339040948568530509 PySem.W.Fast.te12794928346072808689 PySem.W.Fast.te6583475518156503511 (pc19 w) os
theorem run20 (w : World) (os : OsState) : PV PG w os 126 11 320 1873 2831 (hot20 w.params) ⟨578, 0, 581, 84⟩ = RV PG w os 126 11 sp20 1873 1939 2927 (hot21 w.params) ⟨623, 0, 626, 39⟩ := cv PySem.W.Fast.te12794928346072808689 PySem.W.Fast.te1138999356262797056 PySem.W.Fast.te15775564146921822396 (pc20 w) os
theorem run21 (w : World) (os : OsState) : PV PG w os 137 13 305 1939 2927 (hot21 w.params) ⟨623, 0, 626, 39⟩ = RV PG w os 137 13 sp21 1939 1994 3009 (hot22 w.params) ⟨679, 0, 679, 8⟩ := cv PySem.W.Fast.te1138999356262797056 PySem.W.Fast.te5918763099338290653 PySem.W.Fast.te17424456610602673073 (pc21 w) os
theorem run22 (w : World) (os : OsState) : PV PG w os 150 9 250 1994 3009 (hot22 w.params) ⟨679, 0, 679, 8⟩ = RV PG w os 150 9 sp22 1994 2044 3079 (hot23 w.params) ⟨729, 0, 734, 16⟩ := cv PySem.W.Fast.te5918763099338290653 PySem.W.Fast.te17797298872434560499 PySem.W.Fast.te5897594149416409756 (pc22 w) os
theorem run23 (w : World) (os : OsState) : PV PG w os 159 1 843 2044 3079 (hot23 w.params) ⟨729, 0, 734, 16⟩ = RV PG w os 159 1 sp23 2044 2198 3267 (hot24 w.params) ⟨735, 0, 825, 96⟩ := cv PySem.W.Fast.te17797298872434560499 PySem.W.Fast.te2341257373348788765 PySem.W.Fast.te10149100464631652978 (pc23 w) os
theorem run24 (w : World) (os : OsState) : PV PG w os 160 12 302 2198 3267 (hot24 w.params) ⟨735, 0, 825, 96⟩ = RV PG w os 160 12 sp24 2198 2257 3353 (hot25 w.params) ⟨868, 0, 872, 22⟩ := cv PySem.W.Fast.te2341257373348788765 PySem.W.Fast.te6855184859666016495 PySem.W.Fast.te1817303033830226485 (pc24 w) os
theorem run25 (w : World) (os : OsState) : PV PG w os 172 13 316 2257 3353 (hot25 w.params) ⟨868, 0, 872, 22⟩ = RV PG w os 172 13 sp25 2257 2313 3437 (hot26 w.params) ⟨940, 0, 943, 38⟩ := cv PySem.W.Fast.te6855184859666016495 PySem.W.Fast.te12325780006809922917 PySem.W.Fast.te9350711981069799072 (pc25 w) os
theorem run26 (w : World) (os : OsState) : PV PG w os 185 12 312 2313 3437 (hot26 w.params) ⟨940, 0, 943, 38⟩ = RV PG w os 185 12 sp26 2313 2373 3524 (hot27 w.params) ⟨998, 0, 1004, 93⟩ := cv PySem.W.Fast.te12325780006809922917 PySem.W.Fast.te14590273582339926883 PySem.W.Fast.te2267881009348054634 (pc26 w) os
theorem run27 (w : World) (os : OsState) : PV PG w os 197 11 299 2373 3524 (hot27 w.params) ⟨998, 0, 1004, 93⟩ = RV PG w os 197 11 sp27 2373 2431 3607 (hot28 w.params) ⟨1047, 0, 1060, 25⟩ := cv PySem.W.Fast.te14590273582339926883 PySem.W.Fast.te6686961985360929622 PySem.W.Fast.te550707490937687695 (pc27 w) os
theorem run28 (w : World) (os : OsState) : PV PG w os 208 12 314 2431 3607 (hot28 w.params) ⟨1047, 0, 1060, 25⟩ = RV PG w os 208 12 sp28 2431 2489 3696 (hot29 w.params) ⟨1123, 0, 1124, 51⟩ := cv PySem.W.Fast.te6686961985360929622 PySem.W.Fast.te18295116953968174031 PySem.W.Fast.te12479961224287314204 (pc28 w) os
theorem run29 (w : World) (os : OsState) : PV PG w os 220 11 293 2489 3696 (hot29 w.params) ⟨1123, 0, 1124, 51⟩ = RV PG w os 220 11 sp29 2489 2545 3773 (hot30 w.params) ⟨1175, 0, 1178, 65⟩ := cv PySem.W.Fast.te18295116953968174031 PySem.W.Fast.te4965234540809625212 PySem.W.Fast.te10271458752136977406 (pc29 w) os
theorem run30 (w : World) (os : OsState) : PV PG w os 231 10 290 2545 3773 (hot30 w.params) ⟨1175, 0, 1178, 65⟩ = RV PG w os 231 10 sp30 2545 2602 3863 (hot31 w.params) ⟨1241, 0, 1247, 99⟩ := cv PySem.W.Fast.te4965234540809625212 PySem.W.Fast.te4816322157639190758 PySem.W.Fast.te6092999336495682197 (pc30 w) os
theorem run31 (w : World) (os : OsState) : PV PG w os 241 10 296 2602 3863 (hot31 w.params) ⟨1241, 0, 1247, 99⟩ = RV PG w os 241 10 sp31 2602 2663 3955 (hot32 w.params) ⟨1277, 0, 1278, 69⟩ := cv PySem.W.Fast.te4816322157639190758 PySem.W.Fast.te12285071364828471680 PySem.W.Fast.te15149835209670452356 (pc31 w) os
theorem run32 (w : World) (os : OsState) : PV PG w os 251 11 316 2663 3955 (hot32 w.params) ⟨1277, 0, 1278, 69⟩ = RV PG w os 251 11 sp32 2663 2733 4043 (hot33 w.params) ⟨1319, 0, 1322, 31⟩ := cv PySem.W.Fast.te12285071364828471680 PySem.W.Fast.te9743374424433660313 PySem.W.Fast.te13197516903715152720 (pc32 w) os
theorem run33 (w : World) (os : OsState) : PV PG w os 262 11 311 2733 4043 (hot33 w.params) ⟨1319, 0, 1322, 31⟩ = RV PG w os 262 11 sp33 2733 2794 4141 (hot34 w.params) ⟨1388, 0, 1393, 81⟩ := cv PySem.W.Fast.te9743374424433660313 PySem.W.Fast.te7515848115923847795 PySem.W.Fast.te11108594088368300297 (pc33 w) os
theorem run34 (w : World) (os : OsState) : PV PG w os 273 11 295 2794 4141 (hot34 w.params) ⟨1388, 0, 1393, 81⟩ = RV PG w os 273 11 sp34 2794 2852 4220 (hot35 w.params) ⟨1437, 0, 1441, 98⟩ := cv PySem.W.Fast.te7515848115923847795 PySem.W.Fast.te12767150881651930729 PySem.W.Fast.te9941097148617876471 (pc34 w) os
theorem run35 (w : World) (os : OsState) : PV PG w os 284 11 317 2852 4220 (hot35 w.params) ⟨1437, 0, 1441, 98⟩ = RV PG w os 284 11 sp35 2852 2916 4315 (hot36 w.params) ⟨1482, 0, 1485, 30⟩ := cv PySem.W.Fast.te12767150881651930729 PySem.W.Fast.te14853603150908442856 PySem.W.Fast.te3408784571710956311 (pc35 w) os
theorem run36 (w : World) (os : OsState) : PV PG w os 295 12 303 2916 4315 (hot36 w.params) ⟨1482, 0, 1485, 30⟩ = RV PG w os 295 12 sp36 2916 2974 4393 (hot37 w.params) ⟨1542, 0, 1543, 64⟩ := cv PySem.W.Fast.te14853603150908442856 PySem.W.Fast.te6144754193658765181 PySem.W.Fast.te1666855395624641561 (pc36 w) os
theorem run37 (w : World) (os : OsState) : PV PG w os 307 11 315 2974 4393 (hot37 w.params) ⟨1542, 0, 1543, 64⟩ = RV PG w os 307 11 sp37 2974 3039 4477 (hot38 w.params) ⟨1587, 0, 1592, 69⟩ := cv PySem.W.Fast.te6144754193658765181 PySem.W.Fast.te1823366259226388739 PySem.W.Fast.te6770419485684801149 (pc37 w) os
theorem run38 (w : World) (os : OsState) : PV PG w os 318 13 308 3039 4477 (hot38 w.params) ⟨1587, 0, 1592, 69⟩ = RV PG w os 318 13 sp38 3039 3097 4553 (hot39 w.params) ⟨1643, 0, 1651, 47⟩ := cv PySem.W.Fast.te1823366259226388739 PySem.W.Fast.te2591093419987431336 PySem.W.Fast.te634776721708122 (pc38 w) os
theorem run39 (w : World) (os : OsState) : PV PG w os 331 12 319 3097 4553 (hot39 w.params) ⟨1643, 0, 1651, 47⟩ = RV PG w os 331 12 sp39 3097 3157 4647 (hot40 w.params) ⟨1722, 0, 1732, 44⟩ := cv PySem.W.Fast.te2591093419987431336 PySem.W.Fast.te2928191078726268398 PySem.W.Fast.te5574756989097196864 (pc39 w) os
theorem run40 (w : World) (os : OsState) : PV PG w os 343 11 294 3157 4647 (hot40 w.params) ⟨1722, 0, 1732, 44⟩ = RV PG w os 343 11 sp40 3157 3216 4732 (hot41 w.params) ⟨1784, 0, 1788, 36⟩ := cv PySem.W.Fast.te2928191078726268398 PySem.W.Fast.te7863938988104178271 PySem.W.Fast.te11304152899054228907 (pc40 w) os
theorem run41 (w : World) (os : OsState) : PV PG w os 354 11 312 3216 4732 (hot41 w.params) ⟨1784, 0, 1788, 36⟩ = RV PG w os 354 11 sp41 3216 3282 4820 (hot42 w.params) ⟨1841, 0, 1842, 54⟩ := cv PySem.W.Fast.te7863938988104178271 PySem.W.Fast.te12130600226097515541 PySem.W.Fast.te1404767023716090507 (pc41 w) os
theorem run42 (w : World) (os : OsState) : PV PG w os 365 9 306 3282 4820 (hot42 w.params) ⟨1841, 0, 1842, 54⟩ = RV PG w os 365 9 sp42 3282 3343 4929 (hot43 w.params) ⟨1887, 0, 1903, 23⟩ := cv PySem.W.Fast.te12130600226097515541 PySem.W.Fast.te7761619445818507519 PySem.W.Fast.te15126810429776656138 (pc42 w) os
theorem run43 (w : World) (os : OsState) : PV PG w os 374 10 294 3343 4929 (hot43 w.params) ⟨1887, 0, 1903, 23⟩ = RV PG w os 374 10 sp43 3343 3402 5021 (hot44 w.params) ⟨1956, 0, 1958, 61⟩ := cv PySem.W.Fast.te7761619445818507519 PySem.W.Fast.te5382941848047721533 PySem.W.Fast.te14670287164063469627 (pc43 w) os
theorem run44 (w : World) (os : OsState) : PV PG w os 384 12 300 3402 5021 (hot44 w.params) ⟨1956, 0, 1958, 61⟩ = RV PG w os 384 12 sp44 3402 3459 5103 (hot45 w.params) ⟨1999, 0, 2003, 52⟩ := cv PySem.W.Fast.te5382941848047721533 PySem.W.Fast.te16992354298914170440 PySem.W.Fast.te8098905145614449987 (pc44 w) os
theorem run45 (w : World) (os : OsState) : PV PG w os 396 12 315 3459 5103 (hot45 w.params) ⟨1999, 0, 2003, 52⟩ = RV PG w os 396 12 sp45 3459 3521 5187 (hot46 w.params) ⟨2047, 0, 2051, 86⟩ := cv PySem.W.Fast.te16992354298914170440 PySem.W.Fast.te6727323642645634731 PySem.W.Fast.te8658647633909553480 (pc45 w) os
theorem run46 (w : World) (os : OsState) : PV PG w os 408 10 297 3521 5187 (hot46 w.params) ⟨2047, 0, 2051, 86⟩ = RV PG w os 408 10 sp46 3521 3578 5284 (hot47 w.params) ⟨2120, 0, 2132, 39⟩ := cv PySem.W.Fast.te6727323642645634731 PySem.W.Fast.te5630719118980929923 PySem.W.Fast.te10182571373061850040 (pc46 w) os
theorem run47 (w : World) (os : OsState) : PV PG w os 418 11 296 3578 5284 (hot47 w.params) ⟨2120, 0, 2132, 39⟩ = RV PG w os 418 11 sp47 3578 3635 5371 (hot48 w.params) ⟨2181, 0, 2183, 48⟩ := cv PySem.W.Fast.te5630719118980929923 PySem.W.Fast.te17666649903710164633 PySem.W.Fast.te13395139680903162399 (pc47 w) os
theorem run48 (w : World) (os : OsState) : PV PG w os 429 10 304 3635 5371 (hot48 w.params) ⟨2181, 0, 2183, 48⟩ = RV PG w os 429 10 sp48 3635 3699 5460 (hot49 w.params) ⟨2229, 0, 2231, 87⟩ := cv PySem.W.Fast.te17666649903710164633 PySem.W.Fast.te3028503575504738583 PySem.W.Fast.te16738301569647867002 (pc48 w) os
theorem run49 (w : World) (os : OsState) : PV PG w os 439 12 295 3699 5460 (hot49 w.params) ⟨2229, 0, 2231, 87⟩ = RV PG w os 439 12 sp49 3699 3752 5543 (hot50 w.params) ⟨2294, 0, 2295, 97⟩ := cv PySem.W.Fast.te3028503575504738583 PySem.W.Fast.te15134231596998359935 PySem.W.Fast.te5550801983124933056 (pc49 w) os
theorem run50 (w : World) (os : OsState) : PV PG w os 451 11 305 3752 5543 (hot50 w.params) ⟨2294, 0, 2295, 97⟩ = RV PG w os 451 11 sp50 3752 3809 5637 (hot51 w.params) ⟨2331, 0, 2333, 102⟩ := cv PySem.W.Fast.te15134231596998359935 PySem.W.Fast.te13179923897210278321 PySem.W.Fast.te5363282257257787554 (pc50 w) os
theorem run51 (w : World) (os : OsState) : PV PG w os 462 13 294 3809 5637 (hot51 w.params) ⟨2331, 0, 2333, 102⟩ = RV PG w os 462 13 sp51 3809 3862 5710 (hot52 w.params) ⟨2379, 0, 2379, 8⟩ := cv PySem.W.Fast.te13179923897210278321 PySem.W.Fast.te786816886372530958 PySem.W.Fast.te14769393873053659835 (pc51 w) os
theorem run52 (w : World) (os : OsState) : PV PG w os 475 11 321 3862 5710 (hot52 w.params) ⟨2379, 0, 2379, 8⟩ = RV PG w os 475 11 sp52 3862 3926 5809 (hot53 w.params) ⟨2428, 0, 2436, 51⟩ := cv PySem.W.Fast.te786816886372530958 PySem.W.Fast.te14828559812663264636 PySem.W.Fast.te13511539673698946815 (pc52 w) os
theorem run53 (w : World) (os : OsState) : PV PG w os 486 11 314 3926 5809 (hot53 w.params) ⟨2428, 0, 2436, 51⟩ = RV PG w os 486 11 sp53 3926 3990 5901 (hot54 w.params) ⟨2482, 0, 2484, 37⟩ := cv PySem.W.Fast.te14828559812663264636 PySem.W.Fast.te14217733620317395700 PySem.W.Fast.te13346035681737766911 (pc53 w) os
theorem run54 (w : World) (os : OsState) : PV PG w os 497 11 318 3990 5901 (hot54 w.params) ⟨2482, 0, 2484, 37⟩ = RV PG w os 497 11 sp54 3990 4052 5999 (hot55 w.params) ⟨2528, 0, 2530, 75⟩ := cv PySem.W.Fast.te14217733620317395700 PySem.W.Fast.te5968858487924211316 PySem.W.Fast.te17310505439774284165 (pc54 w) os
theorem run55 (w : World) (os : OsState) : PV PG w os 508 12 306 4052 5999 (hot55 w.params) ⟨2528, 0, 2530, 75⟩ = RV PG w os 508 12 sp55 4052 4109 6075 (hot56 w.params) ⟨2589, 0, 2592, 85⟩ := cv PySem.W.Fast.te5968858487924211316 PySem.W.Fast.te1357988695206575754 PySem.W.Fast.te6190294191171843700 (pc55 w) os
theorem run56 (w : World) (os : OsState) : PV PG w os 520 12 320 4109 6075 (hot56 w.params) ⟨2589, 0, 2592, 85⟩ = RV PG w os 520 12 sp56 4109 4170 6161 (hot57 w.params) ⟨2654, 0, 2665, 75⟩ := cv PySem.W.Fast.te1357988695206575754 PySem.W.Fast.te15309101993843405113 PySem.W.Fast.te2916508132460897238 (pc56 w) os
theorem run57 (w : World) (os : OsState) : PV PG w os 532 11 313 4170 6161 (hot57 w.params) ⟨2654, 0, 2665, 75⟩ = RV PG w os 532 11 sp57 4170 4228 6258 (hot58 w.params) ⟨2747, 0, 2754, 103⟩ := cv PySem.W.Fast.te15309101993843405113 PySem.W.Fast.te14724862886890094241 PySem.W.Fast.te14439293454195182324 (pc57 w) os
theorem run58 (w : World) (os : OsState) : PV PG w os 543 10 303 4228 6258 (hot58 w.params) ⟨2747, 0, 2754, 103⟩ = RV PG w os 543 10 sp58 4228 4287 6359 (hot59 w.params) ⟨2797, 0, 2798, 91⟩ := cv PySem.W.Fast.te14724862886890094241 PySem.W.Fast.te298502306034318833 PySem.W.Fast.te52858996694781118 (pc58 w) os
theorem run59 (w : World) (os : OsState) : PV PG w os 553 12 311 4287 6359 (hot59 w.params) ⟨2797, 0, 2798, 91⟩ = RV PG w os 553 12 sp59 4287 4345 6447 (hot60 w.params) ⟨2878, 0, 2878, 8⟩ := cv PySem.W.Fast.te298502306034318833 PySem.W.Fast.te6003982300112734065 PySem.W.Fast.te15371672547665980858 (pc59 w) os
theorem run60 (w : World) (os : OsState) : PV PG w os 565 11 318 4345 6447 (hot60 w.params) ⟨2878, 0, 2878, 8⟩ = RV PG w os 565 11 sp60 4345 4409 6543 (hot61 w.params) ⟨2938, 0, 2949, 101⟩ := cv PySem.W.Fast.te6003982300112734065 PySem.W.Fast.te2615854027860426076 PySem.W.Fast.te15888018678362603510 (pc60 w) os
theorem run61 (w : World) (os : OsState) : PV PG w os 576 10 299 4409 6543 (hot61 w.params) ⟨2938, 0, 2949, 101⟩ = RV PG w os 576 10 sp61 4409 4477 6623 (hot62 w.params) ⟨3134, 0, 3184, 21⟩ := cv PySem.W.Fast.te2615854027860426076 PySem.W.Fast.te1520129368630242203 PySem.W.Fast.te16359692081183359971 (pc61 w) os
theorem run62 (w : World) (os : OsState) : PV PG w os 586 4 129 4477 6623 (hot62 w.params) ⟨3134, 0, 3184, 21⟩ = RV PG w os 586 4 sp62 4477 4503 6665 (hot63 w.params) ⟨3290, 0, 3307, 29⟩ := cv PySem.W.Fast.te1520129368630242203 PySem.W.Fast.te16808585219888254189 PySem.W.Fast.te12011135119676620553 (pc62 w) os
noncomputable def Z0 (P : Params) : List Obj := L0 P
noncomputable def A0 (P : Params) : List Obj := objsO P sp0 (stsO PG 0 3)
noncomputable def Z1 (P : Params) : List Obj := Z0 P ++ A0 P
theorem hA0 (P : Params) : (A0 P).length + 54 = 74 := by kernel_rfl
noncomputable def A1 (P : Params) : List Obj := objsO P sp1 (stsO PG 3 6)
noncomputable def Z2 (P : Params) : List Obj := Z1 P ++ A1 P
theorem hA1 (P : Params) : (A1 P).length + 74 = 200 := by kernel_rfl
noncomputable def A2 (P : Params) : List Obj := objsO P sp2 (stsO PG 9 6)
noncomputable def Z3 (P : Params) : List Obj := Z2 P ++ A2 P
theorem hA2 (P : Params) : (A2 P).length + 200 = 326 := by kernel_rfl
noncomputable def A3 (P : Params) : List Obj := objsO P sp3 (stsO PG 15 6)
noncomputable def Z4 (P : Params) : List Obj := Z3 P ++ A3 P
theorem hA3 (P : Params) : (A3 P).length + 326 = 452 := by kernel_rfl
noncomputable def A4 (P : Params) : List Obj := objsO P sp4 (stsO PG 21 6)
noncomputable def Z5 (P : Params) : List Obj := Z4 P ++ A4 P
theorem hA4 (P : Params) : (A4 P).length + 452 = 578 := by kernel_rfl
noncomputable def A5 (P : Params) : List Obj := objsO P sp5 (stsO PG 27 6)
noncomputable def Z6 (P : Params) : List Obj := Z5 P ++ A5 P
theorem hA5 (P : Params) : (A5 P).length + 578 = 704 := by kernel_rfl
noncomputable def A6 (P : Params) : List Obj := objsO P sp6 (stsO PG 33 1)
noncomputable def Z7 (P : Params) : List Obj := Z6 P ++ A6 P
theorem hA6 (P : Params) : (A6 P).length + 704 = 725 := by kernel_rfl
noncomputable def A7 (P : Params) : List Obj := objsO P sp7 (stsO PG 34 13)
noncomputable def Z8 (P : Params) : List Obj := Z7 P ++ A7 P
theorem hA7 (P : Params) : (A7 P).length + 725 = 782 := by kernel_rfl
noncomputable def A8 (P : Params) : List Obj := objsO P sp8 (stsO PG 47 1)
noncomputable def Z9 (P : Params) : List Obj := Z8 P ++ A8 P
theorem hA8 (P : Params) : (A8 P).length + 782 = 822 := by kernel_rfl
noncomputable def A9 (P : Params) : List Obj := objsO P sp9 (stsO PG 48 11)
noncomputable def Z10 (P : Params) : List Obj := Z9 P ++ A9 P
theorem hA9 (P : Params) : (A9 P).length + 822 = 889 := by kernel_rfl
noncomputable def A10 (P : Params) : List Obj := objsO P sp10 (stsO PG 59 11)
noncomputable def Z11 (P : Params) : List Obj := Z10 P ++ A10 P
theorem hA10 (P : Params) : (A10 P).length + 889 = 949 := by kernel_rfl
noncomputable def A11 (P : Params) : List Obj := objsO P sp11 (stsO PG 70 5)
noncomputable def Z12 (P : Params) : List Obj := Z11 P ++ A11 P
theorem hA11 (P : Params) : (A11 P).length + 949 = 975 := by kernel_rfl
noncomputable def A12 (P : Params) : List Obj := objsO P sp12 (stsO PG 75 6)
noncomputable def Z13 (P : Params) : List Obj := Z12 P ++ A12 P
theorem hA12 (P : Params) : (A12 P).length + 975 = 1101 := by kernel_rfl
noncomputable def A13 (P : Params) : List Obj := objsO P sp13 (stsO PG 81 6)
noncomputable def Z14 (P : Params) : List Obj := Z13 P ++ A13 P
theorem hA13 (P : Params) : (A13 P).length + 1101 = 1227 := by kernel_rfl
noncomputable def A14 (P : Params) : List Obj := objsO P sp14 (stsO PG 87 6)
noncomputable def Z15 (P : Params) : List Obj := Z14 P ++ A14 P
theorem hA14 (P : Params) : (A14 P).length + 1227 = 1353 := by kernel_rfl
noncomputable def A15 (P : Params) : List Obj := objsO P sp15 (stsO PG 93 6)
noncomputable def Z16 (P : Params) : List Obj := Z15 P ++ A15 P
theorem hA15 (P : Params) : (A15 P).length + 1353 = 1479 := by kernel_rfl
noncomputable def A16 (P : Params) : List Obj := objsO P sp16 (stsO PG 99 6)
noncomputable def Z17 (P : Params) : List Obj := Z16 P ++ A16 P
theorem hA16 (P : Params) : (A16 P).length + 1479 = 1605 := by kernel_rfl
noncomputable def A17 (P : Params) : List Obj := objsO P sp17 (stsO PG 105 6)
noncomputable def Z18 (P : Params) : List Obj := Z17 P ++ A17 P
theorem hA17 (P : Params) : (A17 P).length + 1605 = 1731 := by kernel_rfl
noncomputable def A18 (P : Params) : List Obj := objsO P sp18 (stsO PG 111 4)
noncomputable def Z19 (P : Params) : List Obj := Z18 P ++ A18 P
theorem hA18 (P : Params) : (A18 P).length + 1731 = 1815 := by kernel_rfl
noncomputable def A19 (P : Params) : List Obj := objsO P sp19 (stsO PG 115 11)
noncomputable def Z20 (P : Params) : List Obj := Z19 P ++ A19 P
theorem hA19 (P : Params) : (A19 P).length + 1815 = 1873 := by kernel_rfl
noncomputable def A20 (P : Params) : List Obj := objsO P sp20 (stsO PG 126 11)
noncomputable def Z21 (P : Params) : List Obj := Z20 P ++ A20 P
theorem hA20 (P : Params) : (A20 P).length + 1873 = 1939 := by kernel_rfl
noncomputable def A21 (P : Params) : List Obj := objsO P sp21 (stsO PG 137 13)
noncomputable def Z22 (P : Params) : List Obj := Z21 P ++ A21 P
theorem hA21 (P : Params) : (A21 P).length + 1939 = 1994 := by kernel_rfl
noncomputable def A22 (P : Params) : List Obj := objsO P sp22 (stsO PG 150 9)
noncomputable def Z23 (P : Params) : List Obj := Z22 P ++ A22 P
theorem hA22 (P : Params) : (A22 P).length + 1994 = 2044 := by kernel_rfl
noncomputable def A23 (P : Params) : List Obj := objsO P sp23 (stsO PG 159 1)
noncomputable def Z24 (P : Params) : List Obj := Z23 P ++ A23 P
theorem hA23 (P : Params) : (A23 P).length + 2044 = 2198 := by kernel_rfl
noncomputable def A24 (P : Params) : List Obj := objsO P sp24 (stsO PG 160 12)
noncomputable def Z25 (P : Params) : List Obj := Z24 P ++ A24 P
theorem hA24 (P : Params) : (A24 P).length + 2198 = 2257 := by kernel_rfl
noncomputable def A25 (P : Params) : List Obj := objsO P sp25 (stsO PG 172 13)
noncomputable def Z26 (P : Params) : List Obj := Z25 P ++ A25 P
theorem hA25 (P : Params) : (A25 P).length + 2257 = 2313 := by kernel_rfl
noncomputable def A26 (P : Params) : List Obj := objsO P sp26 (stsO PG 185 12)
noncomputable def Z27 (P : Params) : List Obj := Z26 P ++ A26 P
theorem hA26 (P : Params) : (A26 P).length + 2313 = 2373 := by kernel_rfl
noncomputable def A27 (P : Params) : List Obj := objsO P sp27 (stsO PG 197 11)
noncomputable def Z28 (P : Params) : List Obj := Z27 P ++ A27 P
theorem hA27 (P : Params) : (A27 P).length + 2373 = 2431 := by kernel_rfl
noncomputable def A28 (P : Params) : List Obj := objsO P sp28 (stsO PG 208 12)
noncomputable def Z29 (P : Params) : List Obj := Z28 P ++ A28 P
theorem hA28 (P : Params) : (A28 P).length + 2431 = 2489 := by kernel_rfl
noncomputable def A29 (P : Params) : List Obj := objsO P sp29 (stsO PG 220 11)
noncomputable def Z30 (P : Params) : List Obj := Z29 P ++ A29 P
theorem hA29 (P : Params) : (A29 P).length + 2489 = 2545 := by kernel_rfl
noncomputable def A30 (P : Params) : List Obj := objsO P sp30 (stsO PG 231 10)
noncomputable def Z31 (P : Params) : List Obj := Z30 P ++ A30 P
theorem hA30 (P : Params) : (A30 P).length + 2545 = 2602 := by kernel_rfl
noncomputable def A31 (P : Params) : List Obj := objsO P sp31 (stsO PG 241 10)
noncomputable def Z32 (P : Params) : List Obj := Z31 P ++ A31 P
theorem hA31 (P : Params) : (A31 P).length + 2602 = 2663 := by kernel_rfl
noncomputable def A32 (P : Params) : List Obj := objsO P sp32 (stsO PG 251 11)
noncomputable def Z33 (P : Params) : List Obj := Z32 P ++ A32 P
theorem hA32 (P : Params) : (A32 P).length + 2663 = 2733 := by kernel_rfl
noncomputable def A33 (P : Params) : List Obj := objsO P sp33 (stsO PG 262 11)
noncomputable def Z34 (P : Params) : List Obj := Z33 P ++ A33 P
theorem hA33 (P : Params) : (A33 P).length + 2733 = 2794 := by kernel_rfl
noncomputable def A34 (P : Params) : List Obj := objsO P sp34 (stsO PG 273 11)
noncomputable def Z35 (P : Params) : List Obj := Z34 P ++ A34 P
theorem hA34 (P : Params) : (A34 P).length + 2794 = 2852 := by kernel_rfl
noncomputable def A35 (P : Params) : List Obj := objsO P sp35 (stsO PG 284 11)
noncomputable def Z36 (P : Params) : List Obj := Z35 P ++ A35 P
theorem hA35 (P : Params) : (A35 P).length + 2852 = 2916 := by kernel_rfl
noncomputable def A36 (P : Params) : List Obj := objsO P sp36 (stsO PG 295 12)
noncomputable def Z37 (P : Params) : List Obj := Z36 P ++ A36 P
theorem hA36 (P : Params) : (A36 P).length + 2916 = 2974 := by kernel_rfl
noncomputable def A37 (P : Params) : List Obj := objsO P sp37 (stsO PG 307 11)
noncomputable def Z38 (P : Params) : List Obj := Z37 P ++ A37 P
theorem hA37 (P : Params) : (A37 P).length + 2974 = 3039 := by kernel_rfl
noncomputable def A38 (P : Params) : List Obj := objsO P sp38 (stsO PG 318 13)
noncomputable def Z39 (P : Params) : List Obj := Z38 P ++ A38 P
theorem hA38 (P : Params) : (A38 P).length + 3039 = 3097 := by kernel_rfl
noncomputable def A39 (P : Params) : List Obj := objsO P sp39 (stsO PG 331 12)
noncomputable def Z40 (P : Params) : List Obj := Z39 P ++ A39 P
theorem hA39 (P : Params) : (A39 P).length + 3097 = 3157 := by kernel_rfl
noncomputable def A40 (P : Params) : List Obj := objsO P sp40 (stsO PG 343 11)
noncomputable def Z41 (P : Params) : List Obj := Z40 P ++ A40 P
theorem hA40 (P : Params) : (A40 P).length + 3157 = 3216 := by kernel_rfl
noncomputable def A41 (P : Params) : List Obj := objsO P sp41 (stsO PG 354 11)
noncomputable def Z42 (P : Params) : List Obj := Z41 P ++ A41 P
theorem hA41 (P : Params) : (A41 P).length + 3216 = 3282 := by kernel_rfl
noncomputable def A42 (P : Params) : List Obj := objsO P sp42 (stsO PG 365 9)
noncomputable def Z43 (P : Params) : List Obj := Z42 P ++ A42 P
theorem hA42 (P : Params) : (A42 P).length + 3282 = 3343 := by kernel_rfl
noncomputable def A43 (P : Params) : List Obj := objsO P sp43 (stsO PG 374 10)
noncomputable def Z44 (P : Params) : List Obj := Z43 P ++ A43 P
theorem hA43 (P : Params) : (A43 P).length + 3343 = 3402 := by kernel_rfl
noncomputable def A44 (P : Params) : List Obj := objsO P sp44 (stsO PG 384 12)
noncomputable def Z45 (P : Params) : List Obj := Z44 P ++ A44 P
theorem hA44 (P : Params) : (A44 P).length + 3402 = 3459 := by kernel_rfl
noncomputable def A45 (P : Params) : List Obj := objsO P sp45 (stsO PG 396 12)
noncomputable def Z46 (P : Params) : List Obj := Z45 P ++ A45 P
theorem hA45 (P : Params) : (A45 P).length + 3459 = 3521 := by kernel_rfl
noncomputable def A46 (P : Params) : List Obj := objsO P sp46 (stsO PG 408 10)
noncomputable def Z47 (P : Params) : List Obj := Z46 P ++ A46 P
theorem hA46 (P : Params) : (A46 P).length + 3521 = 3578 := by kernel_rfl
noncomputable def A47 (P : Params) : List Obj := objsO P sp47 (stsO PG 418 11)
noncomputable def Z48 (P : Params) : List Obj := Z47 P ++ A47 P
theorem hA47 (P : Params) : (A47 P).length + 3578 = 3635 := by kernel_rfl
noncomputable def A48 (P : Params) : List Obj := objsO P sp48 (stsO PG 429 10)
noncomputable def Z49 (P : Params) : List Obj := Z48 P ++ A48 P
theorem hA48 (P : Params) : (A48 P).length + 3635 = 3699 := by kernel_rfl
noncomputable def A49 (P : Params) : List Obj := objsO P sp49 (stsO PG 439 12)
noncomputable def Z50 (P : Params) : List Obj := Z49 P ++ A49 P
theorem hA49 (P : Params) : (A49 P).length + 3699 = 3752 := by kernel_rfl
noncomputable def A50 (P : Params) : List Obj := objsO P sp50 (stsO PG 451 11)
noncomputable def Z51 (P : Params) : List Obj := Z50 P ++ A50 P
theorem hA50 (P : Params) : (A50 P).length + 3752 = 3809 := by kernel_rfl
noncomputable def A51 (P : Params) : List Obj := objsO P sp51 (stsO PG 462 13)
noncomputable def Z52 (P : Params) : List Obj := Z51 P ++ A51 P
theorem hA51 (P : Params) : (A51 P).length + 3809 = 3862 := by kernel_rfl
noncomputable def A52 (P : Params) : List Obj := objsO P sp52 (stsO PG 475 11)
noncomputable def Z53 (P : Params) : List Obj := Z52 P ++ A52 P
theorem hA52 (P : Params) : (A52 P).length + 3862 = 3926 := by kernel_rfl
noncomputable def A53 (P : Params) : List Obj := objsO P sp53 (stsO PG 486 11)
noncomputable def Z54 (P : Params) : List Obj := Z53 P ++ A53 P
theorem hA53 (P : Params) : (A53 P).length + 3926 = 3990 := by kernel_rfl
noncomputable def A54 (P : Params) : List Obj := objsO P sp54 (stsO PG 497 11)
noncomputable def Z55 (P : Params) : List Obj := Z54 P ++ A54 P
theorem hA54 (P : Params) : (A54 P).length + 3990 = 4052 := by kernel_rfl
noncomputable def A55 (P : Params) : List Obj := objsO P sp55 (stsO PG 508 12)
noncomputable def Z56 (P : Params) : List Obj := Z55 P ++ A55 P
theorem hA55 (P : Params) : (A55 P).length + 4052 = 4109 := by kernel_rfl
noncomputable def A56 (P : Params) : List Obj := objsO P sp56 (stsO PG 520 12)
noncomputable def Z57 (P : Params) : List Obj := Z56 P ++ A56 P
theorem hA56 (P : Params) : (A56 P).length + 4109 = 4170 := by kernel_rfl
noncomputable def A57 (P : Params) : List Obj := objsO P sp57 (stsO PG 532 11)
noncomputable def Z58 (P : Params) : List Obj := Z57 P ++ A57 P
theorem hA57 (P : Params) : (A57 P).length + 4170 = 4228 := by kernel_rfl
noncomputable def A58 (P : Params) : List Obj := objsO P sp58 (stsO PG 543 10)
noncomputable def Z59 (P : Params) : List Obj := Z58 P ++ A58 P
theorem hA58 (P : Params) : (A58 P).length + 4228 = 4287 := by kernel_rfl
noncomputable def A59 (P : Params) : List Obj := objsO P sp59 (stsO PG 553 12)
noncomputable def Z60 (P : Params) : List Obj := Z59 P ++ A59 P
theorem hA59 (P : Params) : (A59 P).length + 4287 = 4345 := by kernel_rfl
noncomputable def A60 (P : Params) : List Obj := objsO P sp60 (stsO PG 565 11)
noncomputable def Z61 (P : Params) : List Obj := Z60 P ++ A60 P
theorem hA60 (P : Params) : (A60 P).length + 4345 = 4409 := by kernel_rfl
noncomputable def A61 (P : Params) : List Obj := objsO P sp61 (stsO PG 576 10)
noncomputable def Z62 (P : Params) : List Obj := Z61 P ++ A61 P
theorem hA61 (P : Params) : (A61 P).length + 4409 = 4477 := by kernel_rfl
noncomputable def A62 (P : Params) : List Obj := objsO P sp62 (stsO PG 586 4)
noncomputable def Z63 (P : Params) : List Obj := Z62 P ++ A62 P
theorem hA62 (P : Params) : (A62 P).length + 4477 = 4503 := by kernel_rfl
theorem len0 (P : Params) : (Z0 P).length = 54 := by kernel_rfl
theorem len1 (P : Params) : (Z1 P).length = 74 := by rw [show Z1 P = Z0 P ++ A0 P from rfl, List.length_append, len0, Nat.add_comm]; exact hA0 P
theorem lo0 (P : Params) : lowB 54 (hot0 P) (hot0b P) = true := by kernel_rfl
theorem len2 (P : Params) : (Z2 P).length = 200 := by rw [show Z2 P = Z1 P ++ A1 P from rfl, List.length_append, len1, Nat.add_comm]; exact hA1 P
theorem lo1 (P : Params) : lowB 74 (hot1 P) (hot2 P) = true := by kernel_rfl
theorem len3 (P : Params) : (Z3 P).length = 326 := by rw [show Z3 P = Z2 P ++ A2 P from rfl, List.length_append, len2, Nat.add_comm]; exact hA2 P
theorem lo2 (P : Params) : lowB 200 (hot2 P) (hot3 P) = true := by kernel_rfl
theorem len4 (P : Params) : (Z4 P).length = 452 := by rw [show Z4 P = Z3 P ++ A3 P from rfl, List.length_append, len3, Nat.add_comm]; exact hA3 P
theorem lo3 (P : Params) : lowB 326 (hot3 P) (hot4 P) = true := by kernel_rfl
theorem len5 (P : Params) : (Z5 P).length = 578 := by rw [show Z5 P = Z4 P ++ A4 P from rfl, List.length_append, len4, Nat.add_comm]; exact hA4 P
theorem lo4 (P : Params) : lowB 452 (hot4 P) (hot5 P) = true := by kernel_rfl
theorem len6 (P : Params) : (Z6 P).length = 704 := by rw [show Z6 P = Z5 P ++ A5 P from rfl, List.length_append, len5, Nat.add_comm]; exact hA5 P
theorem lo5 (P : Params) : lowB 578 (hot5 P) (hot6 P) = true := by kernel_rfl
theorem len7 (P : Params) : (Z7 P).length = 725 := by rw [show Z7 P = Z6 P ++ A6 P from rfl, List.length_append, len6, Nat.add_comm]; exact hA6 P
theorem lo6 (P : Params) : lowB 704 (hot6 P) (hot7 P) = true := by kernel_rfl
theorem len8 (P : Params) : (Z8 P).length = 782 := by rw [show Z8 P = Z7 P ++ A7 P from rfl, List.length_append, len7, Nat.add_comm]; exact hA7 P
theorem lo7 (P : Params) : lowB 725 (hot7 P) (hot8 P) = true := by kernel_rfl
theorem len9 (P : Params) : (Z9 P).length = 822 := by rw [show Z9 P = Z8 P ++ A8 P from rfl, List.length_append, len8, Nat.add_comm]; exact hA8 P
theorem lo8 (P : Params) : lowB 782 (hot8 P) (hot9 P) = true := by kernel_rfl
theorem len10 (P : Params) : (Z10 P).length = 889 := by rw [show Z10 P = Z9 P ++ A9 P from rfl, List.length_append, len9, Nat.add_comm]; exact hA9 P
theorem lo9 (P : Params) : lowB 822 (hot9 P) (hot10 P) = true := by kernel_rfl
theorem len11 (P : Params) : (Z11 P).length = 949 := by rw [show Z11 P = Z10 P ++ A10 P from rfl, List.length_append, len10, Nat.add_comm]; exact hA10 P
theorem lo10 (P : Params) : lowB 889 (hot10 P) (hot11 P) = true := by kernel_rfl
theorem len12 (P : Params) : (Z12 P).length = 975 := by rw [show Z12 P = Z11 P ++ A11 P from rfl, List.length_append, len11, Nat.add_comm]; exact hA11 P
theorem lo11 (P : Params) : lowB 949 (hot11 P) (hot12 P) = true := by kernel_rfl
theorem len13 (P : Params) : (Z13 P).length = 1101 := by rw [show Z13 P = Z12 P ++ A12 P from rfl, List.length_append, len12, Nat.add_comm]; exact hA12 P
theorem lo12 (P : Params) : lowB 975 (hot12 P) (hot13 P) = true := by kernel_rfl
theorem len14 (P : Params) : (Z14 P).length = 1227 := by rw [show Z14 P = Z13 P ++ A13 P from rfl, List.length_append, len13, Nat.add_comm]; exact hA13 P
theorem lo13 (P : Params) : lowB 1101 (hot13 P) (hot14 P) = true := by kernel_rfl
theorem len15 (P : Params) : (Z15 P).length = 1353 := by rw [show Z15 P = Z14 P ++ A14 P from rfl, List.length_append, len14, Nat.add_comm]; exact hA14 P
theorem lo14 (P : Params) : lowB 1227 (hot14 P) (hot15 P) = true := by kernel_rfl
theorem len16 (P : Params) : (Z16 P).length = 1479 := by rw [show Z16 P = Z15 P ++ A15 P from rfl, List.length_append, len15, Nat.add_comm]; exact hA15 P
theorem lo15 (P : Params) : lowB 1353 (hot15 P) (hot16 P) = true := by kernel_rfl
theorem len17 (P : Params) : (Z17 P).length = 1605 := by rw [show Z17 P = Z16 P ++ A16 P from rfl, List.length_append, len16, Nat.add_comm]; exact hA16 P
theorem lo16 (P : Params) : lowB 1479 (hot16 P) (hot17 P) = true := by kernel_rfl
theorem len18 (P : Params) : (Z18 P).length = 1731 := by rw [show Z18 P = Z17 P ++ A17 P from rfl, List.length_append, len17, Nat.add_comm]; exact hA17 P
theorem lo17 (P : Params) : lowB 1605 (hot17 P) (hot18 P) = true := by kernel_rfl
theorem len19 (P : Params) : (Z19 P).length = 1815 := by rw [show Z19 P = Z18 P ++ A18 P from rfl, List.length_append, len18, Nat.add_comm]; exact hA18 P
theorem lo18 (P : Params) : lowB 1731 (hot18 P) (hot19 P) = true := by kernel_rfl
theorem len20 (P : Params) : (Z20 P).length = 1873 := by rw [show Z20 P = Z19 P ++ A19 P from rfl, List.length_append, len19, Nat.add_comm]; exact hA19 P
theorem lo19 (P : Params) : lowB 1815 (hot19 P) (hot20 P) = true := by kernel_rfl
theorem len21 (P : Params) : (Z21 P).length = 1939 := by rw [show Z21 P = Z20 P ++ A20 P from rfl, List.length_append, len20, Nat.add_comm]; exact hA20 P
theorem lo20 (P : Params) : lowB 1873 (hot20 P) (hot21 P) = true := by kernel_rfl
theorem len22 (P : Params) : (Z22 P).length = 1994 := by rw [show Z22 P = Z21 P ++ A21 P from rfl, List.length_append, len21, Nat.add_comm]; exact hA21 P
theorem lo21 (P : Params) : lowB 1939 (hot21 P) (hot22 P) = true := by kernel_rfl
theorem len23 (P : Params) : (Z23 P).length = 2044 := by rw [show Z23 P = Z22 P ++ A22 P from rfl, List.length_append, len22, Nat.add_comm]; exact hA22 P
theorem lo22 (P : Params) : lowB 1994 (hot22 P) (hot23 P) = true := by kernel_rfl
theorem len24 (P : Params) : (Z24 P).length = 2198 := by rw [show Z24 P = Z23 P ++ A23 P from rfl, List.length_append, len23, Nat.add_comm]; exact hA23 P
theorem lo23 (P : Params) : lowB 2044 (hot23 P) (hot24 P) = true := by kernel_rfl
theorem len25 (P : Params) : (Z25 P).length = 2257 := by rw [show Z25 P = Z24 P ++ A24 P from rfl, List.length_append, len24, Nat.add_comm]; exact hA24 P
theorem lo24 (P : Params) : lowB 2198 (hot24 P) (hot25 P) = true := by kernel_rfl
theorem len26 (P : Params) : (Z26 P).length = 2313 := by rw [show Z26 P = Z25 P ++ A25 P from rfl, List.length_append, len25, Nat.add_comm]; exact hA25 P
theorem lo25 (P : Params) : lowB 2257 (hot25 P) (hot26 P) = true := by kernel_rfl
theorem len27 (P : Params) : (Z27 P).length = 2373 := by rw [show Z27 P = Z26 P ++ A26 P from rfl, List.length_append, len26, Nat.add_comm]; exact hA26 P
theorem lo26 (P : Params) : lowB 2313 (hot26 P) (hot27 P) = true := by kernel_rfl
theorem len28 (P : Params) : (Z28 P).length = 2431 := by rw [show Z28 P = Z27 P ++ A27 P from rfl, List.length_append, len27, Nat.add_comm]; exact hA27 P
theorem lo27 (P : Params) : lowB 2373 (hot27 P) (hot28 P) = true := by kernel_rfl
theorem len29 (P : Params) : (Z29 P).length = 2489 := by rw [show Z29 P = Z28 P ++ A28 P from rfl, List.length_append, len28, Nat.add_comm]; exact hA28 P
theorem lo28 (P : Params) : lowB 2431 (hot28 P) (hot29 P) = true := by kernel_rfl
theorem len30 (P : Params) : (Z30 P).length = 2545 := by rw [show Z30 P = Z29 P ++ A29 P from rfl, List.length_append, len29, Nat.add_comm]; exact hA29 P
theorem lo29 (P : Params) : lowB 2489 (hot29 P) (hot30 P) = true := by kernel_rfl
theorem len31 (P : Params) : (Z31 P).length = 2602 := by rw [show Z31 P = Z30 P ++ A30 P from rfl, List.length_append, len30, Nat.add_comm]; exact hA30 P
theorem lo30 (P : Params) : lowB 2545 (hot30 P) (hot31 P) = true := by kernel_rfl
theorem len32 (P : Params) : (Z32 P).length = 2663 := by rw [show Z32 P = Z31 P ++ A31 P from rfl, List.length_append, len31, Nat.add_comm]; exact hA31 P
theorem lo31 (P : Params) : lowB 2602 (hot31 P) (hot32 P) = true := by kernel_rfl
theorem len33 (P : Params) : (Z33 P).length = 2733 := by rw [show Z33 P = Z32 P ++ A32 P from rfl, List.length_append, len32, Nat.add_comm]; exact hA32 P
theorem lo32 (P : Params) : lowB 2663 (hot32 P) (hot33 P) = true := by kernel_rfl
theorem len34 (P : Params) : (Z34 P).length = 2794 := by rw [show Z34 P = Z33 P ++ A33 P from rfl, List.length_append, len33, Nat.add_comm]; exact hA33 P
theorem lo33 (P : Params) : lowB 2733 (hot33 P) (hot34 P) = true := by kernel_rfl
theorem len35 (P : Params) : (Z35 P).length = 2852 := by rw [show Z35 P = Z34 P ++ A34 P from rfl, List.length_append, len34, Nat.add_comm]; exact hA34 P
theorem lo34 (P : Params) : lowB 2794 (hot34 P) (hot35 P) = true := by kernel_rfl
theorem len36 (P : Params) : (Z36 P).length = 2916 := by rw [show Z36 P = Z35 P ++ A35 P from rfl, List.length_append, len35, Nat.add_comm]; exact hA35 P
theorem lo35 (P : Params) : lowB 2852 (hot35 P) (hot36 P) = true := by kernel_rfl
theorem len37 (P : Params) : (Z37 P).length = 2974 := by rw [show Z37 P = Z36 P ++ A36 P from rfl, List.length_append, len36, Nat.add_comm]; exact hA36 P
theorem lo36 (P : Params) : lowB 2916 (hot36 P) (hot37 P) = true := by kernel_rfl
theorem len38 (P : Params) : (Z38 P).length = 3039 := by rw [show Z38 P = Z37 P ++ A37 P from rfl, List.length_append, len37, Nat.add_comm]; exact hA37 P
theorem lo37 (P : Params) : lowB 2974 (hot37 P) (hot38 P) = true := by kernel_rfl
theorem len39 (P : Params) : (Z39 P).length = 3097 := by rw [show Z39 P = Z38 P ++ A38 P from rfl, List.length_append, len38, Nat.add_comm]; exact hA38 P
theorem lo38 (P : Params) : lowB 3039 (hot38 P) (hot39 P) = true := by kernel_rfl
theorem len40 (P : Params) : (Z40 P).length = 3157 := by rw [show Z40 P = Z39 P ++ A39 P from rfl, List.length_append, len39, Nat.add_comm]; exact hA39 P
theorem lo39 (P : Params) : lowB 3097 (hot39 P) (hot40 P) = true := by kernel_rfl
theorem len41 (P : Params) : (Z41 P).length = 3216 := by rw [show Z41 P = Z40 P ++ A40 P from rfl, List.length_append, len40, Nat.add_comm]; exact hA40 P
theorem lo40 (P : Params) : lowB 3157 (hot40 P) (hot41 P) = true := by kernel_rfl
theorem len42 (P : Params) : (Z42 P).length = 3282 := by rw [show Z42 P = Z41 P ++ A41 P from rfl, List.length_append, len41, Nat.add_comm]; exact hA41 P
theorem lo41 (P : Params) : lowB 3216 (hot41 P) (hot42 P) = true := by kernel_rfl
theorem len43 (P : Params) : (Z43 P).length = 3343 := by rw [show Z43 P = Z42 P ++ A42 P from rfl, List.length_append, len42, Nat.add_comm]; exact hA42 P
theorem lo42 (P : Params) : lowB 3282 (hot42 P) (hot43 P) = true := by kernel_rfl
theorem len44 (P : Params) : (Z44 P).length = 3402 := by rw [show Z44 P = Z43 P ++ A43 P from rfl, List.length_append, len43, Nat.add_comm]; exact hA43 P
theorem lo43 (P : Params) : lowB 3343 (hot43 P) (hot44 P) = true := by kernel_rfl
theorem len45 (P : Params) : (Z45 P).length = 3459 := by rw [show Z45 P = Z44 P ++ A44 P from rfl, List.length_append, len44, Nat.add_comm]; exact hA44 P
theorem lo44 (P : Params) : lowB 3402 (hot44 P) (hot45 P) = true := by kernel_rfl
theorem len46 (P : Params) : (Z46 P).length = 3521 := by rw [show Z46 P = Z45 P ++ A45 P from rfl, List.length_append, len45, Nat.add_comm]; exact hA45 P
theorem lo45 (P : Params) : lowB 3459 (hot45 P) (hot46 P) = true := by kernel_rfl
theorem len47 (P : Params) : (Z47 P).length = 3578 := by rw [show Z47 P = Z46 P ++ A46 P from rfl, List.length_append, len46, Nat.add_comm]; exact hA46 P
theorem lo46 (P : Params) : lowB 3521 (hot46 P) (hot47 P) = true := by kernel_rfl
theorem len48 (P : Params) : (Z48 P).length = 3635 := by rw [show Z48 P = Z47 P ++ A47 P from rfl, List.length_append, len47, Nat.add_comm]; exact hA47 P
theorem lo47 (P : Params) : lowB 3578 (hot47 P) (hot48 P) = true := by kernel_rfl
theorem len49 (P : Params) : (Z49 P).length = 3699 := by rw [show Z49 P = Z48 P ++ A48 P from rfl, List.length_append, len48, Nat.add_comm]; exact hA48 P
theorem lo48 (P : Params) : lowB 3635 (hot48 P) (hot49 P) = true := by kernel_rfl
theorem len50 (P : Params) : (Z50 P).length = 3752 := by rw [show Z50 P = Z49 P ++ A49 P from rfl, List.length_append, len49, Nat.add_comm]; exact hA49 P
theorem lo49 (P : Params) : lowB 3699 (hot49 P) (hot50 P) = true := by kernel_rfl
theorem len51 (P : Params) : (Z51 P).length = 3809 := by rw [show Z51 P = Z50 P ++ A50 P from rfl, List.length_append, len50, Nat.add_comm]; exact hA50 P
theorem lo50 (P : Params) : lowB 3752 (hot50 P) (hot51 P) = true := by kernel_rfl
theorem len52 (P : Params) : (Z52 P).length = 3862 := by rw [show Z52 P = Z51 P ++ A51 P from rfl, List.length_append, len51, Nat.add_comm]; exact hA51 P
theorem lo51 (P : Params) : lowB 3809 (hot51 P) (hot52 P) = true := by kernel_rfl
theorem len53 (P : Params) : (Z53 P).length = 3926 := by rw [show Z53 P = Z52 P ++ A52 P from rfl, List.length_append, len52, Nat.add_comm]; exact hA52 P
theorem lo52 (P : Params) : lowB 3862 (hot52 P) (hot53 P) = true := by kernel_rfl
theorem len54 (P : Params) : (Z54 P).length = 3990 := by rw [show Z54 P = Z53 P ++ A53 P from rfl, List.length_append, len53, Nat.add_comm]; exact hA53 P
theorem lo53 (P : Params) : lowB 3926 (hot53 P) (hot54 P) = true := by kernel_rfl
theorem len55 (P : Params) : (Z55 P).length = 4052 := by rw [show Z55 P = Z54 P ++ A54 P from rfl, List.length_append, len54, Nat.add_comm]; exact hA54 P
theorem lo54 (P : Params) : lowB 3990 (hot54 P) (hot55 P) = true := by kernel_rfl
theorem len56 (P : Params) : (Z56 P).length = 4109 := by rw [show Z56 P = Z55 P ++ A55 P from rfl, List.length_append, len55, Nat.add_comm]; exact hA55 P
theorem lo55 (P : Params) : lowB 4052 (hot55 P) (hot56 P) = true := by kernel_rfl
theorem len57 (P : Params) : (Z57 P).length = 4170 := by rw [show Z57 P = Z56 P ++ A56 P from rfl, List.length_append, len56, Nat.add_comm]; exact hA56 P
theorem lo56 (P : Params) : lowB 4109 (hot56 P) (hot57 P) = true := by kernel_rfl
theorem len58 (P : Params) : (Z58 P).length = 4228 := by rw [show Z58 P = Z57 P ++ A57 P from rfl, List.length_append, len57, Nat.add_comm]; exact hA57 P
theorem lo57 (P : Params) : lowB 4170 (hot57 P) (hot58 P) = true := by kernel_rfl
theorem len59 (P : Params) : (Z59 P).length = 4287 := by rw [show Z59 P = Z58 P ++ A58 P from rfl, List.length_append, len58, Nat.add_comm]; exact hA58 P
theorem lo58 (P : Params) : lowB 4228 (hot58 P) (hot59 P) = true := by kernel_rfl
theorem len60 (P : Params) : (Z60 P).length = 4345 := by rw [show Z60 P = Z59 P ++ A59 P from rfl, List.length_append, len59, Nat.add_comm]; exact hA59 P
theorem lo59 (P : Params) : lowB 4287 (hot59 P) (hot60 P) = true := by kernel_rfl
theorem len61 (P : Params) : (Z61 P).length = 4409 := by rw [show Z61 P = Z60 P ++ A60 P from rfl, List.length_append, len60, Nat.add_comm]; exact hA60 P
theorem lo60 (P : Params) : lowB 4345 (hot60 P) (hot61 P) = true := by kernel_rfl
theorem len62 (P : Params) : (Z62 P).length = 4477 := by rw [show Z62 P = Z61 P ++ A61 P from rfl, List.length_append, len61, Nat.add_comm]; exact hA61 P
theorem lo61 (P : Params) : lowB 4409 (hot61 P) (hot62 P) = true := by kernel_rfl
theorem len63 (P : Params) : (Z63 P).length = 4503 := by rw [show Z63 P = Z62 P ++ A62 P from rfl, List.length_append, len62, Nat.add_comm]; exact hA62 P
theorem lo62 (P : Params) : lowB 4477 (hot62 P) (hot63 P) = true := by kernel_rfl
noncomputable def SE (w : World) (os : OsState) : Shared := ⟨heapOf (hot63 w.params) (Z63 w.params) life0, #[], drawn0, 6665, os⟩
theorem dropE : (behindTheImports PG).drop 590 = [] := by kernel_rfl
theorem go63 (w : World) (os : OsState) : topRun treeTable PG w 50 (some (.ref 6)) 2 ⟨heapOf (hot63 w.params) (Z63 w.params) life0, #[], drawn0, 6665, os⟩ (restOf ((behindTheImports PG).drop 590) (envM PG) (cdM PG) ⟨3290, 0, 3307, 29⟩ [topFrame ps0]) = some (SE w os) := by
  rw [dropE]
  exact fin w _ _ os _ _
theorem go62 (w : World) (os : OsState) : topRun treeTable PG w 50 (some (.ref 6)) 131 ⟨heapOf (hot62 w.params) (Z62 w.params) life0, #[], drawn0, 6623, os⟩ (restOf ((behindTheImports PG).drop 586) (envM PG) (cdM PG) ⟨3134, 0, 3184, 21⟩ [topFrame ps0]) = some (SE w os) := glue (N := 129) (M := 2) (ss := sp62) (run62 w os) (len62 w.params) (hA62 w.params) (lo62 w.params) (go63 w os)
theorem go61 (w : World) (os : OsState) : topRun treeTable PG w 50 (some (.ref 6)) 430 ⟨heapOf (hot61 w.params) (Z61 w.params) life0, #[], drawn0, 6543, os⟩ (restOf ((behindTheImports PG).drop 576) (envM PG) (cdM PG) ⟨2938, 0, 2949, 101⟩ [topFrame ps0]) = some (SE w os) := glue (N := 299) (M := 131) (ss := sp61) (run61 w os) (len61 w.params) (hA61 w.params) (lo61 w.params) (go62 w os)
theorem go60 (w : World) (os : OsState) : topRun treeTable PG w 50 (some (.ref 6)) 748 ⟨heapOf (hot60 w.params) (Z60 w.params) life0, #[], drawn0, 6447, os⟩ (restOf ((behindTheImports PG).drop 565) (envM PG) (cdM PG) ⟨2878, 0, 2878, 8⟩ [topFrame ps0]) = some (SE w os) := glue (N := 318) (M := 430) (ss := sp60) (run60 w os) (len60 w.params) (hA60 w.params) (lo60 w.params) (go61 w os)
theorem go59 (w : World) (os : OsState) : topRun treeTable PG w 50 (some (.ref 6)) 1059 ⟨heapOf (hot59 w.params) (Z59 w.params) life0, #[], drawn0, 6359, os⟩ (restOf ((behindTheImports PG).drop 553) (envM PG) (cdM PG) ⟨2797, 0, 2798, 91⟩ [topFrame ps0]) = some (SE w os) := glue (N := 311) (M := 748) (ss := sp59) (run59 w os) (len59 w.params) (hA59 w.params) (lo59 w.params) (go60 w os)
theorem go58 (w : World) (os : OsState) : topRun treeTable PG w 50 (some (.ref 6)) 1362 ⟨heapOf (hot58 w.params) (Z58 w.params) life0, #[], drawn0, 6258, os⟩ (restOf ((behindTheImports PG).drop 543) (envM PG) (cdM PG) ⟨2747, 0, 2754, 103⟩ [topFrame ps0]) = some (SE w os) := glue (N := 303) (M := 1059) (ss := sp58) (run58 w os) (len58 w.params) (hA58 w.params) (lo58 w.params) (go59 w os)
theorem go57 (w : World) (os : OsState) : topRun treeTable PG w 50 (some (.ref 6)) 1675 ⟨heapOf (hot57 w.params) (Z57 w.params) life0, #[], drawn0, 6161, os⟩ (restOf ((behindTheImports PG).drop 532) (envM PG) (cdM PG) ⟨2654, 0, 2665, 75⟩ [topFrame ps0]) = some (SE w os) := glue (N := 313) (M := 1362) (ss := sp57) (run57 w os) (len57 w.params) (hA57 w.params) (lo57 w.params) (go58 w os)
theorem go56 (w : World) (os : OsState) : topRun treeTable PG w 50 (some (.ref 6)) 1995 ⟨heapOf (hot56 w.params) (Z56 w.params) life0, #[], drawn0, 6075, os⟩ (restOf ((behindTheImports PG).drop 520) (envM PG) (cdM PG) ⟨2589, 0, 2592, 85⟩ [topFrame ps0]) = some (SE w os) := glue (N := 320) (M := 1675) (ss := sp56) (run56 w os) (len56 w.params) (hA56 w.params) (lo56 w.params) (go57 w os)
theorem go55 (w : World) (os : OsState) : topRun treeTable PG w 50 (some (.ref 6)) 2301 ⟨heapOf (hot55 w.params) (Z55 w.params) life0, #[], drawn0, 5999, os⟩ (restOf ((behindTheImports PG).drop 508) (envM PG) (cdM PG) ⟨2528, 0, 2530, 75⟩ [topFrame ps0]) = some (SE w os) := glue (N := 306) (M := 1995) (ss := sp55) (run55 w os) (len55 w.params) (hA55 w.params) (lo55 w.params) (go56 w os)
theorem go54 (w : World) (os : OsState) : topRun treeTable PG w 50 (some (.ref 6)) 2619 ⟨heapOf (hot54 w.params) (Z54 w.params) life0, #[], drawn0, 5901, os⟩ (restOf ((behindTheImports PG).drop 497) (envM PG) (cdM PG) ⟨2482, 0, 2484, 37⟩ [topFrame ps0]) = some (SE w os) := glue (N := 318) (M := 2301) (ss := sp54) (run54 w os) (len54 w.params) (hA54 w.params) (lo54 w.params) (go55 w os)
theorem go53 (w : World) (os : OsState) : topRun treeTable PG w 50 (some (.ref 6)) 2933 ⟨heapOf (hot53 w.params) (Z53 w.params) life0, #[], drawn0, 5809, os⟩ (restOf ((behindTheImports PG).drop 486) (envM PG) (cdM PG) ⟨2428, 0, 2436, 51⟩ [topFrame ps0]) = some (SE w os) := glue (N := 314) (M := 2619) (ss := sp53) (run53 w os) (len53 w.params) (hA53 w.params) (lo53 w.params) (go54 w os)
theorem go52 (w : World) (os : OsState) : topRun treeTable PG w 50 (some (.ref 6)) 3254 ⟨heapOf (hot52 w.params) (Z52 w.params) life0, #[], drawn0, 5710, os⟩ (restOf ((behindTheImports PG).drop 475) (envM PG) (cdM PG) ⟨2379, 0, 2379, 8⟩ [topFrame ps0]) = some (SE w os) := glue (N := 321) (M := 2933) (ss := sp52) (run52 w os) (len52 w.params) (hA52 w.params) (lo52 w.params) (go53 w os)
theorem go51 (w : World) (os : OsState) : topRun treeTable PG w 50 (some (.ref 6)) 3548 ⟨heapOf (hot51 w.params) (Z51 w.params) life0, #[], drawn0, 5637, os⟩ (restOf ((behindTheImports PG).drop 462) (envM PG) (cdM PG) ⟨2331, 0, 2333, 102⟩ [topFrame ps0]) = some (SE w os) := glue (N := 294) (M := 3254) (ss := sp51) (run51 w os) (len51 w.params) (hA51 w.params) (lo51 w.params) (go52 w os)
theorem go50 (w : World) (os : OsState) : topRun treeTable PG w 50 (some (.ref 6)) 3853 ⟨heapOf (hot50 w.params) (Z50 w.params) life0, #[], drawn0, 5543, os⟩ (restOf ((behindTheImports PG).drop 451) (envM PG) (cdM PG) ⟨2294, 0, 2295, 97⟩ [topFrame ps0]) = some (SE w os) := glue (N := 305) (M := 3548) (ss := sp50) (run50 w os) (len50 w.params) (hA50 w.params) (lo50 w.params) (go51 w os)
theorem go49 (w : World) (os : OsState) : topRun treeTable PG w 50 (some (.ref 6)) 4148 ⟨heapOf (hot49 w.params) (Z49 w.params) life0, #[], drawn0, 5460, os⟩ (restOf ((behindTheImports PG).drop 439) (envM PG) (cdM PG) ⟨2229, 0, 2231, 87⟩ [topFrame ps0]) = some (SE w os) := glue (N := 295) (M := 3853) (ss := sp49) (run49 w os) (len49 w.params) (hA49 w.params) (lo49 w.params) (go50 w os)
theorem go48 (w : World) (os : OsState) : topRun treeTable PG w 50 (some (.ref 6)) 4452 ⟨heapOf (hot48 w.params) (Z48 w.params) life0, #[], drawn0, 5371, os⟩ (restOf ((behindTheImports PG).drop 429) (envM PG) (cdM PG) ⟨2181, 0, 2183, 48⟩ [topFrame ps0]) = some (SE w os) := glue (N := 304) (M := 4148) (ss := sp48) (run48 w os) (len48 w.params) (hA48 w.params) (lo48 w.params) (go49 w os)
theorem go47 (w : World) (os : OsState) : topRun treeTable PG w 50 (some (.ref 6)) 4748 ⟨heapOf (hot47 w.params) (Z47 w.params) life0, #[], drawn0, 5284, os⟩ (restOf ((behindTheImports PG).drop 418) (envM PG) (cdM PG) ⟨2120, 0, 2132, 39⟩ [topFrame ps0]) = some (SE w os) := glue (N := 296) (M := 4452) (ss := sp47) (run47 w os) (len47 w.params) (hA47 w.params) (lo47 w.params) (go48 w os)
theorem go46 (w : World) (os : OsState) : topRun treeTable PG w 50 (some (.ref 6)) 5045 ⟨heapOf (hot46 w.params) (Z46 w.params) life0, #[], drawn0, 5187, os⟩ (restOf ((behindTheImports PG).drop 408) (envM PG) (cdM PG) ⟨2047, 0, 2051, 86⟩ [topFrame ps0]) = some (SE w os) := glue (N := 297) (M := 4748) (ss := sp46) (run46 w os) (len46 w.params) (hA46 w.params) (lo46 w.params) (go47 w os)
theorem go45 (w : World) (os : OsState) : topRun treeTable PG w 50 (some (.ref 6)) 5360 ⟨heapOf (hot45 w.params) (Z45 w.params) life0, #[], drawn0, 5103, os⟩ (restOf ((behindTheImports PG).drop 396) (envM PG) (cdM PG) ⟨1999, 0, 2003, 52⟩ [topFrame ps0]) = some (SE w os) := glue (N := 315) (M := 5045) (ss := sp45) (run45 w os) (len45 w.params) (hA45 w.params) (lo45 w.params) (go46 w os)
theorem go44 (w : World) (os : OsState) : topRun treeTable PG w 50 (some (.ref 6)) 5660 ⟨heapOf (hot44 w.params) (Z44 w.params) life0, #[], drawn0, 5021, os⟩ (restOf ((behindTheImports PG).drop 384) (envM PG) (cdM PG) ⟨1956, 0, 1958, 61⟩ [topFrame ps0]) = some (SE w os) := glue (N := 300) (M := 5360) (ss := sp44) (run44 w os) (len44 w.params) (hA44 w.params) (lo44 w.params) (go45 w os)
theorem go43 (w : World) (os : OsState) : topRun treeTable PG w 50 (some (.ref 6)) 5954 ⟨heapOf (hot43 w.params) (Z43 w.params) life0, #[], drawn0, 4929, os⟩ (restOf ((behindTheImports PG).drop 374) (envM PG) (cdM PG) ⟨1887, 0, 1903, 23⟩ [topFrame ps0]) = some (SE w os) := glue (N := 294) (M := 5660) (ss := sp43) (run43 w os) (len43 w.params) (hA43 w.params) (lo43 w.params) (go44 w os)
theorem go42 (w : World) (os : OsState) : topRun treeTable PG w 50 (some (.ref 6)) 6260 ⟨heapOf (hot42 w.params) (Z42 w.params) life0, #[], drawn0, 4820, os⟩ (restOf ((behindTheImports PG).drop 365) (envM PG) (cdM PG) ⟨1841, 0, 1842, 54⟩ [topFrame ps0]) = some (SE w os) := glue (N := 306) (M := 5954) (ss := sp42) (run42 w os) (len42 w.params) (hA42 w.params) (lo42 w.params) (go43 w os)
theorem go41 (w : World) (os : OsState) : topRun treeTable PG w 50 (some (.ref 6)) 6572 ⟨heapOf (hot41 w.params) (Z41 w.params) life0, #[], drawn0, 4732, os⟩ (restOf ((behindTheImports PG).drop 354) (envM PG) (cdM PG) ⟨1784, 0, 1788, 36⟩ [topFrame ps0]) = some (SE w os) := glue (N := 312) (M := 6260) (ss := sp41) (run41 w os) (len41 w.params) (hA41 w.params) (lo41 w.params) (go42 w os)
theorem go40 (w : World) (os : OsState) : topRun treeTable PG w 50 (some (.ref 6)) 6866 ⟨heapOf (hot40 w.params) (Z40 w.params) life0, #[], drawn0, 4647, os⟩ (restOf ((behindTheImports PG).drop 343) (envM PG) (cdM PG) ⟨1722, 0, 1732, 44⟩ [topFrame ps0]) = some (SE w os) := glue (N := 294) (M := 6572) (ss := sp40) (run40 w os) (len40 w.params) (hA40 w.params) (lo40 w.params) (go41 w os)
theorem go39 (w : World) (os : OsState) : topRun treeTable PG w 50 (some (.ref 6)) 7185 ⟨heapOf (hot39 w.params) (Z39 w.params) life0, #[], drawn0, 4553, os⟩ (restOf ((behindTheImports PG).drop 331) (envM PG) (cdM PG) ⟨1643, 0, 1651, 47⟩ [topFrame ps0]) = some (SE w os) := glue (N := 319) (M := 6866) (ss := sp39) (run39 w os) (len39 w.params) (hA39 w.params) (lo39 w.params) (go40 w os)
theorem go38 (w : World) (os : OsState) : topRun treeTable PG w 50 (some (.ref 6)) 7493 ⟨heapOf (hot38 w.params) (Z38 w.params) life0, #[], drawn0, 4477, os⟩ (restOf ((behindTheImports PG).drop 318) (envM PG) (cdM PG) ⟨1587, 0, 1592, 69⟩ [topFrame ps0]) = some (SE w os) := glue (N := 308) (M := 7185) (ss := sp38) (run38 w os) (len38 w.params) (hA38 w.params) (lo38 w.params) (go39 w os)
theorem go37 (w : World) (os : OsState) : topRun treeTable PG w 50 (some (.ref 6)) 7808 ⟨heapOf (hot37 w.params) (Z37 w.params) life0, #[], drawn0, 4393, os⟩ (restOf ((behindTheImports PG).drop 307) (envM PG) (cdM PG) ⟨1542, 0, 1543, 64⟩ [topFrame ps0]) = some (SE w os) := glue (N := 315) (M := 7493) (ss := sp37) (run37 w os) (len37 w.params) (hA37 w.params) (lo37 w.params) (go38 w os)
theorem go36 (w : World) (os : OsState) : topRun treeTable PG w 50 (some (.ref 6)) 8111 ⟨heapOf (hot36 w.params) (Z36 w.params) life0, #[], drawn0, 4315, os⟩ (restOf ((behindTheImports PG).drop 295) (envM PG) (cdM PG) ⟨1482, 0, 1485, 30⟩ [topFrame ps0]) = some (SE w os) := glue (N := 303) (M := 7808) (ss := sp36) (run36 w os) (len36 w.params) (hA36 w.params) (lo36 w.params) (go37 w os)
theorem go35 (w : World) (os : OsState) : topRun treeTable PG w 50 (some (.ref 6)) 8428 ⟨heapOf (hot35 w.params) (Z35 w.params) life0, #[], drawn0, 4220, os⟩ (restOf ((behindTheImports PG).drop 284) (envM PG) (cdM PG) ⟨1437, 0, 1441, 98⟩ [topFrame ps0]) = some (SE w os) := glue (N := 317) (M := 8111) (ss := sp35) (run35 w os) (len35 w.params) (hA35 w.params) (lo35 w.params) (go36 w os)
theorem go34 (w : World) (os : OsState) : topRun treeTable PG w 50 (some (.ref 6)) 8723 ⟨heapOf (hot34 w.params) (Z34 w.params) life0, #[], drawn0, 4141, os⟩ (restOf ((behindTheImports PG).drop 273) (envM PG) (cdM PG) ⟨1388, 0, 1393, 81⟩ [topFrame ps0]) = some (SE w os) := glue (N := 295) (M := 8428) (ss := sp34) (run34 w os) (len34 w.params) (hA34 w.params) (lo34 w.params) (go35 w os)
theorem go33 (w : World) (os : OsState) : topRun treeTable PG w 50 (some (.ref 6)) 9034 ⟨heapOf (hot33 w.params) (Z33 w.params) life0, #[], drawn0, 4043, os⟩ (restOf ((behindTheImports PG).drop 262) (envM PG) (cdM PG) ⟨1319, 0, 1322, 31⟩ [topFrame ps0]) = some (SE w os) := glue (N := 311) (M := 8723) (ss := sp33) (run33 w os) (len33 w.params) (hA33 w.params) (lo33 w.params) (go34 w os)
theorem go32 (w : World) (os : OsState) : topRun treeTable PG w 50 (some (.ref 6)) 9350 ⟨heapOf (hot32 w.params) (Z32 w.params) life0, #[], drawn0, 3955, os⟩ (restOf ((behindTheImports PG).drop 251) (envM PG) (cdM PG) ⟨1277, 0, 1278, 69⟩ [topFrame ps0]) = some (SE w os) := glue (N := 316) (M := 9034) (ss := sp32) (run32 w os) (len32 w.params) (hA32 w.params) (lo32 w.params) (go33 w os)
theorem go31 (w : World) (os : OsState) : topRun treeTable PG w 50 (some (.ref 6)) 9646 ⟨heapOf (hot31 w.params) (Z31 w.params) life0, #[], drawn0, 3863, os⟩ (restOf ((behindTheImports PG).drop 241) (envM PG) (cdM PG) ⟨1241, 0, 1247, 99⟩ [topFrame ps0]) = some (SE w os) := glue (N := 296) (M := 9350) (ss := sp31) (run31 w os) (len31 w.params) (hA31 w.params) (lo31 w.params) (go32 w os)
theorem go30 (w : World) (os : OsState) : topRun treeTable PG w 50 (some (.ref 6)) 9936 ⟨heapOf (hot30 w.params) (Z30 w.params) life0, #[], drawn0, 3773, os⟩ (restOf ((behindTheImports PG).drop 231) (envM PG) (cdM PG) ⟨1175, 0, 1178, 65⟩ [topFrame ps0]) = some (SE w os) := glue (N := 290) (M := 9646) (ss := sp30) (run30 w os) (len30 w.params) (hA30 w.params) (lo30 w.params) (go31 w os)
theorem go29 (w : World) (os : OsState) : topRun treeTable PG w 50 (some (.ref 6)) 10229 ⟨heapOf (hot29 w.params) (Z29 w.params) life0, #[], drawn0, 3696, os⟩ (restOf ((behindTheImports PG).drop 220) (envM PG) (cdM PG) ⟨1123, 0, 1124, 51⟩ [topFrame ps0]) = some (SE w os) := glue (N := 293) (M := 9936) (ss := sp29) (run29 w os) (len29 w.params) (hA29 w.params) (lo29 w.params) (go30 w os)
theorem go28 (w : World) (os : OsState) : topRun treeTable PG w 50 (some (.ref 6)) 10543 ⟨heapOf (hot28 w.params) (Z28 w.params) life0, #[], drawn0, 3607, os⟩ (restOf ((behindTheImports PG).drop 208) (envM PG) (cdM PG) ⟨1047, 0, 1060, 25⟩ [topFrame ps0]) = some (SE w os) := glue (N := 314) (M := 10229) (ss := sp28) (run28 w os) (len28 w.params) (hA28 w.params) (lo28 w.params) (go29 w os)
theorem go27 (w : World) (os : OsState) : topRun treeTable PG w 50 (some (.ref 6)) 10842 ⟨heapOf (hot27 w.params) (Z27 w.params) life0, #[], drawn0, 3524, os⟩ (restOf ((behindTheImports PG).drop 197) (envM PG) (cdM PG) ⟨998, 0, 1004, 93⟩ [topFrame ps0]) = some (SE w os) := glue (N := 299) (M := 10543) (ss := sp27) (run27 w os) (len27 w.params) (hA27 w.params) (lo27 w.params) (go28 w os)
theorem go26 (w : World) (os : OsState) : topRun treeTable PG w 50 (some (.ref 6)) 11154 ⟨heapOf (hot26 w.params) (Z26 w.params) life0, #[], drawn0, 3437, os⟩ (restOf ((behindTheImports PG).drop 185) (envM PG) (cdM PG) ⟨940, 0, 943, 38⟩ [topFrame ps0]) = some (SE w os) := glue (N := 312) (M := 10842) (ss := sp26) (run26 w os) (len26 w.params) (hA26 w.params) (lo26 w.params) (go27 w os)
theorem go25 (w : World) (os : OsState) : topRun treeTable PG w 50 (some (.ref 6)) 11470 ⟨heapOf (hot25 w.params) (Z25 w.params) life0, #[], drawn0, 3353, os⟩ (restOf ((behindTheImports PG).drop 172) (envM PG) (cdM PG) ⟨868, 0, 872, 22⟩ [topFrame ps0]) = some (SE w os) := glue (N := 316) (M := 11154) (ss := sp25) (run25 w os) (len25 w.params) (hA25 w.params) (lo25 w.params) (go26 w os)
theorem go24 (w : World) (os : OsState) : topRun treeTable PG w 50 (some (.ref 6)) 11772 ⟨heapOf (hot24 w.params) (Z24 w.params) life0, #[], drawn0, 3267, os⟩ (restOf ((behindTheImports PG).drop 160) (envM PG) (cdM PG) ⟨735, 0, 825, 96⟩ [topFrame ps0]) = some (SE w os) := glue (N := 302) (M := 11470) (ss := sp24) (run24 w os) (len24 w.params) (hA24 w.params) (lo24 w.params) (go25 w os)
theorem go23 (w : World) (os : OsState) : topRun treeTable PG w 50 (some (.ref 6)) 12615 ⟨heapOf (hot23 w.params) (Z23 w.params) life0, #[], drawn0, 3079, os⟩ (restOf ((behindTheImports PG).drop 159) (envM PG) (cdM PG) ⟨729, 0, 734, 16⟩ [topFrame ps0]) = some (SE w os) := glue (N := 843) (M := 11772) (ss := sp23) (run23 w os) (len23 w.params) (hA23 w.params) (lo23 w.params) (go24 w os)
theorem go22 (w : World) (os : OsState) : topRun treeTable PG w 50 (some (.ref 6)) 12865 ⟨heapOf (hot22 w.params) (Z22 w.params) life0, #[], drawn0, 3009, os⟩ (restOf ((behindTheImports PG).drop 150) (envM PG) (cdM PG) ⟨679, 0, 679, 8⟩ [topFrame ps0]) = some (SE w os) := glue (N := 250) (M := 12615) (ss := sp22) (run22 w os) (len22 w.params) (hA22 w.params) (lo22 w.params) (go23 w os)
theorem go21 (w : World) (os : OsState) : topRun treeTable PG w 50 (some (.ref 6)) 13170 ⟨heapOf (hot21 w.params) (Z21 w.params) life0, #[], drawn0, 2927, os⟩ (restOf ((behindTheImports PG).drop 137) (envM PG) (cdM PG) ⟨623, 0, 626, 39⟩ [topFrame ps0]) = some (SE w os) := glue (N := 305) (M := 12865) (ss := sp21) (run21 w os) (len21 w.params) (hA21 w.params) (lo21 w.params) (go22 w os)
theorem go20 (w : World) (os : OsState) : topRun treeTable PG w 50 (some (.ref 6)) 13490 ⟨heapOf (hot20 w.params) (Z20 w.params) life0, #[], drawn0, 2831, os⟩ (restOf ((behindTheImports PG).drop 126) (envM PG) (cdM PG) ⟨578, 0, 581, 84⟩ [topFrame ps0]) = some (SE w os) := glue (N := 320) (M := 13170) (ss := sp20) (run20 w os) (len20 w.params) (hA20 w.params) (lo20 w.params) (go21 w os)
theorem go19 (w : World) (os : OsState) : topRun treeTable PG w 50 (some (.ref 6)) 13786 ⟨heapOf (hot19 w.params) (Z19 w.params) life0, #[], drawn0, 2751, os⟩ (restOf ((behindTheImports PG).drop 115) (envM PG) (cdM PG) ⟨531, 0, 535, 24⟩ [topFrame ps0]) = some (SE w os) := glue (N := 296) (M := 13490) (ss := sp19) (run19 w os) (len19 w.params) (hA19 w.params) (lo19 w.params) (go20 w os)
theorem go18 (w : World) (os : OsState) : topRun treeTable PG w 50 (some (.ref 6)) 14831 ⟨heapOf (hot18 w.params) (Z18 w.params) life0, #[], drawn0, 2643, os⟩ (restOf ((behindTheImports PG).drop 111) (envM PG) (cdM PG) ⟨511, 0, 515, 32⟩ [topFrame ps0]) = some (SE w os) := glue (N := 1045) (M := 13786) (ss := sp18) (run18 w os) (len18 w.params) (hA18 w.params) (lo18 w.params) (go19 w os)
theorem go17 (w : World) (os : OsState) : topRun treeTable PG w 50 (some (.ref 6)) 16400 ⟨heapOf (hot17 w.params) (Z17 w.params) life0, #[], drawn0, 2479, os⟩ (restOf ((behindTheImports PG).drop 105) (envM PG) (cdM PG) ⟨480, 0, 484, 22⟩ [topFrame ps0]) = some (SE w os) := glue (N := 1569) (M := 14831) (ss := sp17) (run17 w os) (len17 w.params) (hA17 w.params) (lo17 w.params) (go18 w os)
theorem go16 (w : World) (os : OsState) : topRun treeTable PG w 50 (some (.ref 6)) 17967 ⟨heapOf (hot16 w.params) (Z16 w.params) life0, #[], drawn0, 2317, os⟩ (restOf ((behindTheImports PG).drop 99) (envM PG) (cdM PG) ⟨450, 0, 454, 26⟩ [topFrame ps0]) = some (SE w os) := glue (N := 1567) (M := 16400) (ss := sp16) (run16 w os) (len16 w.params) (hA16 w.params) (lo16 w.params) (go17 w os)
theorem go15 (w : World) (os : OsState) : topRun treeTable PG w 50 (some (.ref 6)) 19534 ⟨heapOf (hot15 w.params) (Z15 w.params) life0, #[], drawn0, 2155, os⟩ (restOf ((behindTheImports PG).drop 93) (envM PG) (cdM PG) ⟨420, 0, 424, 26⟩ [topFrame ps0]) = some (SE w os) := glue (N := 1567) (M := 17967) (ss := sp15) (run15 w os) (len15 w.params) (hA15 w.params) (lo15 w.params) (go16 w os)
theorem go14 (w : World) (os : OsState) : topRun treeTable PG w 50 (some (.ref 6)) 21101 ⟨heapOf (hot14 w.params) (Z14 w.params) life0, #[], drawn0, 1993, os⟩ (restOf ((behindTheImports PG).drop 87) (envM PG) (cdM PG) ⟨391, 0, 394, 26⟩ [topFrame ps0]) = some (SE w os) := glue (N := 1567) (M := 19534) (ss := sp14) (run14 w os) (len14 w.params) (hA14 w.params) (lo14 w.params) (go15 w os)
theorem go13 (w : World) (os : OsState) : topRun treeTable PG w 50 (some (.ref 6)) 22664 ⟨heapOf (hot13 w.params) (Z13 w.params) life0, #[], drawn0, 1835, os⟩ (restOf ((behindTheImports PG).drop 81) (envM PG) (cdM PG) ⟨362, 0, 366, 24⟩ [topFrame ps0]) = some (SE w os) := glue (N := 1563) (M := 21101) (ss := sp13) (run13 w os) (len13 w.params) (hA13 w.params) (lo13 w.params) (go14 w os)
theorem go12 (w : World) (os : OsState) : topRun treeTable PG w 50 (some (.ref 6)) 24231 ⟨heapOf (hot12 w.params) (Z12 w.params) life0, #[], drawn0, 1673, os⟩ (restOf ((behindTheImports PG).drop 75) (envM PG) (cdM PG) ⟨336, 0, 336, 8⟩ [topFrame ps0]) = some (SE w os) := glue (N := 1567) (M := 22664) (ss := sp12) (run12 w os) (len12 w.params) (hA12 w.params) (lo12 w.params) (go13 w os)
theorem go11 (w : World) (os : OsState) : topRun treeTable PG w 50 (some (.ref 6)) 24368 ⟨heapOf (hot11 w.params) (Z11 w.params) life0, #[], drawn0, 1630, os⟩ (restOf ((behindTheImports PG).drop 70) (envM PG) (cdM PG) ⟨306, 0, 312, 53⟩ [topFrame ps0]) = some (SE w os) := glue (N := 137) (M := 24231) (ss := sp11) (run11 w os) (len11 w.params) (hA11 w.params) (lo11 w.params) (go12 w os)
theorem go10 (w : World) (os : OsState) : topRun treeTable PG w 50 (some (.ref 6)) 24679 ⟨heapOf (hot10 w.params) (Z10 w.params) life0, #[], drawn0, 1537, os⟩ (restOf ((behindTheImports PG).drop 59) (envM PG) (cdM PG) ⟨251, 0, 254, 16⟩ [topFrame ps0]) = some (SE w os) := glue (N := 311) (M := 24368) (ss := sp10) (run10 w os) (len10 w.params) (hA10 w.params) (lo10 w.params) (go11 w os)
theorem go9 (w : World) (os : OsState) : topRun treeTable PG w 50 (some (.ref 6)) 24996 ⟨heapOf (hot9 w.params) (Z9 w.params) life0, #[], drawn0, 1453, os⟩ (restOf ((behindTheImports PG).drop 48) (envM PG) (cdM PG) ⟨193, 0, 215, 68⟩ [topFrame ps0]) = some (SE w os) := glue (N := 317) (M := 24679) (ss := sp9) (run9 w os) (len9 w.params) (hA9 w.params) (lo9 w.params) (go10 w os)
theorem go8 (w : World) (os : OsState) : topRun treeTable PG w 50 (some (.ref 6)) 25318 ⟨heapOf (hot8 w.params) (Z8 w.params) life0, #[], drawn0, 1400, os⟩ (restOf ((behindTheImports PG).drop 47) (envM PG) (cdM PG) ⟨192, 0, 192, 8⟩ [topFrame ps0]) = some (SE w os) := glue (N := 322) (M := 24996) (ss := sp8) (run8 w os) (len8 w.params) (hA8 w.params) (lo8 w.params) (go9 w os)
theorem go7 (w : World) (os : OsState) : topRun treeTable PG w 50 (some (.ref 6)) 25610 ⟨heapOf (hot7 w.params) (Z7 w.params) life0, #[], drawn0, 1329, os⟩ (restOf ((behindTheImports PG).drop 34) (envM PG) (cdM PG) ⟨160, 0, 164, 26⟩ [topFrame ps0]) = some (SE w os) := glue (N := 292) (M := 25318) (ss := sp7) (run7 w os) (len7 w.params) (hA7 w.params) (lo7 w.params) (go8 w os)
theorem go6 (w : World) (os : OsState) : topRun treeTable PG w 50 (some (.ref 6)) 25872 ⟨heapOf (hot6 w.params) (Z6 w.params) life0, #[], drawn0, 1302, os⟩ (restOf ((behindTheImports PG).drop 33) (envM PG) (cdM PG) ⟨155, 0, 159, 24⟩ [topFrame ps0]) = some (SE w os) := glue (N := 262) (M := 25610) (ss := sp6) (run6 w os) (len6 w.params) (hA6 w.params) (lo6 w.params) (go7 w os)
theorem go5 (w : World) (os : OsState) : topRun treeTable PG w 50 (some (.ref 6)) 27439 ⟨heapOf (hot5 w.params) (Z5 w.params) life0, #[], drawn0, 1140, os⟩ (restOf ((behindTheImports PG).drop 27) (envM PG) (cdM PG) ⟨125, 0, 129, 26⟩ [topFrame ps0]) = some (SE w os) := glue (N := 1567) (M := 25872) (ss := sp5) (run5 w os) (len5 w.params) (hA5 w.params) (lo5 w.params) (go6 w os)
theorem go4 (w : World) (os : OsState) : topRun treeTable PG w 50 (some (.ref 6)) 29006 ⟨heapOf (hot4 w.params) (Z4 w.params) life0, #[], drawn0, 978, os⟩ (restOf ((behindTheImports PG).drop 21) (envM PG) (cdM PG) ⟨95, 0, 99, 26⟩ [topFrame ps0]) = some (SE w os) := glue (N := 1567) (M := 27439) (ss := sp4) (run4 w os) (len4 w.params) (hA4 w.params) (lo4 w.params) (go5 w os)
theorem go3 (w : World) (os : OsState) : topRun treeTable PG w 50 (some (.ref 6)) 30573 ⟨heapOf (hot3 w.params) (Z3 w.params) life0, #[], drawn0, 816, os⟩ (restOf ((behindTheImports PG).drop 15) (envM PG) (cdM PG) ⟨65, 0, 69, 30⟩ [topFrame ps0]) = some (SE w os) := glue (N := 1567) (M := 29006) (ss := sp3) (run3 w os) (len3 w.params) (hA3 w.params) (lo3 w.params) (go4 w os)
theorem go2 (w : World) (os : OsState) : topRun treeTable PG w 50 (some (.ref 6)) 32140 ⟨heapOf (hot2 w.params) (Z2 w.params) life0, #[], drawn0, 654, os⟩ (restOf ((behindTheImports PG).drop 9) (envM PG) (cdM PG) ⟨35, 0, 39, 26⟩ [topFrame ps0]) = some (SE w os) := glue (N := 1567) (M := 30573) (ss := sp2) (run2 w os) (len2 w.params) (hA2 w.params) (lo2 w.params) (go3 w os)
theorem go1 (w : World) (os : OsState) : topRun treeTable PG w 50 (some (.ref 6)) 33709 ⟨heapOf (hot1 w.params) (Z1 w.params) life0, #[], drawn0, 490, os⟩ (restOf ((behindTheImports PG).drop 3) (envM PG) (cdM PG) ⟨7, 0, 8, 8⟩ [topFrame ps0]) = some (SE w os) := glue (N := 1569) (M := 32140) (ss := sp1) (run1 w os) (len1 w.params) (hA1 w.params) (lo1 w.params) (go2 w os)
theorem hot1E (P : Params) : heapOf (hot0b P) (Z1 P) life0 = heapOf (hot1 P) (Z1 P) life0 := by
  have e1 : (Z1 P)[69]? = some (z69 P) := by kernel_rfl
  have e2 : (Z1 P)[70]? = some (wkO []) := by kernel_rfl
  have f1 : lkp (hot0b P) 69 = none := by kernel_rfl
  have f2 : lkp ((69, z69 P) :: hot0b P) 70 = none := by kernel_rfl
  exact ((heap_more f2 e2).trans (heap_more f1 e1)).symm
theorem go0 (w : World) (os : OsState) : topRun treeTable PG w 50 (some (.ref 6)) 33934 ⟨heapOf (hot0 w.params) (Z0 w.params) life0, #[], drawn0, 463, os⟩ (restOf ((behindTheImports PG).drop 0) (envM PG) (cdM PG) ps0 [topFrame ps0]) = some (SE w os) := glue (N := 225) (M := 33709) (ss := sp0) (run0 w os) (len0 w.params) (hA0 w.params) (lo0 w.params) (by rw [show (Z0 w.params ++ objsO w.params sp0 (stsO PG 0 3)) = Z1 w.params from rfl, hot1E]; exact go1 w os)
end RWk
end
section
/-! H8a: the looks at the heap behind the top, made quick. -/
namespace RWk
open PySem PySem.W PySem.Calls PyProof.Rows
theorem objsO_app (P : Params) : ∀ (a b : List Sp) (l : List Stmt), objsO P (app a b) l = objsO P a (l.take a.length) ++ objsO P b (l.drop a.length)
  | [], b, l => by
    show objsO P b l = ([] : List Obj) ++ objsO P b l
    rfl
  | s :: a, b, [] => by
    have e : ∀ ss : List Sp, objsO P ss [] = [] := fun ss => by cases ss <;> rfl
    rw [e, List.take_nil, List.drop_nil, e, e]
    rfl
  | s :: a, b, st :: l => by
    show app (oneO P s st) (objsO P (app a b) l) = app (oneO P s st) (objsO P a (l.take a.length)) ++ objsO P b (l.drop a.length)
    rw [objsO_app P a b l, app_eq, app_eq, List.append_assoc]
def isK (e : DictEntry) : Bool := match e.key with
  | .str _ _ => true
  | _ => false
theorem isNs_of {h : Heap} {a : Addr} {c : Value} {d : Option Addr} {es : Array DictEntry} {n : Nat} {sl : Array (Option Value)} (g : h.get? a = some ⟨c, d, .dict es n, sl⟩) (k : es.toList.all isK = true) : h.isNs a = true := by
  unfold Heap.isNs
  rw [g]
  show es.all isK = true
  rw [← Array.all_toList]
  exact k
theorem nsMap_of {h : Heap} {a : Addr} {c : Value} {d : Option Addr} {es : Array DictEntry} {n : Nat} {sl : Array (Option Value)} (g : h.get? a = some ⟨c, d, .dict es n, sl⟩) (x : Str) : h.nsMap a x = (es.toList.find? fun e => e.key.isStr x).map (·.val) := by
  unfold Heap.nsMap
  rw [g]
  show nsFind es x = _
  unfold nsFind findBy
  rw [← Array.find?_toList]
noncomputable def subB (bs : List Str) : List Str → Bool :=
  @List.rec Str (fun _ => List Str → Bool) (fun ks => @List.rec Str (fun _ => Bool) true (fun _ _ _ => false) ks)
    (fun b _ ih ks => @List.rec Str (fun _ => Bool) true (fun k r _ => @Bool.rec (fun _ => Bool) (ih ks) (ih r) (decide (k = b))) ks) bs
theorem subB_ok : ∀ {bs ks : List Str}, subB bs ks = true → ∀ k ∈ ks, k ∈ bs
  | [], [], _, k, hk => by cases hk
  | [], a :: ks, h, k, hk => by
    have h' : false = true := h
    cases h'
  | b :: bs, [], _, k, hk => by cases hk
  | b :: bs, a :: ks, h, k, hk => by
    have h' : @Bool.rec (fun _ => Bool) (subB bs (a :: ks)) (subB bs ks) (decide (a = b)) = true := h
    by_cases e : a = b
    · rw [decide_eq_true e] at h'
      rcases List.mem_cons.mp hk with rfl | hk
      · rw [e]
        exact List.mem_cons_self
      · exact List.mem_cons_of_mem _ (subB_ok h' k hk)
    · rw [decide_eq_false e] at h'
      exact List.mem_cons_of_mem _ (subB_ok h' k hk)
theorem keys_sub {K S B : List Str} (h : subB B (K.filter fun k => !S.contains k) = true) : ∀ k ∈ K, S.contains k = true ∨ k ∈ B := fun k hk => by
  cases c : S.contains k with
  | true => exact .inl rfl
  | false => exact .inr (subB_ok h k (List.mem_filter.mpr ⟨hk, by rw [c]; rfl⟩))
end RWk
end
section
namespace RWk
open PySem PySem.TablesWhole
structure Im (a b : Bool) : Prop where
  go : a = true → b = true
structure Le (A B : Alg Bool) : Prop where
  ask : ∀ sc n p, Im (A.ask sc n p) (B.ask sc n p)
  check : ∀ w sc n ok, Im (A.check w sc n ok) (B.check w sc n ok)
  enter : ∀ sc, Im (A.enter sc) (B.enter sc)
  unit : Im A.unit B.unit
  bad : Im A.bad B.bad
  both : ∀ {a b c d : Bool}, Im a b → Im c d → Im (A.both a c) (B.both b d)
section
variable {A B : Alg Bool} (h : Le A B)
include h
theorem Le.nil : Im (A.all []) (B.all []) := h.unit
theorem Le.cons {x y : Bool} {l m : List Bool} (a : Im x y) (b : Im (A.all l) (B.all m)) : Im (A.all (x :: l)) (B.all (y :: m)) := h.both a b
theorem Le.map {α : Type} {f g : α → Bool} : ∀ {l : List α}, (∀ x, Im (f x) (g x)) → Im (A.all (l.map f)) (B.all (l.map g))
  | [], _ => h.unit
  | x :: l, q => h.both (q x) (Le.map q)
theorem Le.bind (cx : TablesWhole.Ctx) (sc : Scope) (n : Str) (p : Option Pos) : Im (A.bind cx sc n p) (B.bind cx sc n p) := h.both (h.ask _ _ _) (h.check _ _ _ _)
theorem Le.optName (cx : TablesWhole.Ctx) (sc : Scope) (n : Option Str) (p : Pos) : Im (A.optName cx sc n p) (B.optName cx sc n p) := by
  cases n with
  | none => exact h.unit
  | some n => exact h.bind ..
theorem Le.inlined (a b : Scope) : Im (A.inlined a b) (B.inlined a b) := by
  unfold Alg.inlined
  split
  · exact h.unit
  · exact h.map fun _ => h.check _ _ _ _
theorem Le.names (sc : Scope) (ns : List Str) (p : Pos) : Im (A.names sc ns p) (B.names sc ns p) := h.map fun _ => h.ask _ _ _
theorem Le.params (o : Scope) (p : Arguments) : Im (A.params o p) (B.params o p) := h.map fun _ => h.bind ..
theorem Le.enterFrom (ch : List Scope) (cls : Option Scope) (gl : List Str) (pa ow : Scope) : Im (A.enterFrom ch cls gl pa ow) (B.enterFrom ch cls gl pa ow) := by
  unfold Alg.enterFrom
  refine h.cons (h.enter _) (h.cons (h.check _ _ _ _) (h.cons (h.map fun _ => h.both (h.ask _ _ _) (h.check _ _ _ _)) (h.cons (h.map fun _ => h.check _ _ _ _) (h.cons ?_ (h.cons ?_ (h.cons ?_ h.nil))))))
  · split
    · exact h.map fun _ => h.check _ _ _ _
    · exact h.unit
  · split
    · exact h.unit
    · exact h.map fun _ => h.check _ _ _ _
  · split
    · exact h.both (h.ask _ _ _) (h.check _ _ _ _)
    · exact h.unit
theorem Le.exprs : (∀ cx sc hold e, Im (wE A cx sc hold e) (wE B cx sc hold e)) ∧ (∀ cx cxO ar ow ou ho fi gs, Im (wGens A cx cxO ar ow ou ho fi gs) (wGens B cx cxO ar ow ou ho fi gs)) ∧ (∀ cx sc hold es, Im (wEs A cx sc hold es) (wEs B cx sc hold es)) ∧
    (∀ cx sc hold e, Im (wT A cx sc hold e) (wT B cx sc hold e)) ∧ (∀ cx sc hold es, Im (wTs A cx sc hold es) (wTs B cx sc hold es)) ∧ (∀ cx sc hold p, Im (wDefaults A cx sc hold p) (wDefaults B cx sc hold p)) ∧
    (∀ cx sc hold es, Im (wEos A cx sc hold es) (wEos B cx sc hold es)) ∧ (∀ cx sc hold e, Im (wEo A cx sc hold e) (wEo B cx sc hold e)) ∧ (∀ cx sc hold ks, Im (wKs A cx sc hold ks) (wKs B cx sc hold ks)) := by
  apply TablesWhole.wE.mutual_induct (motive_1 := fun cx sc hold e => Im (wE A cx sc hold e) (wE B cx sc hold e)) (motive_2 := fun cx cxO ar ow ou ho fi gs => Im (wGens A cx cxO ar ow ou ho fi gs) (wGens B cx cxO ar ow ou ho fi gs))
    (motive_3 := fun cx sc hold es => Im (wEs A cx sc hold es) (wEs B cx sc hold es)) (motive_4 := fun cx sc hold e => Im (wT A cx sc hold e) (wT B cx sc hold e)) (motive_5 := fun cx sc hold es => Im (wTs A cx sc hold es) (wTs B cx sc hold es))
    (motive_6 := fun cx sc hold p => Im (wDefaults A cx sc hold p) (wDefaults B cx sc hold p)) (motive_7 := fun cx sc hold es => Im (wEos A cx sc hold es) (wEos B cx sc hold es)) (motive_8 := fun cx sc hold e => Im (wEo A cx sc hold e) (wEo B cx sc hold e))
    (motive_9 := fun cx sc hold ks => Im (wKs A cx sc hold ks) (wKs B cx sc hold ks))
  all_goals intros
  all_goals simp only [wE, wGens, wEs, wT, wTs, wDefaults, wEos, wEo, wKs]
  all_goals repeat' first
    | exact h.unit
    | exact h.bad
    | assumption
    | exact h.bind ..
    | exact h.ask _ _ _
    | exact h.check _ _ _ _
    | exact h.enterFrom ..
    | exact h.inlined ..
    | exact h.params ..
    | exact h.nil
    | (with_reducible refine h.cons ?_ ?_)
    | (with_reducible refine h.both ?_ ?_)
    | split
theorem Le.eE (cx : TablesWhole.Ctx) (sc : Scope) (hold : Option Scope) (e : PySem.Expr) : Im (wE A cx sc hold e) (wE B cx sc hold e) := h.exprs.1 ..
theorem Le.eEs (cx : TablesWhole.Ctx) (sc : Scope) (hold : Option Scope) (e : List PySem.Expr) : Im (wEs A cx sc hold e) (wEs B cx sc hold e) := h.exprs.2.2.1 ..
theorem Le.eT (cx : TablesWhole.Ctx) (sc : Scope) (hold : Option Scope) (e : PySem.Expr) : Im (wT A cx sc hold e) (wT B cx sc hold e) := h.exprs.2.2.2.1 ..
theorem Le.eTs (cx : TablesWhole.Ctx) (sc : Scope) (hold : Option Scope) (e : List PySem.Expr) : Im (wTs A cx sc hold e) (wTs B cx sc hold e) := h.exprs.2.2.2.2.1 ..
theorem Le.eD (cx : TablesWhole.Ctx) (sc : Scope) (hold : Option Scope) (p : Arguments) : Im (wDefaults A cx sc hold p) (wDefaults B cx sc hold p) := h.exprs.2.2.2.2.2.1 ..
theorem Le.eEo (cx : TablesWhole.Ctx) (sc : Scope) (hold : Option Scope) (e : Option PySem.Expr) : Im (wEo A cx sc hold e) (wEo B cx sc hold e) := h.exprs.2.2.2.2.2.2.2.1 ..
theorem Le.eKs (cx : TablesWhole.Ctx) (sc : Scope) (hold : Option Scope) (e : List Keyword) : Im (wKs A cx sc hold e) (wKs B cx sc hold e) := h.exprs.2.2.2.2.2.2.2.2 ..
theorem Le.argL (cx : TablesWhole.Ctx) (sc : Scope) (hold : Option Scope) : ∀ l : List Arg, Im (wArgAnns A cx sc hold l) (wArgAnns B cx sc hold l)
  | [] => by
    simp only [wArgAnns]
    exact h.unit
  | ⟨_, _, _⟩ :: r => by
    simp only [wArgAnns]
    exact h.both (h.eEo ..) (Le.argL cx sc hold r)
theorem Le.argO (cx : TablesWhole.Ctx) (sc : Scope) (hold : Option Scope) : ∀ l : Option Arg, Im (wArgAnnO A cx sc hold l) (wArgAnnO B cx sc hold l)
  | none => by
    simp only [wArgAnnO]
    exact h.unit
  | some ⟨_, _, _⟩ => by
    simp only [wArgAnnO]
    exact h.eEo ..
theorem Le.anns (cx : TablesWhole.Ctx) (sc : Scope) (hold : Option Scope) (p : Arguments) : Im (wAnns A cx sc hold p) (wAnns B cx sc hold p) := by
  obtain ⟨a, b, c, d, e, f, g⟩ := p
  simp only [wAnns]
  exact h.cons (h.argL ..) (h.cons (h.argL ..) (h.cons (h.argO ..) (h.cons (h.argL ..) (h.cons (h.argO ..) h.nil))))
theorem Le.pats (cx : TablesWhole.Ctx) (sc : Scope) : (∀ p, Im (wP A cx sc p) (wP B cx sc p)) ∧ (∀ p, Im (wPo A cx sc p) (wPo B cx sc p)) ∧ (∀ p, Im (wPs A cx sc p) (wPs B cx sc p)) := by
  apply TablesWhole.wP.mutual_induct (motive_1 := fun p => Im (wP A cx sc p) (wP B cx sc p)) (motive_2 := fun p => Im (wPo A cx sc p) (wPo B cx sc p)) (motive_3 := fun p => Im (wPs A cx sc p) (wPs B cx sc p))
  all_goals intros
  all_goals simp only [wP, wPs, wPo]
  all_goals repeat' first
    | exact h.unit
    | exact h.bad
    | assumption
    | exact h.eE ..
    | exact h.eEs ..
    | exact h.optName ..
    | exact h.nil
    | (with_reducible refine h.cons ?_ ?_)
    | (with_reducible refine h.both ?_ ?_)
theorem Le.lazy (ch : List Scope) (cls : Option Scope) (pa : Scope) (e : Option PySem.Expr) (o : Option Scope) : Im (wLazy A ch cls pa e o) (wLazy B ch cls pa e o) := by
  unfold wLazy
  split
  · exact h.unit
  · exact h.both (h.enterFrom ..) (h.eE ..)
  · exact h.bad
theorem Le.tp (ch : List Scope) (cls : Option Scope) (ts : Scope) (t : TypeParam) : Im (wTP A ch cls ts t) (wTP B ch cls ts t) := by
  unfold wTP
  split
  · exact h.cons (h.bind ..) (h.cons (h.lazy ..) (h.cons (h.lazy ..) h.nil))
  · exact h.both (h.bind ..) (h.lazy ..)
  · exact h.both (h.bind ..) (h.lazy ..)
theorem Le.tps (ch : List Scope) (cls : Option Scope) (ts : Scope) (t : List TypeParam) : Im (wTPs A ch cls ts t) (wTPs B ch cls ts t) := h.map fun _ => h.tp ..
theorem Le.items (cx : TablesWhole.Ctx) (sc : Scope) (l : List WithItem) : Im (wItems A cx sc l) (wItems B cx sc l) := h.map fun i => h.both (h.eE ..) (by
  split
  · exact h.eT ..
  · exact h.unit)
theorem Le.defHead (cx : TablesWhole.Ctx) (sc : Scope) (a : Arguments) (d : List PySem.Expr) (r : Option PySem.Expr) (tp : List TypeParam) (o : Scope) (ts : Option Scope) (b : Str) (p : Pos) (gl : List Str) :
    Im (wDefHead A cx sc a d r tp o ts b p gl) (wDefHead B cx sc a d r tp o ts b p gl) := by
  unfold wDefHead
  refine h.cons (h.eEs ..) (h.cons (h.eD ..) (h.cons (h.bind ..) (h.cons (h.params ..) (h.cons ?_ h.nil))))
  split
  · exact h.cons (h.enterFrom ..) (h.cons (h.anns ..) (h.cons (h.eEo ..) h.nil))
  · refine h.cons (h.enterFrom ..) (h.cons (h.enterFrom ..) (h.cons (h.tps ..) (h.cons (h.anns ..) (h.cons (h.eEo ..) (h.cons (h.bind ..) (h.cons ?_ h.nil))))))
    split
    · exact h.unit
    · exact h.bind ..
  · exact h.bad
theorem Le.classHead (cx : TablesWhole.Ctx) (sc : Scope) (a : List PySem.Expr) (k : List Keyword) (d : List PySem.Expr) (tp : List TypeParam) (o : Scope) (ts : Option Scope) (b : Str) (p : Pos) (gl : List Str) :
    Im (wClassHead A cx sc a k d tp o ts b p gl) (wClassHead B cx sc a k d tp o ts b p gl) := by
  unfold wClassHead
  refine h.cons (h.eEs ..) (h.cons (h.bind ..) (h.cons ?_ h.nil))
  split
  · exact h.cons (h.enterFrom ..) (h.cons (h.eEs ..) (h.cons (h.eKs ..) h.nil))
  · exact h.cons (h.enterFrom ..) (h.cons (h.enterFrom ..) (h.cons (h.tps ..) (h.cons (h.bind ..) (h.cons (h.bind ..) (h.cons (h.ask _ _ _) (h.cons (h.bind ..) (h.cons (h.eEs ..) (h.cons (h.eKs ..) h.nil))))))))
  · exact h.bad
theorem Le.stmts : (∀ (top : Scope) cx sc s, Im (wS A top cx sc s) (wS B top cx sc s)) ∧ (∀ (top : Scope) cx sc l, Im (wSs A top cx sc l) (wSs B top cx sc l)) := by
  have key : ∀ top : Scope, (∀ cx sc s, Im (wS A top cx sc s) (wS B top cx sc s)) ∧ (∀ cx sc l, Im (wHs A top cx sc l) (wHs B top cx sc l)) ∧ (∀ cx sc l, Im (wSs A top cx sc l) (wSs B top cx sc l)) ∧ (∀ cx sc l, Im (wCs A top cx sc l) (wCs B top cx sc l)) := fun top => by
    apply TablesWhole.wS.mutual_induct (motive_1 := fun cx sc s => Im (wS A top cx sc s) (wS B top cx sc s)) (motive_2 := fun cx sc s => Im (wHs A top cx sc s) (wHs B top cx sc s)) (motive_3 := fun cx sc s => Im (wSs A top cx sc s) (wSs B top cx sc s)) (motive_4 := fun cx sc s => Im (wCs A top cx sc s) (wCs B top cx sc s))
    all_goals intros
    all_goals simp only [wS, wSs, wCs, wHs]
    all_goals repeat' first
      | exact h.unit
      | exact h.bad
      | assumption
      | exact h.bind ..
      | exact h.ask _ _ _
      | exact h.check _ _ _ _
      | exact h.enterFrom ..
      | exact h.eE ..
      | exact h.eEs ..
      | exact h.eT ..
      | exact h.eTs ..
      | exact h.eEo ..
      | exact h.optName ..
      | exact h.names ..
      | exact h.items ..
      | exact h.tps ..
      | exact (h.pats _ _).1 _
      | exact h.defHead ..
      | exact h.classHead ..
      | exact h.nil
      | (with_reducible refine h.cons ?_ ?_)
      | (with_reducible refine h.both ?_ ?_)
      | (refine h.map fun _ => ?_)
      | split
  exact ⟨fun top => (key top).1, fun top => (key top).2.2.1⟩
theorem Le.module (m : Module) : Im (wModule A m) (wModule B m) := h.cons (h.enter _) (h.cons (h.check _ _ _ _) (h.cons (h.stmts.2 ..) h.nil))
end
/-- a look at all names: a weaker one follows -/
theorem meet_mono {p : Program} {b : List Stmt} {f g : Scope → Str → Bool} (q : ∀ sc n, f sc n = true → g sc n = true) (e : PySem.W.namesMeet p b f = true) : PySem.W.namesMeet p b g = true := by
  unfold PySem.W.namesMeet at e ⊢
  refine Im.go (Le.module ?_ _) e
  exact ⟨fun sc n _ => ⟨q sc n⟩, fun _ _ _ _ => ⟨id⟩, fun _ => ⟨id⟩, ⟨id⟩, ⟨id⟩, fun {a b c d} x y => ⟨fun z => by
    obtain ⟨z1, z2⟩ := Bool.and_eq_true_iff.mp z
    exact Bool.and_eq_true_iff.mpr ⟨x.go z1, y.go z2⟩⟩⟩
end RWk
end
section
namespace RWk
open PySem PySem.W PySem.Calls PyProof.Rows
noncomputable def spS63 : List Sp := []
noncomputable def spS62 : List Sp := app sp62 spS63
noncomputable def spS61 : List Sp := app sp61 spS62
noncomputable def spS60 : List Sp := app sp60 spS61
noncomputable def spS59 : List Sp := app sp59 spS60
noncomputable def spS58 : List Sp := app sp58 spS59
noncomputable def spS57 : List Sp := app sp57 spS58
noncomputable def spS56 : List Sp := app sp56 spS57
noncomputable def spS55 : List Sp := app sp55 spS56
noncomputable def spS54 : List Sp := app sp54 spS55
noncomputable def spS53 : List Sp := app sp53 spS54
noncomputable def spS52 : List Sp := app sp52 spS53
noncomputable def spS51 : List Sp := app sp51 spS52
noncomputable def spS50 : List Sp := app sp50 spS51
noncomputable def spS49 : List Sp := app sp49 spS50
noncomputable def spS48 : List Sp := app sp48 spS49
noncomputable def spS47 : List Sp := app sp47 spS48
noncomputable def spS46 : List Sp := app sp46 spS47
noncomputable def spS45 : List Sp := app sp45 spS46
noncomputable def spS44 : List Sp := app sp44 spS45
noncomputable def spS43 : List Sp := app sp43 spS44
noncomputable def spS42 : List Sp := app sp42 spS43
noncomputable def spS41 : List Sp := app sp41 spS42
noncomputable def spS40 : List Sp := app sp40 spS41
noncomputable def spS39 : List Sp := app sp39 spS40
noncomputable def spS38 : List Sp := app sp38 spS39
noncomputable def spS37 : List Sp := app sp37 spS38
noncomputable def spS36 : List Sp := app sp36 spS37
noncomputable def spS35 : List Sp := app sp35 spS36
noncomputable def spS34 : List Sp := app sp34 spS35
noncomputable def spS33 : List Sp := app sp33 spS34
noncomputable def spS32 : List Sp := app sp32 spS33
noncomputable def spS31 : List Sp := app sp31 spS32
noncomputable def spS30 : List Sp := app sp30 spS31
noncomputable def spS29 : List Sp := app sp29 spS30
noncomputable def spS28 : List Sp := app sp28 spS29
noncomputable def spS27 : List Sp := app sp27 spS28
noncomputable def spS26 : List Sp := app sp26 spS27
noncomputable def spS25 : List Sp := app sp25 spS26
noncomputable def spS24 : List Sp := app sp24 spS25
noncomputable def spS23 : List Sp := app sp23 spS24
noncomputable def spS22 : List Sp := app sp22 spS23
noncomputable def spS21 : List Sp := app sp21 spS22
noncomputable def spS20 : List Sp := app sp20 spS21
noncomputable def spS19 : List Sp := app sp19 spS20
noncomputable def spS18 : List Sp := app sp18 spS19
noncomputable def spS17 : List Sp := app sp17 spS18
noncomputable def spS16 : List Sp := app sp16 spS17
noncomputable def spS15 : List Sp := app sp15 spS16
noncomputable def spS14 : List Sp := app sp14 spS15
noncomputable def spS13 : List Sp := app sp13 spS14
noncomputable def spS12 : List Sp := app sp12 spS13
noncomputable def spS11 : List Sp := app sp11 spS12
noncomputable def spS10 : List Sp := app sp10 spS11
noncomputable def spS9 : List Sp := app sp9 spS10
noncomputable def spS8 : List Sp := app sp8 spS9
noncomputable def spS7 : List Sp := app sp7 spS8
noncomputable def spS6 : List Sp := app sp6 spS7
noncomputable def spS5 : List Sp := app sp5 spS6
noncomputable def spS4 : List Sp := app sp4 spS5
noncomputable def spS3 : List Sp := app sp3 spS4
noncomputable def spS2 : List Sp := app sp2 spS3
noncomputable def spS1 : List Sp := app sp1 spS2
noncomputable def LY (p : Program) (P : Params) : List Obj := app (ov (hot63 P) (app (L0 P) (objsO P sp0 (stsO p 0 3))) 0) (objsO P spS1 ((behindTheImports p).drop 3))
theorem tl63 (P : Params) : Z63 P ++ objsO P spS63 ((behindTheImports PG).drop 590) = Z63 P := List.append_nil _
theorem tl62 (P : Params) : Z62 P ++ objsO P spS62 ((behindTheImports PG).drop 586) = Z63 P := by
  rw [show spS62 = app sp62 spS63 from rfl, objsO_app, show sp62.length = 4 from rfl, List.drop_drop, ← List.append_assoc]
  exact tl63 P
theorem tl61 (P : Params) : Z61 P ++ objsO P spS61 ((behindTheImports PG).drop 576) = Z63 P := by
  rw [show spS61 = app sp61 spS62 from rfl, objsO_app, show sp61.length = 10 from rfl, List.drop_drop, ← List.append_assoc]
  exact tl62 P
theorem tl60 (P : Params) : Z60 P ++ objsO P spS60 ((behindTheImports PG).drop 565) = Z63 P := by
  rw [show spS60 = app sp60 spS61 from rfl, objsO_app, show sp60.length = 11 from rfl, List.drop_drop, ← List.append_assoc]
  exact tl61 P
theorem tl59 (P : Params) : Z59 P ++ objsO P spS59 ((behindTheImports PG).drop 553) = Z63 P := by
  rw [show spS59 = app sp59 spS60 from rfl, objsO_app, show sp59.length = 12 from rfl, List.drop_drop, ← List.append_assoc]
  exact tl60 P
theorem tl58 (P : Params) : Z58 P ++ objsO P spS58 ((behindTheImports PG).drop 543) = Z63 P := by
  rw [show spS58 = app sp58 spS59 from rfl, objsO_app, show sp58.length = 10 from rfl, List.drop_drop, ← List.append_assoc]
  exact tl59 P
theorem tl57 (P : Params) : Z57 P ++ objsO P spS57 ((behindTheImports PG).drop 532) = Z63 P := by
  rw [show spS57 = app sp57 spS58 from rfl, objsO_app, show sp57.length = 11 from rfl, List.drop_drop, ← List.append_assoc]
  exact tl58 P
theorem tl56 (P : Params) : Z56 P ++ objsO P spS56 ((behindTheImports PG).drop 520) = Z63 P := by
  rw [show spS56 = app sp56 spS57 from rfl, objsO_app, show sp56.length = 12 from rfl, List.drop_drop, ← List.append_assoc]
  exact tl57 P
theorem tl55 (P : Params) : Z55 P ++ objsO P spS55 ((behindTheImports PG).drop 508) = Z63 P := by
  rw [show spS55 = app sp55 spS56 from rfl, objsO_app, show sp55.length = 12 from rfl, List.drop_drop, ← List.append_assoc]
  exact tl56 P
theorem tl54 (P : Params) : Z54 P ++ objsO P spS54 ((behindTheImports PG).drop 497) = Z63 P := by
  rw [show spS54 = app sp54 spS55 from rfl, objsO_app, show sp54.length = 11 from rfl, List.drop_drop, ← List.append_assoc]
  exact tl55 P
theorem tl53 (P : Params) : Z53 P ++ objsO P spS53 ((behindTheImports PG).drop 486) = Z63 P := by
  rw [show spS53 = app sp53 spS54 from rfl, objsO_app, show sp53.length = 11 from rfl, List.drop_drop, ← List.append_assoc]
  exact tl54 P
theorem tl52 (P : Params) : Z52 P ++ objsO P spS52 ((behindTheImports PG).drop 475) = Z63 P := by
  rw [show spS52 = app sp52 spS53 from rfl, objsO_app, show sp52.length = 11 from rfl, List.drop_drop, ← List.append_assoc]
  exact tl53 P
theorem tl51 (P : Params) : Z51 P ++ objsO P spS51 ((behindTheImports PG).drop 462) = Z63 P := by
  rw [show spS51 = app sp51 spS52 from rfl, objsO_app, show sp51.length = 13 from rfl, List.drop_drop, ← List.append_assoc]
  exact tl52 P
theorem tl50 (P : Params) : Z50 P ++ objsO P spS50 ((behindTheImports PG).drop 451) = Z63 P := by
  rw [show spS50 = app sp50 spS51 from rfl, objsO_app, show sp50.length = 11 from rfl, List.drop_drop, ← List.append_assoc]
  exact tl51 P
theorem tl49 (P : Params) : Z49 P ++ objsO P spS49 ((behindTheImports PG).drop 439) = Z63 P := by
  rw [show spS49 = app sp49 spS50 from rfl, objsO_app, show sp49.length = 12 from rfl, List.drop_drop, ← List.append_assoc]
  exact tl50 P
theorem tl48 (P : Params) : Z48 P ++ objsO P spS48 ((behindTheImports PG).drop 429) = Z63 P := by
  rw [show spS48 = app sp48 spS49 from rfl, objsO_app, show sp48.length = 10 from rfl, List.drop_drop, ← List.append_assoc]
  exact tl49 P
theorem tl47 (P : Params) : Z47 P ++ objsO P spS47 ((behindTheImports PG).drop 418) = Z63 P := by
  rw [show spS47 = app sp47 spS48 from rfl, objsO_app, show sp47.length = 11 from rfl, List.drop_drop, ← List.append_assoc]
  exact tl48 P
theorem tl46 (P : Params) : Z46 P ++ objsO P spS46 ((behindTheImports PG).drop 408) = Z63 P := by
  rw [show spS46 = app sp46 spS47 from rfl, objsO_app, show sp46.length = 10 from rfl, List.drop_drop, ← List.append_assoc]
  exact tl47 P
theorem tl45 (P : Params) : Z45 P ++ objsO P spS45 ((behindTheImports PG).drop 396) = Z63 P := by
  rw [show spS45 = app sp45 spS46 from rfl, objsO_app, show sp45.length = 12 from rfl, List.drop_drop, ← List.append_assoc]
  exact tl46 P
theorem tl44 (P : Params) : Z44 P ++ objsO P spS44 ((behindTheImports PG).drop 384) = Z63 P := by
  rw [show spS44 = app sp44 spS45 from rfl, objsO_app, show sp44.length = 12 from rfl, List.drop_drop, ← List.append_assoc]
  exact tl45 P
theorem tl43 (P : Params) : Z43 P ++ objsO P spS43 ((behindTheImports PG).drop 374) = Z63 P := by
  rw [show spS43 = app sp43 spS44 from rfl, objsO_app, show sp43.length = 10 from rfl, List.drop_drop, ← List.append_assoc]
  exact tl44 P
theorem tl42 (P : Params) : Z42 P ++ objsO P spS42 ((behindTheImports PG).drop 365) = Z63 P := by
  rw [show spS42 = app sp42 spS43 from rfl, objsO_app, show sp42.length = 9 from rfl, List.drop_drop, ← List.append_assoc]
  exact tl43 P
theorem tl41 (P : Params) : Z41 P ++ objsO P spS41 ((behindTheImports PG).drop 354) = Z63 P := by
  rw [show spS41 = app sp41 spS42 from rfl, objsO_app, show sp41.length = 11 from rfl, List.drop_drop, ← List.append_assoc]
  exact tl42 P
theorem tl40 (P : Params) : Z40 P ++ objsO P spS40 ((behindTheImports PG).drop 343) = Z63 P := by
  rw [show spS40 = app sp40 spS41 from rfl, objsO_app, show sp40.length = 11 from rfl, List.drop_drop, ← List.append_assoc]
  exact tl41 P
theorem tl39 (P : Params) : Z39 P ++ objsO P spS39 ((behindTheImports PG).drop 331) = Z63 P := by
  rw [show spS39 = app sp39 spS40 from rfl, objsO_app, show sp39.length = 12 from rfl, List.drop_drop, ← List.append_assoc]
  exact tl40 P
theorem tl38 (P : Params) : Z38 P ++ objsO P spS38 ((behindTheImports PG).drop 318) = Z63 P := by
  rw [show spS38 = app sp38 spS39 from rfl, objsO_app, show sp38.length = 13 from rfl, List.drop_drop, ← List.append_assoc]
  exact tl39 P
theorem tl37 (P : Params) : Z37 P ++ objsO P spS37 ((behindTheImports PG).drop 307) = Z63 P := by
  rw [show spS37 = app sp37 spS38 from rfl, objsO_app, show sp37.length = 11 from rfl, List.drop_drop, ← List.append_assoc]
  exact tl38 P
theorem tl36 (P : Params) : Z36 P ++ objsO P spS36 ((behindTheImports PG).drop 295) = Z63 P := by
  rw [show spS36 = app sp36 spS37 from rfl, objsO_app, show sp36.length = 12 from rfl, List.drop_drop, ← List.append_assoc]
  exact tl37 P
theorem tl35 (P : Params) : Z35 P ++ objsO P spS35 ((behindTheImports PG).drop 284) = Z63 P := by
  rw [show spS35 = app sp35 spS36 from rfl, objsO_app, show sp35.length = 11 from rfl, List.drop_drop, ← List.append_assoc]
  exact tl36 P
theorem tl34 (P : Params) : Z34 P ++ objsO P spS34 ((behindTheImports PG).drop 273) = Z63 P := by
  rw [show spS34 = app sp34 spS35 from rfl, objsO_app, show sp34.length = 11 from rfl, List.drop_drop, ← List.append_assoc]
  exact tl35 P
theorem tl33 (P : Params) : Z33 P ++ objsO P spS33 ((behindTheImports PG).drop 262) = Z63 P := by
  rw [show spS33 = app sp33 spS34 from rfl, objsO_app, show sp33.length = 11 from rfl, List.drop_drop, ← List.append_assoc]
  exact tl34 P
theorem tl32 (P : Params) : Z32 P ++ objsO P spS32 ((behindTheImports PG).drop 251) = Z63 P := by
  rw [show spS32 = app sp32 spS33 from rfl, objsO_app, show sp32.length = 11 from rfl, List.drop_drop, ← List.append_assoc]
  exact tl33 P
theorem tl31 (P : Params) : Z31 P ++ objsO P spS31 ((behindTheImports PG).drop 241) = Z63 P := by
  rw [show spS31 = app sp31 spS32 from rfl, objsO_app, show sp31.length = 10 from rfl, List.drop_drop, ← List.append_assoc]
  exact tl32 P
theorem tl30 (P : Params) : Z30 P ++ objsO P spS30 ((behindTheImports PG).drop 231) = Z63 P := by
  rw [show spS30 = app sp30 spS31 from rfl, objsO_app, show sp30.length = 10 from rfl, List.drop_drop, ← List.append_assoc]
  exact tl31 P
theorem tl29 (P : Params) : Z29 P ++ objsO P spS29 ((behindTheImports PG).drop 220) = Z63 P := by
  rw [show spS29 = app sp29 spS30 from rfl, objsO_app, show sp29.length = 11 from rfl, List.drop_drop, ← List.append_assoc]
  exact tl30 P
theorem tl28 (P : Params) : Z28 P ++ objsO P spS28 ((behindTheImports PG).drop 208) = Z63 P := by
  rw [show spS28 = app sp28 spS29 from rfl, objsO_app, show sp28.length = 12 from rfl, List.drop_drop, ← List.append_assoc]
  exact tl29 P
theorem tl27 (P : Params) : Z27 P ++ objsO P spS27 ((behindTheImports PG).drop 197) = Z63 P := by
  rw [show spS27 = app sp27 spS28 from rfl, objsO_app, show sp27.length = 11 from rfl, List.drop_drop, ← List.append_assoc]
  exact tl28 P
theorem tl26 (P : Params) : Z26 P ++ objsO P spS26 ((behindTheImports PG).drop 185) = Z63 P := by
  rw [show spS26 = app sp26 spS27 from rfl, objsO_app, show sp26.length = 12 from rfl, List.drop_drop, ← List.append_assoc]
  exact tl27 P
theorem tl25 (P : Params) : Z25 P ++ objsO P spS25 ((behindTheImports PG).drop 172) = Z63 P := by
  rw [show spS25 = app sp25 spS26 from rfl, objsO_app, show sp25.length = 13 from rfl, List.drop_drop, ← List.append_assoc]
  exact tl26 P
theorem tl24 (P : Params) : Z24 P ++ objsO P spS24 ((behindTheImports PG).drop 160) = Z63 P := by
  rw [show spS24 = app sp24 spS25 from rfl, objsO_app, show sp24.length = 12 from rfl, List.drop_drop, ← List.append_assoc]
  exact tl25 P
theorem tl23 (P : Params) : Z23 P ++ objsO P spS23 ((behindTheImports PG).drop 159) = Z63 P := by
  rw [show spS23 = app sp23 spS24 from rfl, objsO_app, show sp23.length = 1 from rfl, List.drop_drop, ← List.append_assoc]
  exact tl24 P
theorem tl22 (P : Params) : Z22 P ++ objsO P spS22 ((behindTheImports PG).drop 150) = Z63 P := by
  rw [show spS22 = app sp22 spS23 from rfl, objsO_app, show sp22.length = 9 from rfl, List.drop_drop, ← List.append_assoc]
  exact tl23 P
theorem tl21 (P : Params) : Z21 P ++ objsO P spS21 ((behindTheImports PG).drop 137) = Z63 P := by
  rw [show spS21 = app sp21 spS22 from rfl, objsO_app, show sp21.length = 13 from rfl, List.drop_drop, ← List.append_assoc]
  exact tl22 P
theorem tl20 (P : Params) : Z20 P ++ objsO P spS20 ((behindTheImports PG).drop 126) = Z63 P := by
  rw [show spS20 = app sp20 spS21 from rfl, objsO_app, show sp20.length = 11 from rfl, List.drop_drop, ← List.append_assoc]
  exact tl21 P
theorem tl19 (P : Params) : Z19 P ++ objsO P spS19 ((behindTheImports PG).drop 115) = Z63 P := by
  rw [show spS19 = app sp19 spS20 from rfl, objsO_app, show sp19.length = 11 from rfl, List.drop_drop, ← List.append_assoc]
  exact tl20 P
theorem tl18 (P : Params) : Z18 P ++ objsO P spS18 ((behindTheImports PG).drop 111) = Z63 P := by
  rw [show spS18 = app sp18 spS19 from rfl, objsO_app, show sp18.length = 4 from rfl, List.drop_drop, ← List.append_assoc]
  exact tl19 P
theorem tl17 (P : Params) : Z17 P ++ objsO P spS17 ((behindTheImports PG).drop 105) = Z63 P := by
  rw [show spS17 = app sp17 spS18 from rfl, objsO_app, show sp17.length = 6 from rfl, List.drop_drop, ← List.append_assoc]
  exact tl18 P
theorem tl16 (P : Params) : Z16 P ++ objsO P spS16 ((behindTheImports PG).drop 99) = Z63 P := by
  rw [show spS16 = app sp16 spS17 from rfl, objsO_app, show sp16.length = 6 from rfl, List.drop_drop, ← List.append_assoc]
  exact tl17 P
theorem tl15 (P : Params) : Z15 P ++ objsO P spS15 ((behindTheImports PG).drop 93) = Z63 P := by
  rw [show spS15 = app sp15 spS16 from rfl, objsO_app, show sp15.length = 6 from rfl, List.drop_drop, ← List.append_assoc]
  exact tl16 P
theorem tl14 (P : Params) : Z14 P ++ objsO P spS14 ((behindTheImports PG).drop 87) = Z63 P := by
  rw [show spS14 = app sp14 spS15 from rfl, objsO_app, show sp14.length = 6 from rfl, List.drop_drop, ← List.append_assoc]
  exact tl15 P
theorem tl13 (P : Params) : Z13 P ++ objsO P spS13 ((behindTheImports PG).drop 81) = Z63 P := by
  rw [show spS13 = app sp13 spS14 from rfl, objsO_app, show sp13.length = 6 from rfl, List.drop_drop, ← List.append_assoc]
  exact tl14 P
theorem tl12 (P : Params) : Z12 P ++ objsO P spS12 ((behindTheImports PG).drop 75) = Z63 P := by
  rw [show spS12 = app sp12 spS13 from rfl, objsO_app, show sp12.length = 6 from rfl, List.drop_drop, ← List.append_assoc]
  exact tl13 P
theorem tl11 (P : Params) : Z11 P ++ objsO P spS11 ((behindTheImports PG).drop 70) = Z63 P := by
  rw [show spS11 = app sp11 spS12 from rfl, objsO_app, show sp11.length = 5 from rfl, List.drop_drop, ← List.append_assoc]
  exact tl12 P
theorem tl10 (P : Params) : Z10 P ++ objsO P spS10 ((behindTheImports PG).drop 59) = Z63 P := by
  rw [show spS10 = app sp10 spS11 from rfl, objsO_app, show sp10.length = 11 from rfl, List.drop_drop, ← List.append_assoc]
  exact tl11 P
theorem tl9 (P : Params) : Z9 P ++ objsO P spS9 ((behindTheImports PG).drop 48) = Z63 P := by
  rw [show spS9 = app sp9 spS10 from rfl, objsO_app, show sp9.length = 11 from rfl, List.drop_drop, ← List.append_assoc]
  exact tl10 P
theorem tl8 (P : Params) : Z8 P ++ objsO P spS8 ((behindTheImports PG).drop 47) = Z63 P := by
  rw [show spS8 = app sp8 spS9 from rfl, objsO_app, show sp8.length = 1 from rfl, List.drop_drop, ← List.append_assoc]
  exact tl9 P
theorem tl7 (P : Params) : Z7 P ++ objsO P spS7 ((behindTheImports PG).drop 34) = Z63 P := by
  rw [show spS7 = app sp7 spS8 from rfl, objsO_app, show sp7.length = 13 from rfl, List.drop_drop, ← List.append_assoc]
  exact tl8 P
theorem tl6 (P : Params) : Z6 P ++ objsO P spS6 ((behindTheImports PG).drop 33) = Z63 P := by
  rw [show spS6 = app sp6 spS7 from rfl, objsO_app, show sp6.length = 1 from rfl, List.drop_drop, ← List.append_assoc]
  exact tl7 P
theorem tl5 (P : Params) : Z5 P ++ objsO P spS5 ((behindTheImports PG).drop 27) = Z63 P := by
  rw [show spS5 = app sp5 spS6 from rfl, objsO_app, show sp5.length = 6 from rfl, List.drop_drop, ← List.append_assoc]
  exact tl6 P
theorem tl4 (P : Params) : Z4 P ++ objsO P spS4 ((behindTheImports PG).drop 21) = Z63 P := by
  rw [show spS4 = app sp4 spS5 from rfl, objsO_app, show sp4.length = 6 from rfl, List.drop_drop, ← List.append_assoc]
  exact tl5 P
theorem tl3 (P : Params) : Z3 P ++ objsO P spS3 ((behindTheImports PG).drop 15) = Z63 P := by
  rw [show spS3 = app sp3 spS4 from rfl, objsO_app, show sp3.length = 6 from rfl, List.drop_drop, ← List.append_assoc]
  exact tl4 P
theorem tl2 (P : Params) : Z2 P ++ objsO P spS2 ((behindTheImports PG).drop 9) = Z63 P := by
  rw [show spS2 = app sp2 spS3 from rfl, objsO_app, show sp2.length = 6 from rfl, List.drop_drop, ← List.append_assoc]
  exact tl3 P
theorem tl1 (P : Params) : Z1 P ++ objsO P spS1 ((behindTheImports PG).drop 3) = Z63 P := by
  rw [show spS1 = app sp1 spS2 from rfl, objsO_app, show sp1.length = 6 from rfl, List.drop_drop, ← List.append_assoc]
  exact tl2 P
theorem lowE (P : Params) : lowB 74 (hot63 P) (hot63 P) = true := by kernel_rfl
theorem heapE (P : Params) : heapOf (hot63 P) (Z63 P) life0 = ⟨⟨LY PG P⟩, life0⟩ := by
  refine congrArg (fun x => Heap.mk (Array.mk x) life0) ?_
  rw [← tl1 P, ov_app _ _ _ (fun a h => Nat.lt_of_lt_of_eq ((low_of (lowE P)).2 a h) (len1 P).symm)]
  show _ = app _ _
  rw [app_eq, app_eq]
  rfl
def QG (p : Program) : Program := { p with main := { p.main with body := p.main.body.take 2 ++ p.main.body.drop 591, scope := { p.main.scope with names := [("law", .local)] } } }
def lawSt (p : Program) : Stmt := match p.main.body.drop 591 with
  | [s] => s
  | _ => .Pass ps0
def RL (p : Program) : DefRec := ⟨(dfOf (lawSt p)).name, (dfOf (lawSt p)).args, (dfOf (lawSt p)).body, (dfOf (lawSt p)).scope, (dfOf (lawSt p)).pos⟩
noncomputable def HX (p : Program) (P : Params) : Heap := ⟨⟨LY p P⟩, life0⟩
noncomputable def HZ (P : Params) : Heap := ⟨⟨zs P⟩, life0⟩
noncomputable def SX (p : Program) (P : Params) (os : OsState) : Shared := ⟨HX p P, #[], drawn0, 6665, os⟩
noncomputable def es3 (P : Params) : List DictEntry := ent P (Str.ofString "__name__") 165 md49 :: app (dB P) (app (d0v0 P) (app (d1v0 P) (app (d2v0 P) (app (d3v0 P) (app (d4v0 P) (app (d5v0 P) (app (d6v0 P) (app (d7v0 P) (app (d8v0 P) (app (d9v0 P) (app (d10v0 P) (app (d11v0 P) (app (d12v0 P) (app (d13v0 P) (app (d14v0 P) (app (d15v0 P) (app (d16v0 P) (app (d17v0 P) (app (d18v0 P) (app (d19v0 P) (app (d20v0 P) (app (d21v60 P) (app (d22v0 P) (app (d23v0 P) (app (d24v0 P) (app (d25v56 P) (app (d26v0 P) (app (d27v0 P) (app (d28v50 P) (app (d29v47 P) (app (d30v0 P) (app (d31v0 P) (app (d32v48 P) (app (d33v0 P) (app (d34v0 P) (app (d35v0 P) (app (d36v0 P) (app (d37v0 P) (app (d38v53 P) (app (d39v0 P) (app (d40v0 P) (app (d41v0 P) (app (d42v0 P) (app (d43v0 P) (app (d44v0 P) (app (d45v58 P) (app (d46v0 P) (app (d47v0 P) (app (d48v0 P) (app (d49v0 P) (app (d50v61 P) (app (d51v0 P) (app (d52v0 P) (app (d53v0 P) (app (d54v0 P) (app (d55v0 P) (app (d56v0 P) (app (d57v0 P) (app (d58v0 P) (app (d59v0 P) (app (d60v0 P) (app (d61v0 P) (d62v0 P)))))))))))))))))))))))))))))))))))))))))))))))))))))))))))))))
noncomputable def o3 (P : Params) : Obj := ⟨.type "dict", none, .dict ⟨es3 P⟩ 543, #[]⟩
noncomputable def fdL (p : Program) : FuncData := { name := (RL p).name, qualname := (RL p).name, params := (RL p).params, body := .stmts (RL p).body, scope := (RL p).scope, globals := mainGlobals, closure := [], defaults := .none, kwdefaults := .none, pyModule := md49, code := .ref 4501, closureTuple := .none }
noncomputable def oL (p : Program) : Obj := ⟨.type "function", none, .func (fdL p), #[]⟩
noncomputable def vG (p : Program) (P : Params) : Option Obj × Option Obj := ((HX p P).get? 3, (HX p P).get? 4502)
noncomputable def vG' (p : Program) (P : Params) : Option Obj × Option Obj := (some (o3 P), some (oL p))
noncomputable def bA (p : Program) (P : Params) : Bool := (es3 P).all isK && subB p.boundNames (((HX p P).nsKeys mainGlobals).filter fun k => !startupNames.contains k)
noncomputable def vF (p : Program) (P : Params) : Option Value := ((es3 P).find? fun e => e.key.isStr (RL p).name).map (·.val)
noncomputable def bS (p : Program) (P : Params) : Bool := staticsOk (importedModules p.main.body) (HZ P) (HX p P)
noncomputable def bL (p : Program) (P : Params) : Bool := (HZ P).isNs mainGlobals && (laidNames.all fun x => decide ((HX p P).nsMap mainGlobals x = (HZ P).nsMap mainGlobals x))
noncomputable def bI (P : Params) : Bool × Nat × Option Value := ((HZ P).isNs mainGlobals && (#[] : Array GenState).size == 0, (HZ P).objs.size, (HZ P).nsMap mainGlobals "__annotations__")
noncomputable def bM (p : Program) (P : Params) : Bool := (((HX p P).noLimitOk && (HX p P).noDigitsOk) && ((HX p P).isNs builtinsNs && (HX p P).accountedOkI (importedModules p.main.body))) && ((tablesOk (QG p) (HX p P) && (HX p P).bmainOk) && ((valsOk (QG p) (HX p P) && (!importsNone (QG p) || (HX p P).noSeerOk)) && ((HX p P).codeRecOk (.ref 4501) (RL p).name && ((HX p P).tab0At 4501).isSome)))
noncomputable def bX (p : Program) (P : Params) (os : OsState) : Bool := xlAt (QG p) [] (SX p P os)
noncomputable def vB (p : Program) (P : Params) : Option Str × List (Str × Value) := (HX p P).bltView
noncomputable def vB' (_ : Program) : Option Str × List (Str × Value) := bltViewBooted
def vR (p : Program) : List DefRec × (List OwnSpec × Option (DefRec × List (Str × Expr))) := (recsOf (QG p), ownsOf (QG p), defOf (QG p) (Str.ofString "law"))
def vR' (p : Program) : List DefRec × (List OwnSpec × Option (DefRec × List (Str × Expr))) := ([RL p], [], some (RL p, []))
noncomputable def vY (p : Program) (P : Params) (os : OsState) := (pinSeenD (QG p) (drecsOf (QG p)) (SX p P os), plainSeenE (QG p) (looseW (QG p) p.boundNames) (SX p P os), plainSeenD (QG p) p.boundNames (SX p P os), wideSeen (QG p) (SX p P os), clsSeenW (QG p) p.boundNames (SX p P os))
noncomputable def vY' (p : Program) := (pinGoodD (drecsOf (QG p)), plainGoodE (QG p) (looseW (QG p) p.boundNames), plainGoodD (QG p) p.boundNames, wideGood (QG p), clsGoodW (QG p) p.boundNames)
def vD (p : Program) : Option (Arguments × List Stmt × Scope) := p.theDef (Str.ofString "law")
def vD' (p : Program) : Option (Arguments × List Stmt × Scope) := some ((RL p).params, (RL p).body, (RL p).scope)
noncomputable def spAL : List Spc := [((Str.ofString "BadWalkers"), [(Str.ofString "index")]), ((Str.ofString "BadPath"), [(Str.ofString "thing")]), ((Str.ofString "BadStand"), [(Str.ofString "stand")]), ((Str.ofString "NoWalker"), [(Str.ofString "walker")]), ((Str.ofString "NotBehind"), [(Str.ofString "one"), (Str.ofString "other")]), ((Str.ofString "BadRun"), [(Str.ofString "index")]), ((Str.ofString "BadBlocks"), [(Str.ofString "index")]), ((Str.ofString "BadTable"), [(Str.ofString "table")]), ((Str.ofString "BadSome"), [(Str.ofString "index")]), ((Str.ofString "BadName"), [(Str.ofString "name")]), ((Str.ofString "BadNets"), [(Str.ofString "nets")]), ((Str.ofString "BadNumbers"), [(Str.ofString "numbers")]), ((Str.ofString "BadLeft"), [(Str.ofString "left")]), ((Str.ofString "BadOthers"), [(Str.ofString "others")]), ((Str.ofString "BadTimes"), [(Str.ofString "times")]), ((Str.ofString "BadMany"), [(Str.ofString "many")]), ((Str.ofString "BadStep"), [(Str.ofString "step")]), ((Str.ofString "BadTotal"), [(Str.ofString "total")]), ((Str.ofString "BadNumber"), [(Str.ofString "number")]), ((Str.ofString "BadBounds"), [(Str.ofString "bounds")]), ((Str.ofString "BadTeams"), [(Str.ofString "index")]), ((Str.ofString "BadTotals"), [(Str.ofString "index")]), ((Str.ofString "BadChooser"), [(Str.ofString "thing")]), ((Str.ofString "BadStands"), [(Str.ofString "index")]), ((Str.ofString "NoCommon"), [(Str.ofString "ring")]), ((Str.ofString "SameWalker"), [(Str.ofString "walker")]), ((Str.ofString "BadMost"), [(Str.ofString "most")]), ((Str.ofString "BadNoted"), [(Str.ofString "noted")]), ((Str.ofString "BadIndex"), [(Str.ofString "index")]), ((Str.ofString "BadPart"), [(Str.ofString "part")]), ((Str.ofString "BadNotes"), [(Str.ofString "notes")])]
noncomputable def spBL : List Spc := [((Str.ofString "BadPhoto"), [(Str.ofString "photo")]), ((Str.ofString "BadLaps"), [(Str.ofString "laps")]), ((Str.ofString "BadGains"), [(Str.ofString "gains")]), ((Str.ofString "BadPhotos"), [(Str.ofString "index")]), ((Str.ofString "BadWalk"), [(Str.ofString "walk")]), ((Str.ofString "BadHour"), [(Str.ofString "hour")]), ((Str.ofString "BadLooks"), [(Str.ofString "index")]), ((Str.ofString "BadLap"), [(Str.ofString "lap")]), ((Str.ofString "BadPosts"), [(Str.ofString "posts")]), ((Str.ofString "NoPaces"), []), ((Str.ofString "BadSpans"), [(Str.ofString "spans")]), ((Str.ofString "NoneWithin"), []), ((Str.ofString "BadMade"), [(Str.ofString "made")]), ((Str.ofString "BadView"), [(Str.ofString "view")]), ((Str.ofString "BadRow"), [(Str.ofString "index")]), ((Str.ofString "BadLot"), [(Str.ofString "index")]), ((Str.ofString "BadPairs"), [(Str.ofString "index")]), ((Str.ofString "NotWithin"), [(Str.ofString "stand")]), ((Str.ofString "CommonWalker"), [(Str.ofString "name")]), ((Str.ofString "BadSums"), [(Str.ofString "sums")]), ((Str.ofString "BadNames"), [(Str.ofString "names")]), ((Str.ofString "BadPieces"), [(Str.ofString "index")]), ((Str.ofString "BadPrices"), [(Str.ofString "prices")]), ((Str.ofString "BadOrder"), [(Str.ofString "order")]), ((Str.ofString "BadWishes"), [(Str.ofString "index")]), ((Str.ofString "BadSteps"), [(Str.ofString "steps")]), ((Str.ofString "BadMore"), [(Str.ofString "more")]), ((Str.ofString "BadChoice"), [(Str.ofString "thing")]), ((Str.ofString "BadAnswer"), [(Str.ofString "thing")]), ((Str.ofString "BadTop"), [(Str.ofString "top")]), ((Str.ofString "BadDeed"), [(Str.ofString "thing")]), ((Str.ofString "WasOvertaken"), [(Str.ofString "one"), (Str.ofString "other")]), ((Str.ofString "BadQuestion"), [(Str.ofString "thing")]), ((Str.ofString "IsWatched"), [(Str.ofString "question")]), ((Str.ofString "NotWatched"), [(Str.ofString "question")]), ((Str.ofString "WouldChange"), [(Str.ofString "question")]), ((Str.ofString "BadGoal"), [(Str.ofString "goal")]), ((Str.ofString "NoCount"), [(Str.ofString "number")]), ((Str.ofString "BadDesk"), [(Str.ofString "thing")]), ((Str.ofString "BadText"), [(Str.ofString "line")])]
noncomputable def gbL : List Str := [(Str.ofString "list")]
noncomputable def guL : List Str := [(Str.ofString "circles_in"), (Str.ofString "speeds_in"), (Str.ofString "table_of"), (Str.ofString "first_clash"), (Str.ofString "most_in"), (Str.ofString "all_left"), (Str.ofString "left_pairs"), (Str.ofString "least_sums_commons"), (Str.ofString "stand_by_sums"), (Str.ofString "ring_of"), (Str.ofString "made_by_madenumbers"), (Str.ofString "suffered_by"), (Str.ofString "clash_of_netnumbers"), (Str.ofString "span_rooms"), (Str.ofString "parted"), (Str.ofString "groups_of"), (Str.ofString "place_with")]
noncomputable def l1L : NT := [((Str.ofString "is_stand"), [(Str.ofString "path"), (Str.ofString "thing")]), ((Str.ofString "checked_stand"), [(Str.ofString "path"), (Str.ofString "stand")]), ((Str.ofString "first_stand"), [(Str.ofString "path")]), ((Str.ofString "checked_table"), [(Str.ofString "path"), (Str.ofString "table")]), ((Str.ofString "check_noted"), [(Str.ofString "path"), (Str.ofString "noted"), (Str.ofString "most")]), ((Str.ofString "checked_made"), [(Str.ofString "path"), (Str.ofString "numbers")]), ((Str.ofString "beat_asker"), [(Str.ofString "path"), (Str.ofString "asker"), (Str.ofString "top")]), ((Str.ofString "is_one_way"), [(Str.ofString "path"), (Str.ofString "run")]), ((Str.ofString "checked_stands"), [(Str.ofString "path"), (Str.ofString "stands")]), ((Str.ofString "check_total"), [(Str.ofString "path"), (Str.ofString "total")]), ((Str.ofString "count_between"), [(Str.ofString "path"), (Str.ofString "bounds")]), ((Str.ofString "count_by_teams"), [(Str.ofString "path"), (Str.ofString "teams"), (Str.ofString "totals")]), ((Str.ofString "chance_grown"), [(Str.ofString "path"), (Str.ofString "steps"), (Str.ofString "more")]), ((Str.ofString "mean_square"), [(Str.ofString "path"), (Str.ofString "steps")]), ((Str.ofString "is_photo"), [(Str.ofString "path"), (Str.ofString "thing")]), ((Str.ofString "checked_rests"), [(Str.ofString "path"), (Str.ofString "photo")]), ((Str.ofString "fewest_through"), [(Str.ofString "path"), (Str.ofString "photos")]), ((Str.ofString "checked_numbers"), [(Str.ofString "path"), (Str.ofString "numbers")]), ((Str.ofString "checked_nets"), [(Str.ofString "path"), (Str.ofString "nets")]), ((Str.ofString "checked_part"), [(Str.ofString "path"), (Str.ofString "part")]), ((Str.ofString "check_mixed"), [(Str.ofString "path"), (Str.ofString "made"), (Str.ofString "nets")]), ((Str.ofString "count_within"), [(Str.ofString "path"), (Str.ofString "laps")]), ((Str.ofString "stands_within"), [(Str.ofString "path"), (Str.ofString "laps")]), ((Str.ofString "most_within"), [(Str.ofString "path"), (Str.ofString "laps")]), ((Str.ofString "busiest"), [(Str.ofString "path"), (Str.ofString "laps")]), ((Str.ofString "is_walk"), [(Str.ofString "path"), (Str.ofString "thing")]), ((Str.ofString "checked_walk"), [(Str.ofString "path"), (Str.ofString "walk")]), ((Str.ofString "check_looks"), [(Str.ofString "path"), (Str.ofString "lap"), (Str.ofString "posts"), (Str.ofString "looks")]), ((Str.ofString "checked_spans"), [(Str.ofString "path"), (Str.ofString "spans")]), ((Str.ofString "count_notes"), [(Str.ofString "path"), (Str.ofString "most")]), ((Str.ofString "count_noted"), [(Str.ofString "path"), (Str.ofString "most"), (Str.ofString "number")]), ((Str.ofString "check_both"), [(Str.ofString "path"), (Str.ofString "most")]), ((Str.ofString "most_lacking"), [(Str.ofString "path"), (Str.ofString "part"), (Str.ofString "most")]), ((Str.ofString "checked_view"), [(Str.ofString "path"), (Str.ofString "walker"), (Str.ofString "view")]), ((Str.ofString "checked_prices"), [(Str.ofString "path"), (Str.ofString "prices")]), ((Str.ofString "order_ring"), [(Str.ofString "path"), (Str.ofString "order"), (Str.ofString "wishes")]), ((Str.ofString "is_order_ring"), [(Str.ofString "path"), (Str.ofString "order"), (Str.ofString "wishes"), (Str.ofString "thing")]), ((Str.ofString "check_stands"), [(Str.ofString "path"), (Str.ofString "stands")])]
noncomputable def l2L : NT := [((Str.ofString "right_ahead"), [(Str.ofString "path"), (Str.ofString "stand"), (Str.ofString "walker")]), ((Str.ofString "going_round"), [(Str.ofString "path"), (Str.ofString "stand"), (Str.ofString "walker")]), ((Str.ofString "overtaken"), [(Str.ofString "path"), (Str.ofString "stand"), (Str.ofString "one"), (Str.ofString "other")]), ((Str.ofString "net"), [(Str.ofString "path"), (Str.ofString "stand"), (Str.ofString "one"), (Str.ofString "other")]), ((Str.ofString "turned"), [(Str.ofString "path"), (Str.ofString "stand")]), ((Str.ofString "again"), [(Str.ofString "path"), (Str.ofString "stand"), (Str.ofString "times")]), ((Str.ofString "and_then"), [(Str.ofString "path"), (Str.ofString "stand"), (Str.ofString "later")]), ((Str.ofString "undone"), [(Str.ofString "path"), (Str.ofString "stand")]), ((Str.ofString "circles"), [(Str.ofString "path"), (Str.ofString "stand")]), ((Str.ofString "times_back"), [(Str.ofString "path"), (Str.ofString "stand")]), ((Str.ofString "for_ever"), [(Str.ofString "path"), (Str.ofString "stand"), (Str.ofString "one"), (Str.ofString "other")]), ((Str.ofString "fastest"), [(Str.ofString "path"), (Str.ofString "stand")]), ((Str.ofString "table"), [(Str.ofString "path"), (Str.ofString "stand")]), ((Str.ofString "table_clash"), [(Str.ofString "path"), (Str.ofString "table")]), ((Str.ofString "stand_of_table"), [(Str.ofString "path"), (Str.ofString "table")]), ((Str.ofString "overtook"), [(Str.ofString "path"), (Str.ofString "stand"), (Str.ofString "walker")]), ((Str.ofString "overtaken_by"), [(Str.ofString "path"), (Str.ofString "stand"), (Str.ofString "walker")]), ((Str.ofString "in_all"), [(Str.ofString "path"), (Str.ofString "stand")]), ((Str.ofString "of_some"), [(Str.ofString "path"), (Str.ofString "stand"), (Str.ofString "some")]), ((Str.ofString "checked_more"), [(Str.ofString "path"), (Str.ofString "stand"), (Str.ofString "name"), (Str.ofString "nets")]), ((Str.ofString "most_laps"), [(Str.ofString "path"), (Str.ofString "stand")]), ((Str.ofString "is_within"), [(Str.ofString "path"), (Str.ofString "stand"), (Str.ofString "laps")]), ((Str.ofString "first_beyond"), [(Str.ofString "path"), (Str.ofString "stand"), (Str.ofString "laps")]), ((Str.ofString "leads"), [(Str.ofString "path"), (Str.ofString "stand")]), ((Str.ofString "may_overtake"), [(Str.ofString "path"), (Str.ofString "stand"), (Str.ofString "laps")]), ((Str.ofString "run_chosen"), [(Str.ofString "path"), (Str.ofString "stand"), (Str.ofString "chooser"), (Str.ofString "many")]), ((Str.ofString "run_to_numbers"), [(Str.ofString "path"), (Str.ofString "numbers"), (Str.ofString "chooser")]), ((Str.ofString "run_to_notes"), [(Str.ofString "path"), (Str.ofString "noted"), (Str.ofString "most"), (Str.ofString "chooser")]), ((Str.ofString "run_asker"), [(Str.ofString "path"), (Str.ofString "stand"), (Str.ofString "asker")]), ((Str.ofString "least_stand"), [(Str.ofString "path"), (Str.ofString "noted"), (Str.ofString "most")]), ((Str.ofString "run_of_noted"), [(Str.ofString "path"), (Str.ofString "noted"), (Str.ofString "most")]), ((Str.ofString "run_end"), [(Str.ofString "path"), (Str.ofString "stand"), (Str.ofString "run")]), ((Str.ofString "blocks_end"), [(Str.ofString "path"), (Str.ofString "stand"), (Str.ofString "blocks")]), ((Str.ofString "left_in"), [(Str.ofString "path"), (Str.ofString "stand"), (Str.ofString "later")]), ((Str.ofString "is_earlier"), [(Str.ofString "path"), (Str.ofString "stand"), (Str.ofString "later")]), ((Str.ofString "tables_of"), [(Str.ofString "path"), (Str.ofString "stands")]), ((Str.ofString "to_common"), [(Str.ofString "path"), (Str.ofString "stands")]), ((Str.ofString "earlier_ones"), [(Str.ofString "path"), (Str.ofString "stand")]), ((Str.ofString "count_stands"), [(Str.ofString "path"), (Str.ofString "total")]), ((Str.ofString "count_up_to"), [(Str.ofString "path"), (Str.ofString "total")]), ((Str.ofString "count_idle"), [(Str.ofString "path"), (Str.ofString "total"), (Str.ofString "idle")]), ((Str.ofString "mean_idle"), [(Str.ofString "path"), (Str.ofString "total")]), ((Str.ofString "chance_made"), [(Str.ofString "path"), (Str.ofString "total"), (Str.ofString "number")]), ((Str.ofString "chances_made"), [(Str.ofString "path"), (Str.ofString "total")]), ((Str.ofString "distance"), [(Str.ofString "path"), (Str.ofString "stand"), (Str.ofString "one"), (Str.ofString "other")]), ((Str.ofString "drawn_run"), [(Str.ofString "path"), (Str.ofString "stand"), (Str.ofString "steps"), (Str.ofString "chooser")]), ((Str.ofString "photo_of"), [(Str.ofString "path"), (Str.ofString "stand")]), ((Str.ofString "laps_of"), [(Str.ofString "path"), (Str.ofString "stand")]), ((Str.ofString "stand_of_laps"), [(Str.ofString "path"), (Str.ofString "photo"), (Str.ofString "laps")]), ((Str.ofString "are_gains"), [(Str.ofString "path"), (Str.ofString "photo"), (Str.ofString "later"), (Str.ofString "thing")]), ((Str.ofString "overtakings_of"), [(Str.ofString "path"), (Str.ofString "photo"), (Str.ofString "gains")]), ((Str.ofString "photo_turned"), [(Str.ofString "path"), (Str.ofString "photo"), (Str.ofString "many")]), ((Str.ofString "rests_of_both"), [(Str.ofString "path"), (Str.ofString "photo"), (Str.ofString "later")]), ((Str.ofString "numbers_made"), [(Str.ofString "path"), (Str.ofString "stand")]), ((Str.ofString "numbers_suffered"), [(Str.ofString "path"), (Str.ofString "stand")]), ((Str.ofString "checked_with_none"), [(Str.ofString "path"), (Str.ofString "numbers")]), ((Str.ofString "stand_of_made"), [(Str.ofString "path"), (Str.ofString "numbers")]), ((Str.ofString "stand_of_suffered"), [(Str.ofString "path"), (Str.ofString "numbers")]), ((Str.ofString "lists_fault"), [(Str.ofString "path"), (Str.ofString "numbers"), (Str.ofString "others")]), ((Str.ofString "nets_of"), [(Str.ofString "path"), (Str.ofString "stand")]), ((Str.ofString "nets_clash"), [(Str.ofString "path"), (Str.ofString "nets")]), ((Str.ofString "stand_of_nets"), [(Str.ofString "path"), (Str.ofString "nets")]), ((Str.ofString "without_fault"), [(Str.ofString "path"), (Str.ofString "part")]), ((Str.ofString "stand_without"), [(Str.ofString "path"), (Str.ofString "part")]), ((Str.ofString "stand_of_mixed"), [(Str.ofString "path"), (Str.ofString "made"), (Str.ofString "nets")]), ((Str.ofString "wrong_pairs"), [(Str.ofString "path"), (Str.ofString "table")]), ((Str.ofString "with_total"), [(Str.ofString "path"), (Str.ofString "stand"), (Str.ofString "name"), (Str.ofString "total")]), ((Str.ofString "count_just"), [(Str.ofString "path"), (Str.ofString "laps")]), ((Str.ofString "last_within"), [(Str.ofString "path"), (Str.ofString "laps")]), ((Str.ofString "with_more"), [(Str.ofString "path"), (Str.ofString "stand"), (Str.ofString "left")]), ((Str.ofString "made_run"), [(Str.ofString "path"), (Str.ofString "numbers")]), ((Str.ofString "is_made_run"), [(Str.ofString "path"), (Str.ofString "numbers"), (Str.ofString "thing")]), ((Str.ofString "stand_then"), [(Str.ofString "path"), (Str.ofString "walk"), (Str.ofString "hour")]), ((Str.ofString "caught_at"), [(Str.ofString "path"), (Str.ofString "walk"), (Str.ofString "one"), (Str.ofString "other"), (Str.ofString "times")]), ((Str.ofString "next_catch"), [(Str.ofString "path"), (Str.ofString "walk"), (Str.ofString "hour")]), ((Str.ofString "as_at_first"), [(Str.ofString "path"), (Str.ofString "walk")]), ((Str.ofString "shown"), [(Str.ofString "path"), (Str.ofString "walk"), (Str.ofString "stand")]), ((Str.ofString "walk_to"), [(Str.ofString "path"), (Str.ofString "stand")]), ((Str.ofString "room"), [(Str.ofString "path"), (Str.ofString "lap"), (Str.ofString "posts"), (Str.ofString "looks"), (Str.ofString "one"), (Str.ofString "other")]), ((Str.ofString "paces_for"), [(Str.ofString "path"), (Str.ofString "lap"), (Str.ofString "posts"), (Str.ofString "looks")]), ((Str.ofString "pace_ring"), [(Str.ofString "path"), (Str.ofString "lap"), (Str.ofString "posts"), (Str.ofString "looks")]), ((Str.ofString "pace_span"), [(Str.ofString "path"), (Str.ofString "lap"), (Str.ofString "posts"), (Str.ofString "looks"), (Str.ofString "one"), (Str.ofString "other")]), ((Str.ofString "surely_faster"), [(Str.ofString "path"), (Str.ofString "lap"), (Str.ofString "posts"), (Str.ofString "looks")]), ((Str.ofString "fits_netspans"), [(Str.ofString "path"), (Str.ofString "spans"), (Str.ofString "thing")]), ((Str.ofString "span_room"), [(Str.ofString "path"), (Str.ofString "spans"), (Str.ofString "x"), (Str.ofString "y")]), ((Str.ofString "stand_within"), [(Str.ofString "path"), (Str.ofString "spans")]), ((Str.ofString "spans_ring"), [(Str.ofString "path"), (Str.ofString "spans")]), ((Str.ofString "sums_within"), [(Str.ofString "path"), (Str.ofString "spans")]), ((Str.ofString "net_bounds"), [(Str.ofString "path"), (Str.ofString "spans"), (Str.ofString "one"), (Str.ofString "other")]), ((Str.ofString "place_span"), [(Str.ofString "path"), (Str.ofString "spans"), (Str.ofString "walker")]), ((Str.ofString "noted_at"), [(Str.ofString "path"), (Str.ofString "most"), (Str.ofString "index")]), ((Str.ofString "noted_index"), [(Str.ofString "path"), (Str.ofString "noted"), (Str.ofString "most")]), ((Str.ofString "are_notes"), [(Str.ofString "path"), (Str.ofString "thing"), (Str.ofString "most")]), ((Str.ofString "check_notes"), [(Str.ofString "path"), (Str.ofString "notes"), (Str.ofString "most")]), ((Str.ofString "count_ended"), [(Str.ofString "path"), (Str.ofString "most")]), ((Str.ofString "notes"), [(Str.ofString "path"), (Str.ofString "stand"), (Str.ofString "most")]), ((Str.ofString "noted_fault"), [(Str.ofString "path"), (Str.ofString "noted"), (Str.ofString "most")]), ((Str.ofString "notes_of_noted"), [(Str.ofString "path"), (Str.ofString "noted"), (Str.ofString "most")]), ((Str.ofString "stand_at"), [(Str.ofString "path"), (Str.ofString "total"), (Str.ofString "number")]), ((Str.ofString "drawn_stand"), [(Str.ofString "path"), (Str.ofString "total"), (Str.ofString "chooser")]), ((Str.ofString "view"), [(Str.ofString "path"), (Str.ofString "stand"), (Str.ofString "walker")]), ((Str.ofString "place_by"), [(Str.ofString "path"), (Str.ofString "walker"), (Str.ofString "view")]), ((Str.ofString "count_of_view"), [(Str.ofString "path"), (Str.ofString "walker"), (Str.ofString "view")]), ((Str.ofString "stand_seen"), [(Str.ofString "path"), (Str.ofString "walker"), (Str.ofString "view"), (Str.ofString "row")]), ((Str.ofString "checked_watch"), [(Str.ofString "path"), (Str.ofString "stand"), (Str.ofString "lot")]), ((Str.ofString "are_alike_for"), [(Str.ofString "path"), (Str.ofString "stand"), (Str.ofString "other_stand"), (Str.ofString "lot")]), ((Str.ofString "fewest_observers"), [(Str.ofString "path"), (Str.ofString "stand")]), ((Str.ofString "price_between"), [(Str.ofString "path"), (Str.ofString "prices"), (Str.ofString "stand"), (Str.ofString "later")]), ((Str.ofString "cheapest_in_order"), [(Str.ofString "path"), (Str.ofString "prices"), (Str.ofString "order"), (Str.ofString "wishes")]), ((Str.ofString "price_weights"), [(Str.ofString "path"), (Str.ofString "prices"), (Str.ofString "order"), (Str.ofString "wishes")]), ((Str.ofString "are_price_weights"), [(Str.ofString "path"), (Str.ofString "prices"), (Str.ofString "order"), (Str.ofString "wishes"), (Str.ofString "thing")]), ((Str.ofString "best_of_orders"), [(Str.ofString "path"), (Str.ofString "prices"), (Str.ofString "wishes")]), ((Str.ofString "spread"), [(Str.ofString "path"), (Str.ofString "stand"), (Str.ofString "names")]), ((Str.ofString "team_clash"), [(Str.ofString "path"), (Str.ofString "stand"), (Str.ofString "pieces")]), ((Str.ofString "gathered"), [(Str.ofString "path"), (Str.ofString "stand"), (Str.ofString "pieces")]), ((Str.ofString "begun_with"), [(Str.ofString "path"), (Str.ofString "stand"), (Str.ofString "walker")]), ((Str.ofString "stands_in"), [(Str.ofString "path"), (Str.ofString "spans")]), ((Str.ofString "spans_of"), [(Str.ofString "path"), (Str.ofString "stands")])]
noncomputable def l3L : NT := [((Str.ofString "with_one_more"), [(Str.ofString "path"), (Str.ofString "stand"), (Str.ofString "name"), (Str.ofString "nets")]), ((Str.ofString "one_more_clash"), [(Str.ofString "path"), (Str.ofString "stand"), (Str.ofString "name"), (Str.ofString "nets")]), ((Str.ofString "fewest"), [(Str.ofString "path"), (Str.ofString "stand"), (Str.ofString "later")]), ((Str.ofString "first_ones"), [(Str.ofString "path"), (Str.ofString "stand"), (Str.ofString "later")]), ((Str.ofString "last_ones"), [(Str.ofString "path"), (Str.ofString "stand"), (Str.ofString "later")]), ((Str.ofString "shortest_run"), [(Str.ofString "path"), (Str.ofString "stand"), (Str.ofString "later")]), ((Str.ofString "is_shortest"), [(Str.ofString "path"), (Str.ofString "stand"), (Str.ofString "later"), (Str.ofString "thing")]), ((Str.ofString "is_between_shortestruns"), [(Str.ofString "path"), (Str.ofString "stand"), (Str.ofString "later"), (Str.ofString "mid")]), ((Str.ofString "stand_after"), [(Str.ofString "path"), (Str.ofString "stand"), (Str.ofString "later"), (Str.ofString "many")]), ((Str.ofString "last_common"), [(Str.ofString "path"), (Str.ofString "stands")]), ((Str.ofString "common_ring"), [(Str.ofString "path"), (Str.ofString "stands")]), ((Str.ofString "is_common_ring"), [(Str.ofString "path"), (Str.ofString "stands"), (Str.ofString "thing")]), ((Str.ofString "first_common"), [(Str.ofString "path"), (Str.ofString "stands")]), ((Str.ofString "checked_two"), [(Str.ofString "path"), (Str.ofString "stands"), (Str.ofString "one"), (Str.ofString "other")]), ((Str.ofString "further_on"), [(Str.ofString "path"), (Str.ofString "stand"), (Str.ofString "one"), (Str.ofString "other")]), ((Str.ofString "fewest_between"), [(Str.ofString "path"), (Str.ofString "photo"), (Str.ofString "later")]), ((Str.ofString "fewest_gains"), [(Str.ofString "path"), (Str.ofString "photo"), (Str.ofString "later")]), ((Str.ofString "count_fewest"), [(Str.ofString "path"), (Str.ofString "photo"), (Str.ofString "later")]), ((Str.ofString "pairs_by"), [(Str.ofString "path"), (Str.ofString "photo"), (Str.ofString "later"), (Str.ofString "is_sure")]), ((Str.ofString "can_be_between"), [(Str.ofString "path"), (Str.ofString "photo"), (Str.ofString "later"), (Str.ofString "many")]), ((Str.ofString "fewest_turned"), [(Str.ofString "path"), (Str.ofString "photo"), (Str.ofString "later")]), ((Str.ofString "laps_off"), [(Str.ofString "path"), (Str.ofString "numbers")]), ((Str.ofString "wrong_numbers"), [(Str.ofString "path"), (Str.ofString "numbers"), (Str.ofString "others")]), ((Str.ofString "wrong_nets"), [(Str.ofString "path"), (Str.ofString "nets")]), ((Str.ofString "numbers_behind"), [(Str.ofString "path"), (Str.ofString "numbers"), (Str.ofString "one"), (Str.ofString "other")]), ((Str.ofString "sure_overtakers"), [(Str.ofString "path"), (Str.ofString "spans")]), ((Str.ofString "notes_clash"), [(Str.ofString "path"), (Str.ofString "notes"), (Str.ofString "most")]), ((Str.ofString "shown_notes"), [(Str.ofString "path"), (Str.ofString "notes"), (Str.ofString "most")]), ((Str.ofString "noted"), [(Str.ofString "path"), (Str.ofString "stand"), (Str.ofString "most")]), ((Str.ofString "stand_number"), [(Str.ofString "path"), (Str.ofString "stand")]), ((Str.ofString "arcs"), [(Str.ofString "path"), (Str.ofString "stand"), (Str.ofString "lot")]), ((Str.ofString "count_alike"), [(Str.ofString "path"), (Str.ofString "stand"), (Str.ofString "lot")]), ((Str.ofString "nets_known"), [(Str.ofString "path"), (Str.ofString "stand"), (Str.ofString "lot"), (Str.ofString "one"), (Str.ofString "other")]), ((Str.ofString "seams_left"), [(Str.ofString "path"), (Str.ofString "stand"), (Str.ofString "lot")]), ((Str.ofString "knows_all"), [(Str.ofString "path"), (Str.ofString "stand"), (Str.ofString "lot")]), ((Str.ofString "tells_all"), [(Str.ofString "path"), (Str.ofString "stand"), (Str.ofString "lot"), (Str.ofString "pairs")]), ((Str.ofString "chance_first"), [(Str.ofString "path"), (Str.ofString "stand"), (Str.ofString "one"), (Str.ofString "other")]), ((Str.ofString "mean_steps"), [(Str.ofString "path"), (Str.ofString "stand"), (Str.ofString "one"), (Str.ofString "other")]), ((Str.ofString "draws_at"), [(Str.ofString "path"), (Str.ofString "stand"), (Str.ofString "one"), (Str.ofString "other"), (Str.ofString "steps")]), ((Str.ofString "cheapest"), [(Str.ofString "path"), (Str.ofString "prices"), (Str.ofString "wishes")]), ((Str.ofString "cheapest_order"), [(Str.ofString "path"), (Str.ofString "prices"), (Str.ofString "wishes")]), ((Str.ofString "bounds_of"), [(Str.ofString "path"), (Str.ofString "stand"), (Str.ofString "later"), (Str.ofString "step"), (Str.ofString "another")]), ((Str.ofString "count_runs"), [(Str.ofString "path"), (Str.ofString "stand"), (Str.ofString "later")]), ((Str.ofString "runs_between"), [(Str.ofString "path"), (Str.ofString "stand"), (Str.ofString "later")]), ((Str.ofString "count_fits"), [(Str.ofString "path"), (Str.ofString "spans")]), ((Str.ofString "all_fits"), [(Str.ofString "path"), (Str.ofString "spans")])]
noncomputable def l4L : NT := [((Str.ofString "holding_row"), [(Str.ofString "path"), (Str.ofString "stands"), (Str.ofString "one"), (Str.ofString "other")]), ((Str.ofString "is_holding_row"), [(Str.ofString "path"), (Str.ofString "stands"), (Str.ofString "one"), (Str.ofString "other"), (Str.ofString "thing")]), ((Str.ofString "done_with"), [(Str.ofString "path"), (Str.ofString "stands"), (Str.ofString "one"), (Str.ofString "other")]), ((Str.ofString "surely_between"), [(Str.ofString "path"), (Str.ofString "photo"), (Str.ofString "later")]), ((Str.ofString "perhaps_between"), [(Str.ofString "path"), (Str.ofString "photo"), (Str.ofString "later")]), ((Str.ofString "groups"), [(Str.ofString "path"), (Str.ofString "notes"), (Str.ofString "most")]), ((Str.ofString "last_stand"), [(Str.ofString "path"), (Str.ofString "notes"), (Str.ofString "most")]), ((Str.ofString "net_span"), [(Str.ofString "path"), (Str.ofString "notes"), (Str.ofString "most"), (Str.ofString "one"), (Str.ofString "other")]), ((Str.ofString "stands_showing"), [(Str.ofString "path"), (Str.ofString "notes"), (Str.ofString "most")]), ((Str.ofString "both_shown"), [(Str.ofString "path"), (Str.ofString "notes"), (Str.ofString "later"), (Str.ofString "most")]), ((Str.ofString "next_changes"), [(Str.ofString "path"), (Str.ofString "notes"), (Str.ofString "most")]), ((Str.ofString "change_shown"), [(Str.ofString "path"), (Str.ofString "notes"), (Str.ofString "most"), (Str.ofString "one"), (Str.ofString "other")]), ((Str.ofString "chances_further"), [(Str.ofString "path"), (Str.ofString "stand"), (Str.ofString "one"), (Str.ofString "other"), (Str.ofString "steps")]), ((Str.ofString "mean_net"), [(Str.ofString "path"), (Str.ofString "stand"), (Str.ofString "one"), (Str.ofString "other"), (Str.ofString "steps")]), ((Str.ofString "shown_behind"), [(Str.ofString "path"), (Str.ofString "stand"), (Str.ofString "later"), (Str.ofString "step"), (Str.ofString "another")]), ((Str.ofString "goes_ahead"), [(Str.ofString "path"), (Str.ofString "stand"), (Str.ofString "later"), (Str.ofString "step"), (Str.ofString "another")])]
noncomputable def l5L : NT := [((Str.ofString "forcing_row"), [(Str.ofString "path"), (Str.ofString "stands"), (Str.ofString "one"), (Str.ofString "other")]), ((Str.ofString "is_forcing_row"), [(Str.ofString "path"), (Str.ofString "stands"), (Str.ofString "one"), (Str.ofString "other"), (Str.ofString "thing")]), ((Str.ofString "free_lot"), [(Str.ofString "path"), (Str.ofString "notes"), (Str.ofString "most")]), ((Str.ofString "fewest_changes"), [(Str.ofString "path"), (Str.ofString "notes"), (Str.ofString "later"), (Str.ofString "most")]), ((Str.ofString "row_of_notes"), [(Str.ofString "path"), (Str.ofString "notes"), (Str.ofString "later"), (Str.ofString "most")])]
noncomputable def LsL : Lists := ⟨spAL, spBL, gbL, guL, l1L, l2L, l3L, l4L, l5L⟩
noncomputable def rsL : List (List Nat) := [[1, 2, 3, 827, 828, 844, 845, 849, 850, 861, 862, 873, 874, 880, 881, 894, 895, 908, 909, 913, 914, 937, 938, 942, 943, 947, 948, 954, 955, 961, 962, 968, 969, 973, 974, 1830, 1831, 1835, 1836, 1849, 1850, 1861, 1862, 1866, 1867, 1871, 1872, 1876, 1877, 1888, 1889, 1895, 1896, 1902, 1903, 1909, 1910, 1930, 1931, 1937, 1938, 1944, 1945, 1949, 1950, 1961, 1962, 2224, 2225, 2260, 2261, 2265, 2266, 2277, 2278, 2287, 2288, 2311, 2312, 2323, 2324, 2330, 2331, 2337, 2338, 2356, 2357, 2361, 2362, 2378, 2379, 2390, 2391, 2402, 2403, 2414, 2415, 2419, 2420, 2443, 2444, 2448, 2449, 2453, 2454, 2458, 2459, 2470, 2471, 2475, 2476, 2480, 2481, 2521, 2522, 2550, 2551, 2555, 2556, 2569, 2570, 2574, 2575, 2581, 2582, 2588, 2589, 2607, 2608, 2614, 2615, 2621, 2622, 2633, 2634, 2640, 2641, 2675, 2676, 2682, 2683, 2689, 2690, 2696, 2697, 2703, 2704, 2717, 2718, 2724, 2725, 2738, 2739, 2750, 2751, 2764, 2765, 2771, 2772, 2792, 2793, 2799, 2800, 2806, 2807, 2813, 2814, 2825, 2826, 2830, 2831, 2835, 2836, 2840, 2841, 2850, 2851, 2869, 2870, 2876, 2877, 2888, 2889, 2902, 2903, 2909, 2910, 2919, 2920, 2924, 2925, 2931, 2932, 2938, 2939, 2945, 2946, 2950, 2951, 2955, 2956, 2972, 2973, 2979, 2980, 2984, 2985, 2991, 2992, 3032, 3033, 3037, 3038, 3044, 3045, 3049, 3050, 3054, 3055, 3059, 3060, 3071, 3072, 3078, 3079, 3090, 3091, 3095, 3096, 3102, 3103, 3107, 3108, 3112, 3113, 3131, 3132, 3136, 3137, 3148, 3149, 3155, 3156, 3169, 3170, 3176, 3177, 3188, 3189, 3193, 3194, 3200, 3201, 3207, 3208, 3214, 3215, 3221, 3222, 3226, 3227, 3233, 3234, 3259, 3260, 3266, 3267, 3299, 3300, 3313, 3314, 3327, 3328, 3334, 3335, 3341, 3342, 3346, 3347, 3360, 3361, 3381, 3382, 3393, 3394, 3400, 3401, 3426, 3427, 3431, 3432, 3457, 3458, 3469, 3470, 3488, 3489, 3498, 3499, 3505, 3506, 3512, 3513, 3533, 3534, 3538, 3539, 3543, 3544, 3550, 3551, 3564, 3565, 3576, 3577, 3583, 3584, 3590, 3591, 3619, 3620, 3626, 3627, 3633, 3634, 3640, 3641, 3664, 3665, 3671, 3672, 3678, 3679, 3697, 3698, 3704, 3705, 3716, 3717, 3757, 3758, 3762, 3763, 3795, 3796, 3807, 3808, 3812, 3813, 3831, 3832, 3836, 3837, 3843, 3844, 3850, 3851, 3860, 3861, 3888, 3889, 3895, 3896, 3902, 3903, 3919, 3920, 3924, 3925, 3938, 3939, 3945, 3946, 3957, 3958, 3969, 3970, 3988, 3989, 3993, 3994, 4000, 4001, 4007, 4008, 4019, 4020, 4026, 4027, 4031, 4032, 4036, 4037, 4043, 4044, 4050, 4051, 4060, 4061, 4065, 4066, 4072, 4073, 4077, 4078, 4102, 4103, 4156, 4157, 4163, 4164, 4168, 4169, 4209, 4210, 4226, 4227, 4233, 4234, 4240, 4241, 4247, 4248, 4264, 4265, 4271, 4272, 4278, 4279, 4290, 4291, 4304, 4305, 4314, 4315, 4331, 4332, 4336, 4337, 4343, 4344, 4367, 4368, 4374, 4375, 4381, 4382, 4388, 4389, 4393, 4394, 4400, 4401, 4407, 4408, 4414, 4415, 4421, 4422, 4428, 4429, 4435, 4436, 4442, 4443, 4447, 4448, 4454, 4455, 4461, 4462, 4468, 4469, 4475, 4476, 4482, 4483, 4489, 4490, 4494, 4495, 4501, 4502], [69, 70, 77, 88, 89, 91, 92, 98, 109, 110, 112, 113, 119, 130, 131, 133, 134, 140, 151, 152, 154, 155, 161, 172, 173, 175, 176, 182, 193, 194, 196, 197, 203, 214, 215, 217, 218, 224, 235, 236, 238, 239, 245, 256, 257, 259, 260, 266, 277, 278, 280, 281, 287, 298, 299, 301, 302, 308, 319, 320, 322, 323, 329, 340, 341, 343, 344, 350, 361, 362, 364, 365, 371, 382, 383, 385, 386, 392, 403, 404, 406, 407, 413, 424, 425, 427, 428, 434, 445, 446, 448, 449, 455, 466, 467, 469, 470, 476, 487, 488, 490, 491, 497, 508, 509, 511, 512, 518, 529, 530, 532, 533, 539, 550, 551, 553, 554, 560, 571, 572, 574, 575, 581, 592, 593, 595, 596, 602, 613, 614, 616, 617, 623, 634, 635, 637, 638, 644, 655, 656, 658, 659, 665, 676, 677, 679, 680, 686, 697, 698, 700, 701, 707, 718, 719, 721, 722, 792, 793, 816, 817, 978, 989, 990, 992, 993, 999, 1010, 1011, 1013, 1014, 1020, 1031, 1032, 1034, 1035, 1041, 1052, 1053, 1055, 1056, 1062, 1073, 1074, 1076, 1077, 1083, 1094, 1095, 1097, 1098, 1104, 1115, 1116, 1118, 1119, 1125, 1136, 1137, 1139, 1140, 1146, 1157, 1158, 1160, 1161, 1167, 1178, 1179, 1181, 1182, 1188, 1199, 1200, 1202, 1203, 1209, 1220, 1221, 1223, 1224, 1230, 1241, 1242, 1244, 1245, 1251, 1262, 1263, 1265, 1266, 1272, 1283, 1284, 1286, 1287, 1293, 1304, 1305, 1307, 1308, 1314, 1325, 1326, 1328, 1329, 1335, 1346, 1347, 1349, 1350, 1356, 1367, 1368, 1370, 1371, 1377, 1388, 1389, 1391, 1392, 1398, 1409, 1410, 1412, 1413, 1419, 1430, 1431, 1433, 1434, 1440, 1451, 1452, 1454, 1455, 1461, 1472, 1473, 1475, 1476, 1482, 1493, 1494, 1496, 1497, 1503, 1514, 1515, 1517, 1518, 1524, 1535, 1536, 1538, 1539, 1545, 1556, 1557, 1559, 1560, 1566, 1577, 1578, 1580, 1581, 1587, 1598, 1599, 1601, 1602, 1608, 1619, 1620, 1622, 1623, 1629, 1640, 1641, 1643, 1644, 1650, 1661, 1662, 1664, 1665, 1671, 1682, 1683, 1685, 1686, 1692, 1703, 1704, 1706, 1707, 1713, 1724, 1725, 1727, 1728, 1734, 1745, 1746, 1748, 1749, 1755, 1766, 1767, 1769, 1770, 1776, 1787, 1788, 1790, 1791, 1797, 1808, 1809, 1811, 1812]]
noncomputable def tbL : List Nat := [4417, 4424, 4464, 4471, 4478, 4485]
noncomputable def KX (p : Program) (P : Params) : PySem.W.Frag := KRw (LY p P) rsL
noncomputable def cA (p : Program) (P : Params) : Bool := exA p.main.file LsL (KX p P)
noncomputable def cB1 (p : Program) (P : Params) : Bool := clsB p.main.file (KX p P) (clOf (KX p P) "WalkError") LsL.spA
noncomputable def cB2 (p : Program) (P : Params) : Bool := clsB p.main.file (KX p P) (clOf (KX p P) "WalkError") LsL.spB
noncomputable def cC0 (p : Program) (P : Params) : Bool := ckB (KX p P) (clOf (KX p P) "Path") (clOf (KX p P) "BadPath") && rdB (KX p P) LsL.gb LsL.gu
noncomputable def cC1 (p : Program) (P : Params) : Bool := lvB (KX p P) (gOf LsL.gb LsL.gu) nt0 LsL.l1
noncomputable def cC2 (p : Program) (P : Params) : Bool := lvB (KX p P) (gOf LsL.gb LsL.gu) (nt0 ++ LsL.l1) LsL.l2
noncomputable def cC3 (p : Program) (P : Params) : Bool := lvB (KX p P) (gOf LsL.gb LsL.gu) ((nt0 ++ LsL.l1) ++ LsL.l2) LsL.l3
noncomputable def cC4 (p : Program) (P : Params) : Bool := lvB (KX p P) (gOf LsL.gb LsL.gu) (((nt0 ++ LsL.l1) ++ LsL.l2) ++ LsL.l3) LsL.l4 && lvB (KX p P) (gOf LsL.gb LsL.gu) ((((nt0 ++ LsL.l1) ++ LsL.l2) ++ LsL.l3) ++ LsL.l4) LsL.l5
noncomputable def cD (p : Program) (P : Params) : Bool := (exD LsL (KX p P) && exG LsL (KX p P)) && tabC (KRw (LY p P) [tbL]) (KX p P)
noncomputable def cE (p : Program) (P : Params) : Bool := exE LsL (KX p P)
theorem mn_vG : Function.const _ true vG = true := by first | k_qdec | rfl
theorem mn_vGp : Function.const _ true vG' = true := by first | k_qdec | rfl
theorem mn_bA : Function.const _ true bA = true := by first | k_qdec | rfl
theorem mn_vF : Function.const _ true vF = true := by first | k_qdec | rfl
theorem mn_bS : Function.const _ true bS = true := by first | k_qdec | rfl
theorem mn_bL : Function.const _ true bL = true := by first | k_qdec | rfl
theorem mn_bI : Function.const _ true bI = true := by first | k_qdec | rfl
theorem mn_bM : Function.const _ true bM = true := by first | k_qdec | rfl
theorem mn_bX : Function.const _ true bX = true := by first | k_qdec | rfl
theorem mn_vB : Function.const _ true vB = true := by first | k_qdec | rfl
theorem mn_vBp : Function.const _ true vB' = true := by first | k_qdec | rfl
theorem mn_vR : Function.const _ true vR = true := by first | k_qdec | rfl
theorem mn_vRp : Function.const _ true vR' = true := by first | k_qdec | rfl
theorem mn_vY : Function.const _ true vY = true := by first | k_qdec | rfl
theorem mn_vYp : Function.const _ true vY' = true := by first | k_qdec | rfl
theorem mn_vD : Function.const _ true vD = true := by first | k_qdec | rfl
theorem mn_vDp : Function.const _ true vD' = true := by first | k_qdec | rfl
theorem mn_cA : Function.const _ true cA = true := by first | k_qdec | rfl
theorem mn_cB1 : Function.const _ true cB1 = true := by first | k_qdec | rfl
theorem mn_cB2 : Function.const _ true cB2 = true := by first | k_qdec | rfl
theorem mn_cC0 : Function.const _ true cC0 = true := by first | k_qdec | rfl
theorem mn_cC1 : Function.const _ true cC1 = true := by first | k_qdec | rfl
theorem mn_cC2 : Function.const _ true cC2 = true := by first | k_qdec | rfl
theorem mn_cC3 : Function.const _ true cC3 = true := by first | k_qdec | rfl
theorem mn_cC4 : Function.const _ true cC4 = true := by first | k_qdec | rfl
theorem mn_cD : Function.const _ true cD = true := by first | k_qdec | rfl
theorem mn_cE : Function.const _ true cE = true := by first | k_qdec | rfl
end RWk
end
section
/-! W3: the looks at the text. -/
namespace RWk
open PySem PySem.W PySem.Calls PyProof.Rows
inductive BTS where
  | l
  | n (a : BTS) (s : Str) (b : BTS)
noncomputable def fT (x : Str) (t : BTS) : Bool :=
  @BTS.rec (fun _ => Bool) false (fun _ s _ ia ib => @Bool.rec (fun _ => Bool) (@Bool.rec (fun _ => Bool) ib ia (Nat.ble (Fast.code x.cps.toList) (Fast.code s.cps.toList))) (Fast.sEq x s) (Nat.beq (Fast.code x.cps.toList) (Fast.code s.cps.toList))) t
noncomputable def allT (f : Str → Bool) (t : BTS) : Bool := @BTS.rec (fun _ => Bool) true (fun _ s _ ia ib => f s && (ia && ib)) t
theorem fT_ok {f : Str → Bool} {x : Str} : ∀ {t : BTS}, allT f t = true → fT x t = true → f x = true
  | .l, _, h => by
    have h' : false = true := h
    cases h'
  | .n a s b, g, h => by
    have g' : (f s && (allT f a && allT f b)) = true := g
    obtain ⟨g1, g2⟩ := Bool.and_eq_true_iff.mp g'
    obtain ⟨g3, g4⟩ := Bool.and_eq_true_iff.mp g2
    have h' : @Bool.rec (fun _ => Bool) (@Bool.rec (fun _ => Bool) (fT x b) (fT x a) (Nat.ble (Fast.code x.cps.toList) (Fast.code s.cps.toList))) (Fast.sEq x s) (Nat.beq (Fast.code x.cps.toList) (Fast.code s.cps.toList)) = true := h
    cases c : Nat.beq (Fast.code x.cps.toList) (Fast.code s.cps.toList) with
    | true =>
      rw [c] at h'
      have e : x = s := Fast.sEq_iff.mp h'
      rw [e]
      exact g1
    | false =>
      rw [c] at h'
      cases d : Nat.ble (Fast.code x.cps.toList) (Fast.code s.cps.toList) with
      | true =>
        rw [d] at h'
        exact fT_ok g3 h'
      | false =>
        rw [d] at h'
        exact fT_ok g4 h'
noncomputable def tabW : BTS := (.n (.n (.n (.n (.n (.n (.n (.n (.n (.n .l (Str.ofString "k") .l) (Str.ofString "x") (.n .l (Str.ofString "y") .l)) (Str.ofString "z") (.n (.n .l (Str.ofString ".0") .l) (Str.ofString "do") .l)) (Str.ofString "up") (.n (.n (.n .l (Str.ofString "at") .l) (Str.ofString "by") .l) (Str.ofString "gcd") (.n (.n .l (Str.ofString "odd") .l) (Str.ofString "mid") .l))) (Str.ofString "end") (.n (.n (.n (.n .l (Str.ofString "one") .l) (Str.ofString "due") .l) (Str.ofString "all") (.n (.n .l (Str.ofString "sum") .l) (Str.ofString "len") .l)) (Str.ofString "min") (.n (.n (.n .l (Str.ofString "run") .l) (Str.ofString "two") .l) (Str.ofString "gap") (.n (.n .l (Str.ofString "lap") .l) (Str.ofString "zip") .l)))) (Str.ofString "top") (.n (.n (.n (.n (.n .l (Str.ofString "far") .l) (Str.ofString "str") (.n .l (Str.ofString "abs") .l)) (Str.ofString "met") (.n (.n .l (Str.ofString "net") .l) (Str.ofString "set") .l)) (Str.ofString "int") (.n (.n (.n .l (Str.ofString "lot") .l) (Str.ofString "law") .l) (Str.ofString "few") (.n (.n .l (Str.ofString "low") .l) (Str.ofString "now") .l))) (Str.ofString "row") (.n (.n (.n (.n .l (Str.ofString "max") .l) (Str.ofString "way") .l) (Str.ofString "key") (.n (.n .l (Str.ofString "any") .l) (Str.ofString "comb") .l)) (Str.ofString "deed") (.n (.n (.n .l (Str.ofString "held") .l) (Str.ofString "told") .l) (Str.ofString "kind") (.n (.n .l (Str.ofString "word") .l) (Str.ofString "once") .l))))) (Str.ofString "made") (.n (.n (.n (.n (.n (.n .l (Str.ofString "wide") .l) (Str.ofString "idle") (.n .l (Str.ofString "name") .l)) (Str.ofString "same") (.n (.n .l (Str.ofString "time") .l) (Str.ofString "some") .l)) (Str.ofString "fine") (.n (.n (.n .l (Str.ofString "line") .l) (Str.ofString "mine") .l) (Str.ofString "gone") (.n (.n .l (Str.ofString "lone") .l) (Str.ofString "here") .l))) (Str.ofString "more") (.n (.n (.n (.n .l (Str.ofString "base") .l) (Str.ofString "gate") .l) (Str.ofString "self") (.n (.n .l (Str.ofString "ring") .l) (Str.ofString "high") .l)) (Str.ofString "wish") (.n (.n (.n .l (Str.ofString "Path") .l) (Str.ofString "path") .l) (Str.ofString "both") (.n (.n .l (Str.ofString "back") .l) (Str.ofString "walk") .l)))) (Str.ofString "rank") (.n (.n (.n (.n (.n .l (Str.ofString "work") .l) (Str.ofString "Desk") (.n .l (Str.ofString "goal") .l)) (Str.ofString "full") (.n (.n .l (Str.ofString "bool") .l) (Str.ofString "team") .l)) (Str.ofString "room") (.n (.n (.n .l (Str.ofString "form") .l) (Str.ofString "span") .l) (Str.ofString "then") (.n (.n .l (Str.ofString "when") .l) (Str.ofString "sign") .l))) (Str.ofString "gain") (.n (.n (.n (.n .l (Str.ofString "turn") .l) (Str.ofString "down") .l) (Str.ofString "undo") (.n (.n .l (Str.ofString "step") .l) (Str.ofString "pair") .l)) (Str.ofString "repr") (.n (.n (.n .l (Str.ofString "hour") .l) (Str.ofString "arcs") .l) (Str.ofString "sums") (.n (.n .l (Str.ofString "laps") .l) (Str.ofString "less") .l)))))) (Str.ofString "nets") (.n (.n (.n (.n (.n (.n (.n .l (Str.ofString "fits") .l) (Str.ofString "rows") (.n .l (Str.ofString "ways") .l)) (Str.ofString "dict") (.n (.n .l (Str.ofString "left") .l) (Str.ofString "part") .l)) (Str.ofString "last") (.n (.n (.n .l (Str.ofString "best") .l) (Str.ofString "rest") .l) (Str.ofString "list") (.n (.n .l (Str.ofString "most") .l) (Str.ofString "view") .l))) (Str.ofString "slow") (.n (.n (.n (.n .l (Str.ofString "many") .l) (Str.ofString "copy") .l) (Str.ofString "ahead") (.n (.n .l (Str.ofString "asked") .l) (Str.ofString "noted") .l)) (Str.ofString "moved") (.n (.n (.n .l (Str.ofString "would") .l) (Str.ofString "stand") .l) (Str.ofString "found") (.n (.n .l (Str.ofString "third") .l) (Str.ofString "place") .l)))) (Str.ofString "piece") (.n (.n (.n (.n (.n .l (Str.ofString "price") .l) (Str.ofString "range") (.n .l (Str.ofString "table") .l)) (Str.ofString "whole") (.n (.n .l (Str.ofString "tuple") .l) (Str.ofString "there") .l)) (Str.ofString "close") (.n (.n (.n .l (Str.ofString "value") .l) (Str.ofString "above") .l) (Str.ofString "thing") (.n (.n .l (Str.ofString "wrong") .l) (Str.ofString "clash") .l))) (Str.ofString "worth") (.n (.n (.n (.n .l (Str.ofString "quick") .l) (Str.ofString "block") .l) (Str.ofString "trial") (.n (.n .l (Str.ofString "total") .l) (Str.ofString "_wall") .l)) (Str.ofString "still") (.n (.n (.n .l (Str.ofString "taken") .l) (Str.ofString "often") .l) (Str.ofString "again") (.n (.n .l (Str.ofString "begin") .l) (Str.ofString "begun") .l))))) (Str.ofString "shown") (.n (.n (.n (.n (.n (.n .l (Str.ofString "known") .l) (Str.ofString "grown") (.n .l (Str.ofString "photo") .l)) (Str.ofString "group") (.n (.n .l (Str.ofString "order") .l) (Str.ofString "other") .l)) (Str.ofString "asker") (.n (.n (.n .l (Str.ofString "super") .l) (Str.ofString "later") .l) (Str.ofString "fewer") (.n (.n .l (Str.ofString "power") .l) (Str.ofString "leads") .l))) (Str.ofString "deeds") (.n (.n (.n (.n .l (Str.ofString "kinds") .l) (Str.ofString "paces") .l) (Str.ofString "names") (.n (.n .l (Str.ofString "times") .l) (Str.ofString "notes") .l)) (Str.ofString "sizes") (.n (.n (.n .l (Str.ofString "roofs") .l) (Str.ofString "ranks") .l) (Str.ofString "looks") (.n (.n .l (Str.ofString "marks") .l) (Str.ofString "teams") .l)))) (Str.ofString "rooms") (.n (.n (.n (.n (.n .l (Str.ofString "forms") .l) (Str.ofString "spans") (.n .l (Str.ofString "gains") .l)) (Str.ofString "steps") (.n (.n .l (Str.ofString "pairs") .l) (Str.ofString "spots") .l)) (Str.ofString "parts") (.n (.n (.n .l (Str.ofString "rests") .l) (Str.ofString "posts") .l) (Str.ofString "draws") (.n (.n .l (Str.ofString "right") .l) (Str.ofString "tight") .l))) (Str.ofString "front") (.n (.n (.n (.n .l (Str.ofString "count") .l) (Str.ofString "apart") .l) (Str.ofString "start") (.n (.n .l (Str.ofString "least") .l) (Str.ofString "first") .l)) (Str.ofString "index") (.n (.n (.n .l (Str.ofString "__eq__") .l) (Str.ofString "spread") .l) (Str.ofString "mended") (.n (.n .l (Str.ofString "picked") .l) (Str.ofString "signed") .l))))))) (Str.ofString "turned") (.n (.n (.n (.n (.n (.n (.n (.n .l (Str.ofString "raised") .l) (Str.ofString "parted") (.n .l (Str.ofString "sorted") .l)) (Str.ofString "behind") (.n (.n .l (Str.ofString "second") .l) (Str.ofString "ground") .l)) (Str.ofString "onward") (.n (.n (.n .l (Str.ofString "_law_e") .l) (Str.ofString "unlike") .l) (Str.ofString "middle") (.n (.n .l (Str.ofString "undone") .l) (Str.ofString "arc_of") .l))) (Str.ofString "lap_of") (.n (.n (.n (.n .l (Str.ofString "_law_k") .l) (Str.ofString "in_all") .l) (Str.ofString "bottom") (.n (.n .l (Str.ofString "chosen") .l) (Str.ofString "common") .l)) (Str.ofString "BadRun") (.n (.n (.n .l (Str.ofString "way_to") .l) (Str.ofString "BadLap") .l) (Str.ofString "is_lap") (.n (.n .l (Str.ofString "BadTop") .l) (Str.ofString "number") .l)))) (Str.ofString "leader") (.n (.n (.n (.n (.n .l (Str.ofString "longer") .l) (Str.ofString "walker") (.n .l (Str.ofString "nearer") .l)) (Str.ofString "answer") (.n (.n .l (Str.ofString "speeds") .l) (Str.ofString "stands") .l)) (Str.ofString "bounds") (.n (.n (.n .l (Str.ofString "places") .l) (Str.ofString "pieces") .l) (Str.ofString "prices") (.n (.n .l (Str.ofString "wishes") .l) (Str.ofString "tables") .l))) (Str.ofString "states") (.n (.n (.n (.n .l (Str.ofString "halves") .l) (Str.ofString "things") .l) (Str.ofString "blocks") (.n (.n .l (Str.ofString "totals") .l) (Str.ofString "photos") .l)) (Str.ofString "groups") (.n (.n (.n .l (Str.ofString "orders") .l) (Str.ofString "others") .l) (Str.ofString "movers") (.n (.n .l (Str.ofString "theirs") .l) (Str.ofString "starts") .l))))) (Str.ofString "net_at") (.n (.n (.n (.n (.n (.n .l (Str.ofString "weight") .l) (Str.ofString "BadLot") (.n .l (Str.ofString "fewest") .l)) (Str.ofString "lowest") (.n (.n .l (Str.ofString "BadRow") .l) (Str.ofString "is_low") .l)) (Str.ofString "_law_x") (.n (.n (.n .l (Str.ofString "run_by") .l) (Str.ofString "FIGURES") .l) (Str.ofString "LETTERS") (.n (.n .l (Str.ofString "BadDeed") .l) (Str.ofString "is_deed") .l))) (Str.ofString "changed") (.n (.n (.n (.n .l (Str.ofString "reached") .l) (Str.ofString "watched") .l) (Str.ofString "clamped") (.n (.n .l (Str.ofString "is_held") .l) (Str.ofString "run_end") .l)) (Str.ofString "BadMade") (.n (.n (.n .l (Str.ofString "BadName") .l) (Str.ofString "is_name") .l) (Str.ofString "BadSome") (.n (.n .l (Str.ofString "of_some") .l) (Str.ofString "BadMore") .l)))) (Str.ofString "is_sure") (.n (.n (.n (.n (.n .l (Str.ofString "way_off") .l) (Str.ofString "ring_of") (.n .l (Str.ofString "form_of") .l)) (Str.ofString "arcs_of") (.n (.n .l (Str.ofString "laps_of") .l) (Str.ofString "nets_of") .l)) (Str.ofString "lots_of") (.n (.n (.n .l (Str.ofString "view_of") .l) (Str.ofString "waiting") .l) (Str.ofString "is_high") (.n (.n .l (Str.ofString "through") .l) (Str.ofString "is_wish") .l))) (Str.ofString "BadPath") (.n (.n (.n (.n .l (Str.ofString "BadWalk") .l) (Str.ofString "is_walk") .l) (Str.ofString "is_look") (.n (.n .l (Str.ofString "BadDesk") .l) (Str.ofString "BadGoal") .l)) (Str.ofString "is_span") (.n (.n (.n .l (Str.ofString "room_in") .l) (Str.ofString "laps_in") .l) (Str.ofString "left_in") (.n (.n .l (Str.ofString "most_in") .l) (Str.ofString "gone_on") .l)))))) (Str.ofString "walk_to") (.n (.n (.n (.n (.n (.n (.n .l (Str.ofString "rows_to") .l) (Str.ofString "BadStep") (.n .l (Str.ofString "is_step") .l)) (Str.ofString "another") (.n (.n .l (Str.ofString "further") .l) (Str.ofString "chooser") .l)) (Str.ofString "BadHour") (.n (.n (.n .l (Str.ofString "NoPaces") .l) (Str.ofString "changes") .l) (Str.ofString "circles") (.n (.n .l (Str.ofString "BadSums") .l) (Str.ofString "BadLaps") .l))) (Str.ofString "numbers") (.n (.n (.n (.n .l (Str.ofString "walkers") .l) (Str.ofString "BadNets") .l) (Str.ofString "weights") (.n (.n .l (Str.ofString "made_at") .l) (Str.ofString "_law_at") .l)) (Str.ofString "BadLeft") (.n (.n (.n .l (Str.ofString "NoCount") .l) (Str.ofString "BadPart") .l) (Str.ofString "is_part") (.n (.n .l (Str.ofString "busiest") .l) (Str.ofString "fastest") .l)))) (Str.ofString "is_list") (.n (.n (.n (.n (.n .l (Str.ofString "BadMost") .l) (Str.ofString "is_most") (.n .l (Str.ofString "BadText") .l)) (Str.ofString "BadView") (.n (.n .l (Str.ofString "made_by") .l) (Str.ofString "room_by") .l)) (Str.ofString "last_by") (.n (.n (.n .l (Str.ofString "BadMany") .l) (Str.ofString "__name__") .l) (Str.ofString "__init__") (.n (.n .l (Str.ofString "_law_odd") .l) (Str.ofString "balanced") .l))) (Str.ofString "lessened") (.n (.n (.n (.n .l (Str.ofString "suffered") .l) (Str.ofString "gathered") .l) (Str.ofString "BadNoted") (.n (.n .l (Str.ofString "is_moved") .l) (Str.ofString "BadStand") .l)) (Str.ofString "is_stand") (.n (.n (.n .l (Str.ofString "are_kind") .l) (Str.ofString "is_bound") .l) (Str.ofString "distance") (.n (.n .l (Str.ofString "BadTable") .l) (Str.ofString "is_whole") .l))))) (Str.ofString "_law_one") (.n (.n (.n (.n (.n (.n .l (Str.ofString "_law_due") .l) (Str.ofString "laps_off") (.n .l (Str.ofString "ahead_of") .l)) (Str.ofString "price_of") (.n (.n .l (Str.ofString "table_of") .l) (Str.ofString "clash_of") .l)) (Str.ofString "photo_of") (.n (.n (.n .l (Str.ofString "group_of") .l) (Str.ofString "seams_of") .l) (Str.ofString "rooms_of") (.n (.n .l (Str.ofString "forms_of") .l) (Str.ofString "spans_of") .l))) (Str.ofString "pairs_of") (.n (.n (.n (.n .l (Str.ofString "fault_of") .l) (Str.ofString "row_with") .l) (Str.ofString "overtook") (.n (.n .l (Str.ofString "_law_ask") .l) (Str.ofString "BadTotal") .l)) (Str.ofString "net_span") (.n (.n (.n .l (Str.ofString "and_then") .l) (Str.ofString "ahead_in") .l) (Str.ofString "stand_in") (.n (.n .l (Str.ofString "count_in") .l) (Str.ofString "question") .l)))) (Str.ofString "NoCommon") (.n (.n (.n (.n (.n .l (Str.ofString "made_run") .l) (Str.ofString "BadPhoto") .l) (Str.ofString "is_photo") (.n (.n .l (Str.ofString "BadOrder") .l) (Str.ofString "NoWalker") .l)) (Str.ofString "for_ever") (.n (.n (.n .l (Str.ofString "BadNames") .l) (Str.ofString "BadTimes") .l) (Str.ofString "excesses") (.n (.n .l (Str.ofString "BadNotes") .l) (Str.ofString "BadLooks") .l))) (Str.ofString "BadTeams") (.n (.n (.n (.n .l (Str.ofString "all_sums") .l) (Str.ofString "BadSpans") .l) (Str.ofString "BadGains") (.n (.n .l (Str.ofString "all_runs") .l) (Str.ofString "BadSteps") .l)) (Str.ofString "BadPairs") (.n (.n (.n .l (Str.ofString "by_pairs") .l) (Str.ofString "all_fits") .l) (Str.ofString "BadPosts") (.n (.n .l (Str.ofString "noted_at") .l) (Str.ofString "stand_at") .l)))))))) (Str.ofString "draws_at") (.n (.n (.n (.n (.n (.n (.n (.n (.n .l (Str.ofString "mean_net") .l) (Str.ofString "most_net") (.n .l (Str.ofString "all_left") .l)) (Str.ofString "is_right") (.n (.n .l (Str.ofString "free_lot") .l) (Str.ofString "cheapest") .l)) (Str.ofString "more_now") (.n (.n (.n .l (Str.ofString "BadIndex") .l) (Str.ofString "place_by") .l) (Str.ofString "notes_by") (.n (.n .l (Str.ofString "steps_by") .l) (Str.ofString "pairs_by") .l))) (Str.ofString "first_by") (.n (.n (.n (.n .l (Str.ofString "__class__") .l) (Str.ofString "first_odd") .l) (Str.ofString "IsWatched") (.n (.n .l (Str.ofString "_law_held") .l) (Str.ofString "block_end") .l)) (Str.ofString "NotBehind") (.n (.n (.n .l (Str.ofString "BadChoice") .l) (Str.ofString "_law_made") .l) (Str.ofString "mean_idle") (.n (.n .l (Str.ofString "_law_same") .l) (Str.ofString "_law_some") .l)))) (Str.ofString "_law_mine") (.n (.n (.n (.n (.n .l (Str.ofString "later_one") .l) (Str.ofString "with_more") (.n .l (Str.ofString "enumerate") .l)) (Str.ofString "is_one_of") (.n (.n .l (Str.ofString "answer_of") .l) (Str.ofString "bounds_of") .l)) (Str.ofString "tables_of") (.n (.n (.n .l (Str.ofString "groups_of") .l) (Str.ofString "others_of") .l) (Str.ofString "is_row_of") (.n (.n .l (Str.ofString "pace_ring") .l) (Str.ofString "done_with") .l))) (Str.ofString "_law_pick") (.n (.n (.n (.n .l (Str.ofString "factorial") .l) (Str.ofString "tells_all") .l) (Str.ofString "knows_all") (.n (.n .l (Str.ofString "_law_cell") .l) (Str.ofString "span_room") .l)) (Str.ofString "ring_from") (.n (.n (.n .l (Str.ofString "pace_span") .l) (Str.ofString "overtaken") .l) (Str.ofString "speeds_in") (.n (.n .l (Str.ofString "stands_in") .l) (Str.ofString "NotWithin") .l))))) (Str.ofString "is_within") (.n (.n (.n (.n (.n (.n .l (Str.ofString "_law_twin") .l) (Str.ofString "to_common") (.n .l (Str.ofString "_law_turn") .l)) (Str.ofString "drawn_run") (.n (.n .l (Str.ofString "best_step") .l) (Str.ofString "summed_up") .l)) (Str.ofString "BadNumber") (.n (.n (.n .l (Str.ofString "is_number") .l) (Str.ofString "run_asker") .l) (Str.ofString "is_sooner") (.n (.n .l (Str.ofString "next_over") .l) (Str.ofString "BadAnswer") .l))) (Str.ofString "paces_for") (.n (.n (.n (.n .l (Str.ofString "WalkError") .l) (Str.ofString "BadStands") .l) (Str.ofString "BadBounds") (.n (.n .l (Str.ofString "BadPieces") .l) (Str.ofString "BadPrices") .l)) (Str.ofString "BadWishes") (.n (.n (.n .l (Str.ofString "by_wishes") .l) (Str.ofString "as_tuples") .l) (Str.ofString "open_ones") (.n (.n .l (Str.ofString "last_ones") .l) (Str.ofString "are_notes") .l)))) (Str.ofString "BadBlocks") (.n (.n (.n (.n (.n .l (Str.ofString "BadTotals") .l) (Str.ofString "are_teams") (.n .l (Str.ofString "all_spans") .l)) (Str.ofString "are_gains") (.n (.n .l (Str.ofString "few_gains") .l) (Str.ofString "BadPhotos") .l)) (Str.ofString "less_laps") (.n (.n (.n .l (Str.ofString "most_laps") .l) (Str.ofString "BadOthers") .l) (Str.ofString "all_lists") (.n (.n .l (Str.ofString "are_posts") .l) (Str.ofString "caught_at") .l))) (Str.ofString "least_net") (.n (.n (.n (.n .l (Str.ofString "first_net") .l) (Str.ofString "set_apart") .l) (Str.ofString "_law_draw") (.n (.n .l (Str.ofString "seams_now") .l) (Str.ofString "bounds_by") .l)) (Str.ofString "places_by") (.n (.n (.n .l (Str.ofString "_law_many") .l) (Str.ofString "goes_ahead") .l) (Str.ofString "NotWatched") (.n (.n .l (Str.ofString "_law_mixed") .l) (Str.ofString "stand_held") .l)))))) (Str.ofString "_law_field") (.n (.n (.n (.n (.n (.n (.n .l (Str.ofString "last_stand") .l) (Str.ofString "blocks_end") (.n .l (Str.ofString "_law_found") .l)) (Str.ofString "isinstance") (.n (.n .l (Str.ofString "can_change") .l) (Str.ofString "count_idle") .l)) (Str.ofString "behind_one") (.n (.n (.n .l (Str.ofString "is_pair_of") .l) (Str.ofString "is_dict_of") .l) (Str.ofString "order_ring") (.n (.n .l (Str.ofString "spans_ring") .l) (Str.ofString "short_ring") .l))) (Str.ofString "next_catch") (.n (.n (.n (.n .l (Str.ofString "team_clash") .l) (Str.ofString "nets_clash") .l) (Str.ofString "check_path") (.n (.n .l (Str.ofString "stand_with") .l) (Str.ofString "place_with") .l)) (Str.ofString "price_with") (.n (.n (.n .l (Str.ofString "begun_with") .l) (Str.ofString "check_both") .l) (Str.ofString "times_back") (.n (.n .l (Str.ofString "with_total") .l) (Str.ofString "stand_from") .l)))) (Str.ofString "place_span") (.n (.n (.n (.n (.n .l (Str.ofString "stand_seen") .l) (Str.ofString "is_between") (.n .l (Str.ofString "stand_then") .l)) (Str.ofString "run_chosen") (.n (.n .l (Str.ofString "circles_in") .l) (Str.ofString "NoneWithin") .l)) (Str.ofString "all_within") (.n (.n (.n .l (Str.ofString "further_on") .l) (Str.ofString "first_turn") .l) (Str.ofString "both_shown") (.n (.n .l (Str.ofString "nets_known") .l) (Str.ofString "is_earlier") .l))) (Str.ofString "SameWalker") (.n (.n (.n (.n .l (Str.ofString "beat_asker") .l) (Str.ofString "BadChooser") .l) (Str.ofString "ValueError") (.n (.n .l (Str.ofString "catch_hour") .l) (Str.ofString "check_hour") .l)) (Str.ofString "net_bounds") (.n (.n (.n .l (Str.ofString "are_places") .l) (Str.ofString "first_ones") .l) (Str.ofString "ready_ones") (.n (.n .l (Str.ofString "span_rooms") .l) (Str.ofString "least_sums") .l))))) (Str.ofString "count_runs") (.n (.n (.n (.n (.n (.n .l (Str.ofString "check_laps") .l) (Str.ofString "mean_steps") (.n .l (Str.ofString "BadNumbers") .l)) (Str.ofString "overtakers") (.n (.n .l (Str.ofString "BadWalkers") .l) (Str.ofString "done_pairs") .l)) (Str.ofString "open_pairs") (.n (.n (.n .l (Str.ofString "left_pairs") .l) (Str.ofString "wrong_nets") .l) (Str.ofString "later_nets") (.n (.n .l (Str.ofString "count_fits") .l) (Str.ofString "full_lists") .l))) (Str.ofString "seams_left") (.n (.n (.n (.n .l (Str.ofString "_law_digit") .l) (Str.ofString "check_most") .l) (Str.ofString "count_just") (.n (.n .l (Str.ofString "spread_out") .l) (Str.ofString "hungry_now") .l)) (Str.ofString "is_one_way") (.n (.n (.n .l (Str.ofString "has_nobody") .l) (Str.ofString "_law_made_a") .l) (Str.ofString "_law_made_b") (.n (.n .l (Str.ofString "right_ahead") .l) (Str.ofString "count_ended") .l)))) (Str.ofString "behind_deed") (.n (.n (.n (.n (.n .l (Str.ofString "check_noted") .l) (Str.ofString "count_noted") .l) (Str.ofString "check_mixed") (.n (.n .l (Str.ofString "drawn_stand") .l) (Str.ofString "other_stand") .l)) (Str.ofString "least_stand") (.n (.n (.n .l (Str.ofString "first_stand") .l) (Str.ofString "gone_beyond") .l) (Str.ofString "going_round") (.n (.n .l (Str.ofString "chance_made") .l) (Str.ofString "WouldChange") .l))) (Str.ofString "count_alike") (.n (.n (.n (.n .l (Str.ofString "mean_square") .l) (Str.ofString "is_positive") .l) (Str.ofString "common_ring") (.n (.n .l (Str.ofString "table_clash") .l) (Str.ofString "notes_clash") .l)) (Str.ofString "first_clash") (.n (.n (.n .l (Str.ofString "check_total") .l) (Str.ofString "_law_stream") .l) (Str.ofString "two_of_team") (.n (.n .l (Str.ofString "net_between") .l) (Str.ofString "sums_within") .l))))))) (Str.ofString "last_within") (.n (.n (.n (.n (.n (.n (.n (.n .l (Str.ofString "most_within") .l) (Str.ofString "BadQuestion") (.n .l (Str.ofString "as_question") .l)) (Str.ofString "is_question") (.n (.n .l (Str.ofString "last_common") .l) (Str.ofString "is_made_run") .l)) (Str.ofString "_law_is_own") (.n (.n (.n .l (Str.ofString "count_up_to") .l) (Str.ofString "checked_two") .l) (Str.ofString "behind_step") (.n (.n .l (Str.ofString "are_earlier") .l) (Str.ofString "stand_after") .l))) (Str.ofString "least_mover") (.n (.n (.n (.n .l (Str.ofString "LookupError") .l) (Str.ofString "check_notes") .l) (Str.ofString "shown_notes") (.n (.n .l (Str.ofString "count_notes") .l) (Str.ofString "_law_things") .l)) (Str.ofString "check_looks") (.n (.n (.n .l (Str.ofString "check_steps") .l) (Str.ofString "wrong_pairs") .l) (Str.ofString "first_pairs") (.n (.n .l (Str.ofString "longer_nets") .l) (Str.ofString "are_weights") .l)))) (Str.ofString "three_right") (.n (.n (.n (.n (.n .l (Str.ofString "noted_fault") .l) (Str.ofString "lists_fault") (.n .l (Str.ofString "checked_lot") .l)) (Str.ofString "_law_script") (.n (.n .l (Str.ofString "is_shortest") .l) (Str.ofString "as_at_first") .l)) (Str.ofString "lists_below") (.n (.n (.n .l (Str.ofString "checked_row") .l) (Str.ofString "forcing_row") .l) (Str.ofString "holding_row") (.n (.n .l (Str.ofString "noted_index") .l) (Str.ofString "suffered_by") .l))) (Str.ofString "is_pair_key") (.n (.n (.n (.n .l (Str.ofString "_law_asked_a") .l) (Str.ofString "_law_kinds_a") .l) (Str.ofString "_law_asked_b") (.n (.n .l (Str.ofString "_law_kinds_b") .l) (Str.ofString "_law_asked_c") .l)) (Str.ofString "_law_asked_d") (.n (.n (.n .l (Str.ofString "photo_turned") .l) (Str.ofString "run_of_noted") .l) (Str.ofString "place_behind") (.n (.n .l (Str.ofString "shown_behind") .l) (Str.ofString "count_behind") .l))))) (Str.ofString "every_second") (.n (.n (.n (.n (.n (.n .l (Str.ofString "first_beyond") .l) (Str.ofString "two_by_third") (.n .l (Str.ofString "checked_made") .l)) (Str.ofString "chances_made") (.n (.n .l (Str.ofString "numbers_made") .l) (Str.ofString "may_overtake") .l)) (Str.ofString "checked_some") (.n (.n (.n .l (Str.ofString "lists_by_one") .l) (Str.ofString "checked_more") .l) (Str.ofString "most_lacking") (.n (.n .l (Str.ofString "behind_watch") .l) (Str.ofString "checked_walk") .l))) (Str.ofString "room_between") (.n (.n (.n (.n .l (Str.ofString "runs_between") .l) (Str.ofString "laps_between") .l) (Str.ofString "left_between") (.n (.n .l (Str.ofString "WasOvertaken") .l) (Str.ofString "stand_within") .l)) (Str.ofString "count_within") (.n (.n (.n .l (Str.ofString "first_common") .l) (Str.ofString "shortest_run") .l) (Str.ofString "change_shown") (.n (.n .l (Str.ofString "chance_grown") .l) (Str.ofString "stand_number") .l)))) (Str.ofString "CommonWalker") (.n (.n (.n (.n (.n .l (Str.ofString "check_walker") .l) (Str.ofString "check_stands") (.n .l (Str.ofString "count_stands") .l)) (Str.ofString "first_places") (.n (.n .l (Str.ofString "next_changes") .l) (Str.ofString "earlier_ones") .l)) (Str.ofString "row_of_notes") (.n (.n (.n .l (Str.ofString "run_to_notes") .l) (Str.ofString "fewest_gains") .l) (Str.ofString "permutations") (.n (.n .l (Str.ofString "fitting_laps") .l) (Str.ofString "fewest_steps") .l))) (Str.ofString "turned_pairs") (.n (.n (.n (.n .l (Str.ofString "checked_nets") .l) (Str.ofString "checked_part") .l) (Str.ofString "count_fewest") (.n (.n .l (Str.ofString "chance_first") .l) (Str.ofString "checked_view") .l)) (Str.ofString "caught_below") (.n (.n (.n .l (Str.ofString "overtaken_by") .l) (Str.ofString "fewest_turned") .l) (Str.ofString "checked_stand") (.n (.n .l (Str.ofString "stand_of_made") .l) (Str.ofString "checked_table") .l)))))) (Str.ofString "with_one_more") (.n (.n (.n (.n (.n (.n (.n .l (Str.ofString "is_order_ring") .l) (Str.ofString "draws_growing") (.n .l (Str.ofString "checked_watch") .l)) (Str.ofString "rests_of_both") (.n (.n .l (Str.ofString "is_right_walk") .l) (Str.ofString "is_row_of_all") .l)) (Str.ofString "price_between") (.n (.n (.n .l (Str.ofString "count_between") .l) (Str.ofString "stands_within") .l) (Str.ofString "checked_order") (.n (.n .l (Str.ofString "is_same_order") .l) (Str.ofString "check_chooser") .l))) (Str.ofString "surely_faster") (.n (.n (.n (.n .l (Str.ofString "cheapest_pair") .l) (Str.ofString "are_alike_for") .l) (Str.ofString "behind_rounds") (.n (.n .l (Str.ofString "is_part_notes") .l) (Str.ofString "is_part_desks") .l)) (Str.ofString "checked_teams") (.n (.n (.n .l (Str.ofString "fitting_rooms") .l) (Str.ofString "greatest_sums") .l) (Str.ofString "stand_by_sums") (.n (.n .l (Str.ofString "checked_spans") .l) (Str.ofString "fits_netspans") .l)))) (Str.ofString "stand_of_laps") (.n (.n (.n (.n (.n .l (Str.ofString "cheapest_laps") .l) (Str.ofString "wrong_numbers") (.n .l (Str.ofString "stand_of_nets") .l)) (Str.ofString "price_weights") (.n (.n .l (Str.ofString "checked_rests") .l) (Str.ofString "fits_noterows") .l)) (Str.ofString "_law_path_met") (.n (.n (.n .l (Str.ofString "without_fault") .l) (Str.ofString "nets_at_first") .l) (Str.ofString "stand_without") (.n (.n .l (Str.ofString "count_of_view") .l) (Str.ofString "notes_of_noted") .l))) (Str.ofString "stand_of_mixed") (.n (.n (.n (.n .l (Str.ofString "numbers_behind") .l) (Str.ofString "stand_of_table") .l) (Str.ofString "overtakings_of") (.n (.n .l (Str.ofString "stand_touching") .l) (Str.ofString "is_common_ring") .l)) (Str.ofString "stands_showing") (.n (.n (.n .l (Str.ofString "fewest_through") .l) (Str.ofString "one_more_clash") .l) (Str.ofString "can_be_between") (.n (.n .l (Str.ofString "bounds_between") .l) (Str.ofString "blocks_between") .l))))) (Str.ofString "fewest_between") (.n (.n (.n (.n (.n (.n .l (Str.ofString "surely_between") .l) (Str.ofString "greatest_begin") (.n .l (Str.ofString "cheapest_order") .l)) (Str.ofString "checked_stands") (.n (.n .l (Str.ofString "checked_pieces") .l) (Str.ofString "checked_prices") .l)) (Str.ofString "fewest_changes") (.n (.n (.n .l (Str.ofString "checked_wishes") .l) (Str.ofString "notes_by_notes") .l) (Str.ofString "count_by_teams") (.n (.n .l (Str.ofString "run_to_numbers") .l) (Str.ofString "best_of_orders") .l))) (Str.ofString "made_by_askers") (.n (.n (.n (.n .l (Str.ofString "is_forcing_row") .l) (Str.ofString "is_holding_row") .l) (Str.ofString "perhaps_between") (.n (.n .l (Str.ofString "is_right_so_far") .l) (Str.ofString "chances_further") .l)) (Str.ofString "are_whole_gains") (.n (.n (.n .l (Str.ofString "checked_numbers") .l) (Str.ofString "sure_overtakers") .l) (Str.ofString "numbers_suffered") (.n (.n .l (Str.ofString "_law_stream_here") .l) (Str.ofString "free_overtakings") .l)))) (Str.ofString "stand_by_numbers") (.n (.n (.n (.n (.n .l (Str.ofString "fewest_observers") .l) (Str.ofString "_law_paths_right") .l) (Str.ofString "stand_of_suffered") (.n (.n .l (Str.ofString "checked_with_none") .l) (Str.ofString "behind_overtaking") .l)) (Str.ofString "cheapest_in_order") (.n (.n (.n .l (Str.ofString "is_bound_netspans") .l) (Str.ofString "are_price_weights") .l) (Str.ofString "notes_by_noterows") (.n (.n .l (Str.ofString "lists_with_nobody") .l) (Str.ofString "clash_of_shownotes") .l))) (Str.ofString "least_sums_commons") (.n (.n (.n (.n .l (Str.ofString "is_pair_of_numbers") .l) (Str.ofString "is_between_netspans") .l) (Str.ofString "made_by_madenumbers") (.n (.n .l (Str.ofString "clash_of_netnumbers") .l) (Str.ofString "is_bound_countbounds") .l)) (Str.ofString "least_sums_pacelooks") (.n (.n (.n .l (Str.ofString "is_part_deskquestions") .l) (Str.ofString "made_by_deskquestions") .l) (Str.ofString "is_between_shortestruns") (.n (.n .l (Str.ofString "stand_by_numbers_callers") .l) (Str.ofString "stand_by_numbers_withbounds") .l)))))))))
abbrev LW : OpenLaw := PySem.Challenge.rw_ringwalkers_k00_errors_made
noncomputable def tabG : BTS := (.n (.n (.n (.n (.n (.n (.n (.n (.n (.n .l (Str.ofString "gcd") .l) (Str.ofString "all") .l) (Str.ofString "sum") (.n .l (Str.ofString "len") .l)) (Str.ofString "min") (.n (.n .l (Str.ofString "zip") .l) (Str.ofString "str") (.n .l (Str.ofString "abs") .l))) (Str.ofString "net") (.n (.n (.n (.n .l (Str.ofString "set") .l) (Str.ofString "int") .l) (Str.ofString "law") (.n .l (Str.ofString "max") .l)) (Str.ofString "any") (.n (.n .l (Str.ofString "comb") .l) (Str.ofString "gone") (.n .l (Str.ofString "Path") .l)))) (Str.ofString "back") (.n (.n (.n (.n (.n .l (Str.ofString "Desk") .l) (Str.ofString "bool") .l) (Str.ofString "room") (.n .l (Str.ofString "repr") .l)) (Str.ofString "arcs") (.n (.n .l (Str.ofString "fits") .l) (Str.ofString "ways") (.n .l (Str.ofString "dict") .l))) (Str.ofString "list") (.n (.n (.n .l (Str.ofString "view") .l) (Str.ofString "noted") (.n .l (Str.ofString "range") .l)) (Str.ofString "table") (.n (.n .l (Str.ofString "tuple") .l) (Str.ofString "worth") (.n .l (Str.ofString "_wall") .l))))) (Str.ofString "again") (.n (.n (.n (.n (.n (.n .l (Str.ofString "shown") .l) (Str.ofString "super") .l) (Str.ofString "power") (.n .l (Str.ofString "leads") .l)) (Str.ofString "notes") (.n (.n .l (Str.ofString "roofs") .l) (Str.ofString "spread") (.n .l (Str.ofString "mended") .l))) (Str.ofString "picked") (.n (.n (.n (.n .l (Str.ofString "signed") .l) (Str.ofString "turned") .l) (Str.ofString "raised") (.n .l (Str.ofString "parted") .l)) (Str.ofString "sorted") (.n (.n .l (Str.ofString "unlike") .l) (Str.ofString "undone") (.n .l (Str.ofString "arc_of") .l)))) (Str.ofString "lap_of") (.n (.n (.n (.n (.n .l (Str.ofString "in_all") .l) (Str.ofString "chosen") .l) (Str.ofString "BadRun") (.n .l (Str.ofString "BadLap") .l)) (Str.ofString "is_lap") (.n (.n .l (Str.ofString "BadTop") .l) (Str.ofString "nearer") (.n .l (Str.ofString "halves") .l))) (Str.ofString "groups") (.n (.n (.n .l (Str.ofString "movers") .l) (Str.ofString "net_at") (.n .l (Str.ofString "BadLot") .l)) (Str.ofString "fewest") (.n (.n .l (Str.ofString "lowest") .l) (Str.ofString "BadRow") (.n .l (Str.ofString "run_by") .l)))))) (Str.ofString "FIGURES") (.n (.n (.n (.n (.n (.n (.n .l (Str.ofString "LETTERS") .l) (Str.ofString "BadDeed") .l) (Str.ofString "is_deed") (.n .l (Str.ofString "changed") .l)) (Str.ofString "reached") (.n (.n .l (Str.ofString "clamped") .l) (Str.ofString "run_end") (.n .l (Str.ofString "BadMade") .l))) (Str.ofString "BadName") (.n (.n (.n (.n .l (Str.ofString "is_name") .l) (Str.ofString "BadSome") .l) (Str.ofString "of_some") (.n .l (Str.ofString "BadMore") .l)) (Str.ofString "way_off") (.n (.n .l (Str.ofString "ring_of") .l) (Str.ofString "form_of") (.n .l (Str.ofString "arcs_of") .l)))) (Str.ofString "laps_of") (.n (.n (.n (.n (.n .l (Str.ofString "nets_of") .l) (Str.ofString "lots_of") .l) (Str.ofString "view_of") (.n .l (Str.ofString "is_wish") .l)) (Str.ofString "BadPath") (.n (.n .l (Str.ofString "BadWalk") .l) (Str.ofString "is_walk") (.n .l (Str.ofString "is_look") .l))) (Str.ofString "BadDesk") (.n (.n (.n .l (Str.ofString "BadGoal") .l) (Str.ofString "is_span") (.n .l (Str.ofString "room_in") .l)) (Str.ofString "laps_in") (.n (.n .l (Str.ofString "left_in") .l) (Str.ofString "most_in") (.n .l (Str.ofString "gone_on") .l))))) (Str.ofString "walk_to") (.n (.n (.n (.n (.n (.n .l (Str.ofString "rows_to") .l) (Str.ofString "BadStep") .l) (Str.ofString "is_step") (.n .l (Str.ofString "BadHour") .l)) (Str.ofString "NoPaces") (.n (.n .l (Str.ofString "changes") .l) (Str.ofString "circles") (.n .l (Str.ofString "BadSums") .l))) (Str.ofString "BadLaps") (.n (.n (.n (.n .l (Str.ofString "BadNets") .l) (Str.ofString "made_at") .l) (Str.ofString "BadLeft") (.n .l (Str.ofString "NoCount") .l)) (Str.ofString "BadPart") (.n (.n .l (Str.ofString "is_part") .l) (Str.ofString "busiest") (.n .l (Str.ofString "fastest") .l)))) (Str.ofString "is_list") (.n (.n (.n (.n (.n .l (Str.ofString "BadMost") .l) (Str.ofString "is_most") .l) (Str.ofString "BadText") (.n .l (Str.ofString "BadView") .l)) (Str.ofString "made_by") (.n (.n .l (Str.ofString "room_by") .l) (Str.ofString "last_by") (.n .l (Str.ofString "BadMany") .l))) (Str.ofString "__name__") (.n (.n (.n .l (Str.ofString "balanced") .l) (Str.ofString "lessened") (.n .l (Str.ofString "gathered") .l)) (Str.ofString "BadNoted") (.n (.n .l (Str.ofString "BadStand") .l) (Str.ofString "is_stand") (.n .l (Str.ofString "are_kind") .l))))))) (Str.ofString "is_bound") (.n (.n (.n (.n (.n (.n (.n (.n .l (Str.ofString "distance") .l) (Str.ofString "BadTable") .l) (Str.ofString "is_whole") (.n .l (Str.ofString "laps_off") .l)) (Str.ofString "ahead_of") (.n (.n .l (Str.ofString "price_of") .l) (Str.ofString "table_of") (.n .l (Str.ofString "clash_of") .l))) (Str.ofString "photo_of") (.n (.n (.n (.n .l (Str.ofString "group_of") .l) (Str.ofString "seams_of") .l) (Str.ofString "rooms_of") (.n .l (Str.ofString "forms_of") .l)) (Str.ofString "spans_of") (.n (.n .l (Str.ofString "pairs_of") .l) (Str.ofString "fault_of") (.n .l (Str.ofString "row_with") .l)))) (Str.ofString "overtook") (.n (.n (.n (.n (.n .l (Str.ofString "BadTotal") .l) (Str.ofString "net_span") .l) (Str.ofString "and_then") (.n .l (Str.ofString "ahead_in") .l)) (Str.ofString "stand_in") (.n (.n .l (Str.ofString "count_in") .l) (Str.ofString "NoCommon") (.n .l (Str.ofString "made_run") .l))) (Str.ofString "BadPhoto") (.n (.n (.n .l (Str.ofString "is_photo") .l) (Str.ofString "BadOrder") (.n .l (Str.ofString "NoWalker") .l)) (Str.ofString "for_ever") (.n (.n .l (Str.ofString "BadNames") .l) (Str.ofString "BadTimes") (.n .l (Str.ofString "excesses") .l))))) (Str.ofString "BadNotes") (.n (.n (.n (.n (.n (.n .l (Str.ofString "BadLooks") .l) (Str.ofString "BadTeams") .l) (Str.ofString "all_sums") (.n .l (Str.ofString "BadSpans") .l)) (Str.ofString "BadGains") (.n (.n .l (Str.ofString "all_runs") .l) (Str.ofString "BadSteps") (.n .l (Str.ofString "BadPairs") .l))) (Str.ofString "all_fits") (.n (.n (.n (.n .l (Str.ofString "BadPosts") .l) (Str.ofString "noted_at") .l) (Str.ofString "stand_at") (.n .l (Str.ofString "draws_at") .l)) (Str.ofString "mean_net") (.n (.n .l (Str.ofString "most_net") .l) (Str.ofString "all_left") (.n .l (Str.ofString "free_lot") .l)))) (Str.ofString "cheapest") (.n (.n (.n (.n (.n .l (Str.ofString "more_now") .l) (Str.ofString "BadIndex") .l) (Str.ofString "place_by") (.n .l (Str.ofString "notes_by") .l)) (Str.ofString "steps_by") (.n (.n .l (Str.ofString "pairs_by") .l) (Str.ofString "first_by") (.n .l (Str.ofString "first_odd") .l))) (Str.ofString "IsWatched") (.n (.n (.n .l (Str.ofString "block_end") .l) (Str.ofString "NotBehind") (.n .l (Str.ofString "BadChoice") .l)) (Str.ofString "mean_idle") (.n (.n .l (Str.ofString "_law_same") .l) (Str.ofString "with_more") (.n .l (Str.ofString "enumerate") .l)))))) (Str.ofString "is_one_of") (.n (.n (.n (.n (.n (.n (.n .l (Str.ofString "answer_of") .l) (Str.ofString "bounds_of") .l) (Str.ofString "tables_of") (.n .l (Str.ofString "groups_of") .l)) (Str.ofString "others_of") (.n (.n .l (Str.ofString "is_row_of") .l) (Str.ofString "pace_ring") (.n .l (Str.ofString "done_with") .l))) (Str.ofString "_law_pick") (.n (.n (.n (.n .l (Str.ofString "factorial") .l) (Str.ofString "tells_all") .l) (Str.ofString "knows_all") (.n .l (Str.ofString "span_room") .l)) (Str.ofString "ring_from") (.n (.n .l (Str.ofString "pace_span") .l) (Str.ofString "overtaken") (.n .l (Str.ofString "speeds_in") .l)))) (Str.ofString "stands_in") (.n (.n (.n (.n (.n .l (Str.ofString "NotWithin") .l) (Str.ofString "is_within") .l) (Str.ofString "to_common") (.n .l (Str.ofString "drawn_run") .l)) (Str.ofString "best_step") (.n (.n .l (Str.ofString "summed_up") .l) (Str.ofString "BadNumber") (.n .l (Str.ofString "is_number") .l))) (Str.ofString "run_asker") (.n (.n (.n .l (Str.ofString "is_sooner") .l) (Str.ofString "next_over") (.n .l (Str.ofString "BadAnswer") .l)) (Str.ofString "paces_for") (.n (.n .l (Str.ofString "WalkError") .l) (Str.ofString "BadStands") (.n .l (Str.ofString "BadBounds") .l))))) (Str.ofString "BadPieces") (.n (.n (.n (.n (.n (.n .l (Str.ofString "BadPrices") .l) (Str.ofString "BadWishes") .l) (Str.ofString "as_tuples") (.n .l (Str.ofString "open_ones") .l)) (Str.ofString "last_ones") (.n (.n .l (Str.ofString "are_notes") .l) (Str.ofString "BadBlocks") (.n .l (Str.ofString "BadTotals") .l))) (Str.ofString "are_teams") (.n (.n (.n (.n .l (Str.ofString "all_spans") .l) (Str.ofString "are_gains") .l) (Str.ofString "few_gains") (.n .l (Str.ofString "BadPhotos") .l)) (Str.ofString "less_laps") (.n (.n .l (Str.ofString "most_laps") .l) (Str.ofString "BadOthers") (.n .l (Str.ofString "all_lists") .l)))) (Str.ofString "are_posts") (.n (.n (.n (.n (.n .l (Str.ofString "caught_at") .l) (Str.ofString "least_net") .l) (Str.ofString "first_net") (.n .l (Str.ofString "set_apart") .l)) (Str.ofString "_law_draw") (.n (.n .l (Str.ofString "seams_now") .l) (Str.ofString "bounds_by") (.n .l (Str.ofString "places_by") .l))) (Str.ofString "goes_ahead") (.n (.n (.n .l (Str.ofString "NotWatched") .l) (Str.ofString "stand_held") (.n .l (Str.ofString "last_stand") .l)) (Str.ofString "blocks_end") (.n (.n .l (Str.ofString "isinstance") .l) (Str.ofString "can_change") (.n .l (Str.ofString "count_idle") .l)))))))) (Str.ofString "behind_one") (.n (.n (.n (.n (.n (.n (.n (.n (.n .l (Str.ofString "is_pair_of") .l) (Str.ofString "is_dict_of") .l) (Str.ofString "order_ring") (.n .l (Str.ofString "spans_ring") .l)) (Str.ofString "short_ring") (.n (.n .l (Str.ofString "next_catch") .l) (Str.ofString "team_clash") (.n .l (Str.ofString "nets_clash") .l))) (Str.ofString "check_path") (.n (.n (.n (.n .l (Str.ofString "stand_with") .l) (Str.ofString "place_with") .l) (Str.ofString "price_with") (.n .l (Str.ofString "begun_with") .l)) (Str.ofString "check_both") (.n (.n .l (Str.ofString "times_back") .l) (Str.ofString "with_total") (.n .l (Str.ofString "stand_from") .l)))) (Str.ofString "place_span") (.n (.n (.n (.n (.n .l (Str.ofString "stand_seen") .l) (Str.ofString "is_between") .l) (Str.ofString "stand_then") (.n .l (Str.ofString "run_chosen") .l)) (Str.ofString "circles_in") (.n (.n .l (Str.ofString "NoneWithin") .l) (Str.ofString "all_within") (.n .l (Str.ofString "further_on") .l))) (Str.ofString "first_turn") (.n (.n (.n .l (Str.ofString "both_shown") .l) (Str.ofString "nets_known") (.n .l (Str.ofString "is_earlier") .l)) (Str.ofString "SameWalker") (.n (.n .l (Str.ofString "beat_asker") .l) (Str.ofString "BadChooser") (.n .l (Str.ofString "ValueError") .l))))) (Str.ofString "catch_hour") (.n (.n (.n (.n (.n (.n .l (Str.ofString "check_hour") .l) (Str.ofString "net_bounds") .l) (Str.ofString "are_places") (.n .l (Str.ofString "first_ones") .l)) (Str.ofString "ready_ones") (.n (.n .l (Str.ofString "span_rooms") .l) (Str.ofString "least_sums") (.n .l (Str.ofString "count_runs") .l))) (Str.ofString "check_laps") (.n (.n (.n (.n .l (Str.ofString "mean_steps") .l) (Str.ofString "BadNumbers") .l) (Str.ofString "overtakers") (.n .l (Str.ofString "BadWalkers") .l)) (Str.ofString "done_pairs") (.n (.n .l (Str.ofString "open_pairs") .l) (Str.ofString "left_pairs") (.n .l (Str.ofString "wrong_nets") .l)))) (Str.ofString "count_fits") (.n (.n (.n (.n (.n .l (Str.ofString "full_lists") .l) (Str.ofString "seams_left") .l) (Str.ofString "check_most") (.n .l (Str.ofString "count_just") .l)) (Str.ofString "spread_out") (.n (.n .l (Str.ofString "hungry_now") .l) (Str.ofString "is_one_way") (.n .l (Str.ofString "_law_made_a") .l))) (Str.ofString "_law_made_b") (.n (.n (.n .l (Str.ofString "right_ahead") .l) (Str.ofString "count_ended") (.n .l (Str.ofString "behind_deed") .l)) (Str.ofString "check_noted") (.n (.n .l (Str.ofString "count_noted") .l) (Str.ofString "check_mixed") (.n .l (Str.ofString "drawn_stand") .l)))))) (Str.ofString "least_stand") (.n (.n (.n (.n (.n (.n (.n .l (Str.ofString "first_stand") .l) (Str.ofString "going_round") .l) (Str.ofString "chance_made") (.n .l (Str.ofString "WouldChange") .l)) (Str.ofString "count_alike") (.n (.n .l (Str.ofString "mean_square") .l) (Str.ofString "is_positive") (.n .l (Str.ofString "common_ring") .l))) (Str.ofString "table_clash") (.n (.n (.n (.n .l (Str.ofString "notes_clash") .l) (Str.ofString "first_clash") .l) (Str.ofString "check_total") (.n .l (Str.ofString "_law_stream") .l)) (Str.ofString "two_of_team") (.n (.n .l (Str.ofString "net_between") .l) (Str.ofString "sums_within") (.n .l (Str.ofString "last_within") .l)))) (Str.ofString "most_within") (.n (.n (.n (.n (.n .l (Str.ofString "BadQuestion") .l) (Str.ofString "as_question") .l) (Str.ofString "last_common") (.n .l (Str.ofString "is_made_run") .l)) (Str.ofString "_law_is_own") (.n (.n .l (Str.ofString "count_up_to") .l) (Str.ofString "checked_two") (.n .l (Str.ofString "behind_step") .l))) (Str.ofString "are_earlier") (.n (.n (.n .l (Str.ofString "stand_after") .l) (Str.ofString "least_mover") (.n .l (Str.ofString "LookupError") .l)) (Str.ofString "check_notes") (.n (.n .l (Str.ofString "shown_notes") .l) (Str.ofString "count_notes") (.n .l (Str.ofString "check_looks") .l))))) (Str.ofString "check_steps") (.n (.n (.n (.n (.n (.n .l (Str.ofString "wrong_pairs") .l) (Str.ofString "first_pairs") .l) (Str.ofString "longer_nets") (.n .l (Str.ofString "are_weights") .l)) (Str.ofString "three_right") (.n (.n .l (Str.ofString "noted_fault") .l) (Str.ofString "lists_fault") (.n .l (Str.ofString "checked_lot") .l))) (Str.ofString "is_shortest") (.n (.n (.n (.n .l (Str.ofString "as_at_first") .l) (Str.ofString "lists_below") .l) (Str.ofString "checked_row") (.n .l (Str.ofString "forcing_row") .l)) (Str.ofString "holding_row") (.n (.n .l (Str.ofString "noted_index") .l) (Str.ofString "suffered_by") (.n .l (Str.ofString "is_pair_key") .l)))) (Str.ofString "_law_asked_a") (.n (.n (.n (.n (.n .l (Str.ofString "_law_kinds_a") .l) (Str.ofString "_law_asked_b") .l) (Str.ofString "_law_kinds_b") (.n .l (Str.ofString "_law_asked_c") .l)) (Str.ofString "_law_asked_d") (.n (.n .l (Str.ofString "photo_turned") .l) (Str.ofString "run_of_noted") (.n .l (Str.ofString "place_behind") .l))) (Str.ofString "shown_behind") (.n (.n (.n .l (Str.ofString "count_behind") .l) (Str.ofString "first_beyond") (.n .l (Str.ofString "two_by_third") .l)) (Str.ofString "checked_made") (.n (.n .l (Str.ofString "chances_made") .l) (Str.ofString "numbers_made") (.n .l (Str.ofString "may_overtake") .l))))))) (Str.ofString "checked_some") (.n (.n (.n (.n (.n (.n (.n (.n .l (Str.ofString "lists_by_one") .l) (Str.ofString "checked_more") .l) (Str.ofString "most_lacking") (.n .l (Str.ofString "behind_watch") .l)) (Str.ofString "checked_walk") (.n (.n .l (Str.ofString "room_between") .l) (Str.ofString "runs_between") (.n .l (Str.ofString "laps_between") .l))) (Str.ofString "left_between") (.n (.n (.n (.n .l (Str.ofString "WasOvertaken") .l) (Str.ofString "stand_within") .l) (Str.ofString "count_within") (.n .l (Str.ofString "first_common") .l)) (Str.ofString "shortest_run") (.n (.n .l (Str.ofString "change_shown") .l) (Str.ofString "chance_grown") (.n .l (Str.ofString "stand_number") .l)))) (Str.ofString "CommonWalker") (.n (.n (.n (.n (.n .l (Str.ofString "check_stands") .l) (Str.ofString "count_stands") .l) (Str.ofString "first_places") (.n .l (Str.ofString "next_changes") .l)) (Str.ofString "earlier_ones") (.n (.n .l (Str.ofString "row_of_notes") .l) (Str.ofString "run_to_notes") (.n .l (Str.ofString "fewest_gains") .l))) (Str.ofString "permutations") (.n (.n (.n .l (Str.ofString "fitting_laps") .l) (Str.ofString "fewest_steps") (.n .l (Str.ofString "turned_pairs") .l)) (Str.ofString "checked_nets") (.n (.n .l (Str.ofString "checked_part") .l) (Str.ofString "count_fewest") (.n .l (Str.ofString "chance_first") .l))))) (Str.ofString "checked_view") (.n (.n (.n (.n (.n (.n .l (Str.ofString "caught_below") .l) (Str.ofString "overtaken_by") .l) (Str.ofString "fewest_turned") (.n .l (Str.ofString "checked_stand") .l)) (Str.ofString "stand_of_made") (.n (.n .l (Str.ofString "checked_table") .l) (Str.ofString "with_one_more") (.n .l (Str.ofString "is_order_ring") .l))) (Str.ofString "draws_growing") (.n (.n (.n (.n .l (Str.ofString "checked_watch") .l) (Str.ofString "rests_of_both") .l) (Str.ofString "is_right_walk") (.n .l (Str.ofString "is_row_of_all") .l)) (Str.ofString "price_between") (.n (.n .l (Str.ofString "count_between") .l) (Str.ofString "stands_within") (.n .l (Str.ofString "checked_order") .l)))) (Str.ofString "is_same_order") (.n (.n (.n (.n (.n .l (Str.ofString "check_chooser") .l) (Str.ofString "surely_faster") .l) (Str.ofString "cheapest_pair") (.n .l (Str.ofString "are_alike_for") .l)) (Str.ofString "behind_rounds") (.n (.n .l (Str.ofString "is_part_notes") .l) (Str.ofString "is_part_desks") (.n .l (Str.ofString "checked_teams") .l))) (Str.ofString "fitting_rooms") (.n (.n (.n .l (Str.ofString "greatest_sums") .l) (Str.ofString "stand_by_sums") (.n .l (Str.ofString "checked_spans") .l)) (Str.ofString "fits_netspans") (.n (.n .l (Str.ofString "stand_of_laps") .l) (Str.ofString "cheapest_laps") (.n .l (Str.ofString "wrong_numbers") .l)))))) (Str.ofString "stand_of_nets") (.n (.n (.n (.n (.n (.n (.n .l (Str.ofString "price_weights") .l) (Str.ofString "checked_rests") .l) (Str.ofString "fits_noterows") (.n .l (Str.ofString "_law_path_met") .l)) (Str.ofString "without_fault") (.n (.n .l (Str.ofString "nets_at_first") .l) (Str.ofString "stand_without") (.n .l (Str.ofString "count_of_view") .l))) (Str.ofString "notes_of_noted") (.n (.n (.n (.n .l (Str.ofString "stand_of_mixed") .l) (Str.ofString "numbers_behind") .l) (Str.ofString "stand_of_table") (.n .l (Str.ofString "overtakings_of") .l)) (Str.ofString "stand_touching") (.n (.n .l (Str.ofString "is_common_ring") .l) (Str.ofString "stands_showing") (.n .l (Str.ofString "fewest_through") .l)))) (Str.ofString "one_more_clash") (.n (.n (.n (.n (.n .l (Str.ofString "can_be_between") .l) (Str.ofString "bounds_between") .l) (Str.ofString "blocks_between") (.n .l (Str.ofString "fewest_between") .l)) (Str.ofString "surely_between") (.n (.n .l (Str.ofString "greatest_begin") .l) (Str.ofString "cheapest_order") (.n .l (Str.ofString "checked_stands") .l))) (Str.ofString "checked_pieces") (.n (.n (.n .l (Str.ofString "checked_prices") .l) (Str.ofString "fewest_changes") (.n .l (Str.ofString "checked_wishes") .l)) (Str.ofString "notes_by_notes") (.n (.n .l (Str.ofString "count_by_teams") .l) (Str.ofString "run_to_numbers") (.n .l (Str.ofString "best_of_orders") .l))))) (Str.ofString "made_by_askers") (.n (.n (.n (.n (.n (.n .l (Str.ofString "is_forcing_row") .l) (Str.ofString "is_holding_row") .l) (Str.ofString "perhaps_between") (.n .l (Str.ofString "is_right_so_far") .l)) (Str.ofString "chances_further") (.n (.n .l (Str.ofString "are_whole_gains") .l) (Str.ofString "checked_numbers") (.n .l (Str.ofString "sure_overtakers") .l))) (Str.ofString "numbers_suffered") (.n (.n (.n .l (Str.ofString "stand_by_numbers") .l) (Str.ofString "fewest_observers") (.n .l (Str.ofString "_law_paths_right") .l)) (Str.ofString "stand_of_suffered") (.n (.n .l (Str.ofString "checked_with_none") .l) (Str.ofString "behind_overtaking") (.n .l (Str.ofString "cheapest_in_order") .l)))) (Str.ofString "is_bound_netspans") (.n (.n (.n (.n (.n .l (Str.ofString "are_price_weights") .l) (Str.ofString "notes_by_noterows") .l) (Str.ofString "lists_with_nobody") (.n .l (Str.ofString "clash_of_shownotes") .l)) (Str.ofString "least_sums_commons") (.n (.n .l (Str.ofString "is_pair_of_numbers") .l) (Str.ofString "is_between_netspans") (.n .l (Str.ofString "made_by_madenumbers") .l))) (Str.ofString "clash_of_netnumbers") (.n (.n (.n .l (Str.ofString "is_bound_countbounds") .l) (Str.ofString "least_sums_pacelooks") (.n .l (Str.ofString "is_part_deskquestions") .l)) (Str.ofString "made_by_deskquestions") (.n (.n .l (Str.ofString "is_between_shortestruns") .l) (Str.ofString "stand_by_numbers_callers") (.n .l (Str.ofString "stand_by_numbers_withbounds") .l)))))))))
noncomputable def notG : Option NameKind → Bool
  | some .globalImplicit => false
  | some .globalExplicit => false
  | _ => true
theorem walkU : namesMeet LW.row.prog LW.row.prog.main.body (fun sc n => fT n tabW && @Bool.rec (fun _ => Bool) (notG (sc.names.lookup n)) true (fT n tabG)) = true := by k_qdec
theorem walkW : namesMeet LW.row.prog LW.row.prog.main.body (fun _ n => fT n tabW) = true := meet_mono (fun _ _ q => (Bool.and_eq_true_iff.mp q).1) walkU
theorem tabGA : allT (fun n => LW.row.prog.boundNames.contains n || n == ("__name__" : Str) || n == ("__debug__" : Str) || (builtinNamed n && !worldNames.contains n && !n.opensWith "__")) tabG = true := by k_qdec
theorem meet_main {p : Program} {f g : Scope → Str → Bool} (q : ∀ sc n, f sc n = true → g sc n = true) (e : namesMeet p p.main.body f = true) : TablesWhole.wModule ⟨fun sc n _ => g sc n, fun _ _ _ _ => true, fun _ => true, true, false, fun a b => a && b⟩ p.main = true := meet_mono q e
theorem resW : namesResolve LW.row.prog = true := by
  unfold namesResolve
  refine meet_main (fun sc n q => ?_) walkU
  have q2 := (Bool.and_eq_true_iff.mp q).2
  cases c : fT n tabG with
  | true =>
    have z := fT_ok tabGA c
    split <;> first | exact z | rfl
  | false =>
    rw [c] at q2
    have q3 : notG (sc.names.lookup n) = true := q2
    split
    · rename_i e
      rw [e] at q3
      cases q3
    · rename_i e
      rw [e] at q3
      cases q3
    · rfl
theorem tabA : allT (fun n => attrL n && (n != Str.ofString "vars" && (n != Str.ofString "dir" && n != Str.ofString "locals"))) tabW = true := by k_qdec
theorem attrW : (namesMeet LW.row.prog LW.row.prog.main.body fun x n => attrL n) = true := meet_mono (fun _ n q => (Bool.and_eq_true_iff.mp (fT_ok tabA q)).1) walkW
theorem notV {n : Str} (q : fT n tabW = true) : (n != Str.ofString "vars") = true ∧ (n != Str.ofString "dir") = true ∧ (n != Str.ofString "locals") = true := by
  have z := (Bool.and_eq_true_iff.mp (fT_ok tabA q)).2
  exact ⟨(Bool.and_eq_true_iff.mp z).1, Bool.and_eq_true_iff.mp (Bool.and_eq_true_iff.mp z).2⟩
theorem rdOf {v : Str} (h : ∀ n, fT n tabW = true → (n != v) = true) : readsOut LW.row.prog LW.row.prog.main.body v = false := by
  unfold readsOut
  rw [meet_mono (fun sc n q => by rw [h n q]; rfl) walkW]
  rfl
theorem bareE : List.filter (readsOut LW.row.prog LW.row.prog.main.body) [Str.ofString "vars", Str.ofString "dir", Str.ofString "locals"] = [] := by
  rw [List.filter_cons_of_neg (by rw [rdOf fun _ q => (notV q).1]; exact Bool.false_ne_true), List.filter_cons_of_neg (by rw [rdOf fun _ q => (notV q).2.1]; exact Bool.false_ne_true), List.filter_cons_of_neg (by rw [rdOf fun _ q => (notV q).2.2]; exact Bool.false_ne_true)]
  rfl
theorem ws : LW.wellSaid = true := by
  unfold OpenLaw.wellSaid OpenRow.wellSaid OpenRow.partSaid looksOpen
  rw [bareE]
  repeat' (with_reducible refine look_both ?_ ?_)
  all_goals first | (with_reducible exact attrW) | (with_reducible exact resW) | k_qdec | rfl | decide +kernel
/-! the tables -/
theorem nodup_b {l : List Str} (h : ∀ k, k < 61 → (l.filter fun x => Nat.beq (Fast.code x.cps.toList % 61) k).Nodup) : l.Nodup := by
  induction l with
  | nil => exact List.nodup_nil
  | cons a r ih =>
    refine List.nodup_cons.mpr ⟨fun m => ?_, ih fun k hk => ?_⟩
    · have z := h (Fast.code a.cps.toList % 61) (Nat.mod_lt _ (by decide))
      have z2 : (a :: r.filter fun x => Nat.beq (Fast.code x.cps.toList % 61) (Fast.code a.cps.toList % 61)).Nodup := by
        simpa [List.filter_cons, Nat.beq_refl] using z
      exact (List.nodup_cons.mp z2).1 (List.mem_filter.mpr ⟨m, Nat.beq_refl _⟩)
    · exact (h k hk).sublist ((List.sublist_cons_self a r).filter _)
noncomputable def nbB (l : List Str) : Bool := (List.range 61).all fun k => decide (l.filter fun x => Nat.beq (Fast.code x.cps.toList % 61) k).Nodup
theorem nbB_ok {l : List Str} (h : nbB l = true) : l.Nodup := nodup_b fun k hk => of_decide_eq_true (List.all_eq_true.mp h k (List.mem_range.mpr hk))
theorem one_of {α : Type} : ∀ {l : List (Str × α)} {n : Str} {k : α}, (l.map (·.1)).Nodup → (n, k) ∈ l → l.filter (fun x => x.1 == n) = [(n, k)]
  | [], _, _, _, h => by cases h
  | p :: l, n, k, nd, h => by
    obtain ⟨n1, n2⟩ := List.nodup_cons.mp nd
    rcases List.mem_cons.mp h with e | h
    · subst e
      have z : l.filter (fun x => x.1 == n) = [] := by
        rw [List.filter_eq_nil_iff]
        intro q hq c
        exact n1 (List.mem_map.mpr ⟨q, hq, eq_of_beq c⟩)
      simp [List.filter_cons, z]
    · have ne : ¬ (p.1 == n) = true := fun c => n1 (List.mem_map.mpr ⟨(n, k), h, (eq_of_beq c).symm⟩)
      have z := one_of n2 h
      rw [List.filter_cons, if_neg ne]
      exact z
theorem noTwice_of {sc : Scope} (h : nbB (sc.names.map (·.1)) = true) : TablesWhole.noTwice sc = true := by
  unfold TablesWhole.noTwice
  refine List.all_eq_true.mpr fun p hp => ?_
  obtain ⟨n, k⟩ := p
  have e := one_of (nbB_ok h) hp
  show (match sc.names.filter (fun x => x.1 == n) with | [_] => true | [(_, a), (_, b)] => _ | _ => false) = true
  rw [e]
theorem wSs_app {top sc : Scope} {cx : TablesWhole.Ctx} : ∀ (a b : List Stmt), TablesWhole.wSs TablesWhole.holds top cx sc a = true → TablesWhole.wSs TablesWhole.holds top cx sc b = true → TablesWhole.wSs TablesWhole.holds top cx sc (a ++ b) = true
  | [], b, _, h => h
  | s :: a, b, g, h => by
    rw [List.cons_append]
    simp only [TablesWhole.wSs] at g ⊢
    obtain ⟨g1, g2⟩ := Bool.and_eq_true_iff.mp (show (TablesWhole.wS TablesWhole.holds top cx sc s && TablesWhole.wSs TablesWhole.holds top cx sc a) = true from g)
    exact Bool.and_eq_true_iff.mpr ⟨g1, wSs_app a b g2 h⟩
theorem mod_all {m : Module} (t : TablesWhole.wSs TablesWhole.gather m.scope ⟨m.scope, [], [], [], none⟩ m.scope m.body = []) (n : TablesWhole.noTwice m.scope = true) (w : TablesWhole.wSs TablesWhole.holds m.scope ⟨m.scope, [], [], [], none⟩ m.scope m.body = true) : TablesWhole.wModule TablesWhole.holds m = true := by
  unfold TablesWhole.wModule
  rw [t]
  show (true && (TablesWhole.noTwice m.scope && (TablesWhole.wSs TablesWhole.holds m.scope ⟨m.scope, [], [], [], none⟩ m.scope m.body && true))) = true
  rw [n, w]
  rfl
theorem prog_all {p : Program} (h0 : p.modules = []) (h1 : p.parses = []) (h2 : p.harvested = []) (h : TablesWhole.wModule TablesWhole.holds p.main = true) : p.tablesWhole = true := by
  unfold Program.tablesWhole TablesWhole.wProgram
  rw [h0, h1, h2, h]
  rfl
theorem nb : nbB (PG.main.scope.names.map (·.1)) = true := by k_qdec
theorem told : (TablesWhole.wSs TablesWhole.gather PG.main.scope ⟨PG.main.scope, [], [], [], none⟩ PG.main.scope PG.main.body).isEmpty = true := by k_qdec
theorem tc0 : TablesWhole.wSs TablesWhole.holds PG.main.scope ⟨PG.main.scope, [], [], [], none⟩ PG.main.scope ((PG.main.body.drop 0).take 60) = true := by k_qdec
theorem tc1 : TablesWhole.wSs TablesWhole.holds PG.main.scope ⟨PG.main.scope, [], [], [], none⟩ PG.main.scope ((PG.main.body.drop 60).take 60) = true := by k_qdec
theorem tc2 : TablesWhole.wSs TablesWhole.holds PG.main.scope ⟨PG.main.scope, [], [], [], none⟩ PG.main.scope ((PG.main.body.drop 120).take 60) = true := by k_qdec
theorem tc3 : TablesWhole.wSs TablesWhole.holds PG.main.scope ⟨PG.main.scope, [], [], [], none⟩ PG.main.scope ((PG.main.body.drop 180).take 60) = true := by k_qdec
theorem tc4 : TablesWhole.wSs TablesWhole.holds PG.main.scope ⟨PG.main.scope, [], [], [], none⟩ PG.main.scope ((PG.main.body.drop 240).take 60) = true := by k_qdec
theorem tc5 : TablesWhole.wSs TablesWhole.holds PG.main.scope ⟨PG.main.scope, [], [], [], none⟩ PG.main.scope ((PG.main.body.drop 300).take 60) = true := by k_qdec
theorem tc6 : TablesWhole.wSs TablesWhole.holds PG.main.scope ⟨PG.main.scope, [], [], [], none⟩ PG.main.scope ((PG.main.body.drop 360).take 60) = true := by k_qdec
theorem tc7 : TablesWhole.wSs TablesWhole.holds PG.main.scope ⟨PG.main.scope, [], [], [], none⟩ PG.main.scope ((PG.main.body.drop 420).take 60) = true := by k_qdec
theorem tc8 : TablesWhole.wSs TablesWhole.holds PG.main.scope ⟨PG.main.scope, [], [], [], none⟩ PG.main.scope ((PG.main.body.drop 480).take 60) = true := by k_qdec
theorem tc9 : TablesWhole.wSs TablesWhole.holds PG.main.scope ⟨PG.main.scope, [], [], [], none⟩ PG.main.scope ((PG.main.body.drop 540).take 60) = true := by k_qdec
theorem td10 : TablesWhole.wSs TablesWhole.holds PG.main.scope ⟨PG.main.scope, [], [], [], none⟩ PG.main.scope (PG.main.body.drop 600) = true := by k_qdec
theorem td9 : TablesWhole.wSs TablesWhole.holds PG.main.scope ⟨PG.main.scope, [], [], [], none⟩ PG.main.scope (PG.main.body.drop 540) = true := by
  have z := wSs_app _ _ tc9 td10
  rw [show List.drop 600 PG.main.body = List.drop 60 (List.drop 540 PG.main.body) from by rw [List.drop_drop], List.take_append_drop] at z
  exact z
theorem td8 : TablesWhole.wSs TablesWhole.holds PG.main.scope ⟨PG.main.scope, [], [], [], none⟩ PG.main.scope (PG.main.body.drop 480) = true := by
  have z := wSs_app _ _ tc8 td9
  rw [show List.drop 540 PG.main.body = List.drop 60 (List.drop 480 PG.main.body) from by rw [List.drop_drop], List.take_append_drop] at z
  exact z
theorem td7 : TablesWhole.wSs TablesWhole.holds PG.main.scope ⟨PG.main.scope, [], [], [], none⟩ PG.main.scope (PG.main.body.drop 420) = true := by
  have z := wSs_app _ _ tc7 td8
  rw [show List.drop 480 PG.main.body = List.drop 60 (List.drop 420 PG.main.body) from by rw [List.drop_drop], List.take_append_drop] at z
  exact z
theorem td6 : TablesWhole.wSs TablesWhole.holds PG.main.scope ⟨PG.main.scope, [], [], [], none⟩ PG.main.scope (PG.main.body.drop 360) = true := by
  have z := wSs_app _ _ tc6 td7
  rw [show List.drop 420 PG.main.body = List.drop 60 (List.drop 360 PG.main.body) from by rw [List.drop_drop], List.take_append_drop] at z
  exact z
theorem td5 : TablesWhole.wSs TablesWhole.holds PG.main.scope ⟨PG.main.scope, [], [], [], none⟩ PG.main.scope (PG.main.body.drop 300) = true := by
  have z := wSs_app _ _ tc5 td6
  rw [show List.drop 360 PG.main.body = List.drop 60 (List.drop 300 PG.main.body) from by rw [List.drop_drop], List.take_append_drop] at z
  exact z
theorem td4 : TablesWhole.wSs TablesWhole.holds PG.main.scope ⟨PG.main.scope, [], [], [], none⟩ PG.main.scope (PG.main.body.drop 240) = true := by
  have z := wSs_app _ _ tc4 td5
  rw [show List.drop 300 PG.main.body = List.drop 60 (List.drop 240 PG.main.body) from by rw [List.drop_drop], List.take_append_drop] at z
  exact z
theorem td3 : TablesWhole.wSs TablesWhole.holds PG.main.scope ⟨PG.main.scope, [], [], [], none⟩ PG.main.scope (PG.main.body.drop 180) = true := by
  have z := wSs_app _ _ tc3 td4
  rw [show List.drop 240 PG.main.body = List.drop 60 (List.drop 180 PG.main.body) from by rw [List.drop_drop], List.take_append_drop] at z
  exact z
theorem td2 : TablesWhole.wSs TablesWhole.holds PG.main.scope ⟨PG.main.scope, [], [], [], none⟩ PG.main.scope (PG.main.body.drop 120) = true := by
  have z := wSs_app _ _ tc2 td3
  rw [show List.drop 180 PG.main.body = List.drop 60 (List.drop 120 PG.main.body) from by rw [List.drop_drop], List.take_append_drop] at z
  exact z
theorem td1 : TablesWhole.wSs TablesWhole.holds PG.main.scope ⟨PG.main.scope, [], [], [], none⟩ PG.main.scope (PG.main.body.drop 60) = true := by
  have z := wSs_app _ _ tc1 td2
  rw [show List.drop 120 PG.main.body = List.drop 60 (List.drop 60 PG.main.body) from by rw [List.drop_drop], List.take_append_drop] at z
  exact z
theorem td0 : TablesWhole.wSs TablesWhole.holds PG.main.scope ⟨PG.main.scope, [], [], [], none⟩ PG.main.scope (PG.main.body.drop 0) = true := by
  have z := wSs_app _ _ tc0 td1
  rw [show List.drop 60 PG.main.body = List.drop 60 (List.drop 0 PG.main.body) from by rw [List.drop_drop], List.take_append_drop] at z
  exact z
theorem tbw : PG.tablesWhole = true := prog_all (by kernel_rfl) (by kernel_rfl) (by kernel_rfl) (mod_all (List.isEmpty_iff.mp told) (noTwice_of nb) td0)
end RWk
end
section
namespace RWk
open PySem PySem.W PySem.Calls PyProof.Rows
theorem k_bA (P : Params) : PySem.W.Fast.tw13008460863463457028 PySem.W.Fast.tw5842520607744118111 P = true := by kernel_rfl
theorem k_bS (P : Params) : PySem.W.Fast.tw16519681382591857786 PySem.W.Fast.tw5842520607744118111 P = true := by kernel_rfl
theorem k_bL (P : Params) : PySem.W.Fast.tw9397774024428759038 PySem.W.Fast.tw5842520607744118111 P = true := by kernel_rfl
theorem k_bM (P : Params) : PySem.W.Fast.tw14906638103758920782 PySem.W.Fast.tw5842520607744118111 P = true := by kernel_rfl
theorem k_cA (P : Params) : PySem.W.Fast.tw2519332896927104897 PySem.W.Fast.tw5842520607744118111 P = true := by kernel_rfl
theorem k_cB1 (P : Params) : PySem.W.Fast.tw12765103146725143766 PySem.W.Fast.tw5842520607744118111 P = true := by kernel_rfl
theorem k_cB2 (P : Params) : PySem.W.Fast.tw17804972129605952794 PySem.W.Fast.tw5842520607744118111 P = true := by kernel_rfl
theorem k_cC0 (P : Params) : PySem.W.Fast.tw15599673882957745967 PySem.W.Fast.tw5842520607744118111 P = true := by kernel_rfl
theorem k_cC1 (P : Params) : PySem.W.Fast.tw18337923362835243012 PySem.W.Fast.tw5842520607744118111 P = true := by kernel_rfl
theorem k_cC2 (P : Params) : PySem.W.Fast.tw5611281768303182653 PySem.W.Fast.tw5842520607744118111 P = true := by kernel_rfl
theorem k_cC3 (P : Params) : PySem.W.Fast.tw5294696015468555303 PySem.W.Fast.tw5842520607744118111 P = true := by kernel_rfl
theorem k_cC4 (P : Params) : PySem.W.Fast.tw2767099400784856219 PySem.W.Fast.tw5842520607744118111 P = true := by kernel_rfl
theorem k_cD (P : Params) : PySem.W.Fast.tw2445395847071583437 PySem.W.Fast.tw5842520607744118111 P = true := by kernel_rfl
theorem k_cE (P : Params) : PySem.W.Fast.tw7604531523299470066 PySem.W.Fast.tw5842520607744118111 P = true := by kernel_rfl
theorem k_bI (P : Params) : PySem.W.Fast.tw16757427341974181610 P = (true, 50, some (.ref 6)) := by kernel_rfl
theorem k_bX (P : Params) (os : OsState) : PySem.W.Fast.tw8333013701352855626 PySem.W.Fast.tw5842520607744118111 P os = true := by kernel_rfl
theorem k_vG (P : Params) : PySem.W.Fast.tw11892294175843949962 PySem.W.Fast.tw5842520607744118111 P = PySem.W.Fast.tw14234933619407776397 PySem.W.Fast.tw5842520607744118111 P := by kernel_rfl
theorem k_vF (P : Params) : PySem.W.Fast.tw1187034232879471266 PySem.W.Fast.tw5842520607744118111 P = some (.ref 4502) := by kernel_rfl
theorem k_vB (P : Params) : PySem.W.Fast.tw5260824545911697594 PySem.W.Fast.tw5842520607744118111 P = RWk.vB' PySem.W.Fast.tw5842520607744118111 := by kernel_rfl
theorem k_vR : PySem.W.Fast.tw5835635815744752216 PySem.W.Fast.tw5842520607744118111 = RWk.vR' PySem.W.Fast.tw5842520607744118111 := by kernel_rfl
theorem k_vD : PySem.W.Fast.tw371818886218624574 PySem.W.Fast.tw5842520607744118111 = RWk.vD' PySem.W.Fast.tw5842520607744118111 := by kernel_rfl
theorem k_vY (P : Params) (os : OsState) : PySem.W.Fast.tw17058292430704169443 PySem.W.Fast.tw5842520607744118111 P os = PySem.W.Fast.tw4293696025277780638 PySem.W.Fast.tw5842520607744118111 := by kernel_rfl
theorem r_bA (P : Params) : bA PG P = true := by
  have e_PG : PG = PySem.W.Fast.tw5842520607744118111 := PySem.W.Fast.te5842520607744118111
  have e_bA : bA = PySem.W.Fast.tw13008460863463457028 := PySem.W.Fast.te13008460863463457028
  rw [e_bA, e_PG]
  exact k_bA P
theorem r_bS (P : Params) : bS PG P = true := by
  have e_PG : PG = PySem.W.Fast.tw5842520607744118111 := PySem.W.Fast.te5842520607744118111
  have e_bS : bS = PySem.W.Fast.tw16519681382591857786 := PySem.W.Fast.te16519681382591857786
  rw [e_bS, e_PG]
  exact k_bS P
theorem r_bL (P : Params) : bL PG P = true := by
  have e_PG : PG = PySem.W.Fast.tw5842520607744118111 := PySem.W.Fast.te5842520607744118111
  have e_bL : bL = PySem.W.Fast.tw9397774024428759038 := PySem.W.Fast.te9397774024428759038
  rw [e_bL, e_PG]
  exact k_bL P
theorem r_bM (P : Params) : bM PG P = true := by
  have e_PG : PG = PySem.W.Fast.tw5842520607744118111 := PySem.W.Fast.te5842520607744118111
  have e_bM : bM = PySem.W.Fast.tw14906638103758920782 := PySem.W.Fast.te14906638103758920782
  rw [e_bM, e_PG]
  exact k_bM P
theorem r_cA (P : Params) : cA PG P = true := by
  have e_PG : PG = PySem.W.Fast.tw5842520607744118111 := PySem.W.Fast.te5842520607744118111
  have e_cA : cA = PySem.W.Fast.tw2519332896927104897 := PySem.W.Fast.te2519332896927104897
  rw [e_cA, e_PG]
  exact k_cA P
theorem r_cB1 (P : Params) : cB1 PG P = true := by
  have e_PG : PG = PySem.W.Fast.tw5842520607744118111 := PySem.W.Fast.te5842520607744118111
  have e_cB1 : cB1 = PySem.W.Fast.tw12765103146725143766 := PySem.W.Fast.te12765103146725143766
  rw [e_cB1, e_PG]
  exact k_cB1 P
theorem r_cB2 (P : Params) : cB2 PG P = true := by
  have e_PG : PG = PySem.W.Fast.tw5842520607744118111 := PySem.W.Fast.te5842520607744118111
  have e_cB2 : cB2 = PySem.W.Fast.tw17804972129605952794 := PySem.W.Fast.te17804972129605952794
  rw [e_cB2, e_PG]
  exact k_cB2 P
theorem r_cC0 (P : Params) : cC0 PG P = true := by
  have e_PG : PG = PySem.W.Fast.tw5842520607744118111 := PySem.W.Fast.te5842520607744118111
  have e_cC0 : cC0 = PySem.W.Fast.tw15599673882957745967 := PySem.W.Fast.te15599673882957745967
  rw [e_cC0, e_PG]
  exact k_cC0 P
theorem r_cC1 (P : Params) : cC1 PG P = true := by
  have e_PG : PG = PySem.W.Fast.tw5842520607744118111 := PySem.W.Fast.te5842520607744118111
  have e_cC1 : cC1 = PySem.W.Fast.tw18337923362835243012 := PySem.W.Fast.te18337923362835243012
  rw [e_cC1, e_PG]
  exact k_cC1 P
theorem r_cC2 (P : Params) : cC2 PG P = true := by
  have e_PG : PG = PySem.W.Fast.tw5842520607744118111 := PySem.W.Fast.te5842520607744118111
  have e_cC2 : cC2 = PySem.W.Fast.tw5611281768303182653 := PySem.W.Fast.te5611281768303182653
  rw [e_cC2, e_PG]
  exact k_cC2 P
theorem r_cC3 (P : Params) : cC3 PG P = true := by
  have e_PG : PG = PySem.W.Fast.tw5842520607744118111 := PySem.W.Fast.te5842520607744118111
  have e_cC3 : cC3 = PySem.W.Fast.tw5294696015468555303 := PySem.W.Fast.te5294696015468555303
  rw [e_cC3, e_PG]
  exact k_cC3 P
theorem r_cC4 (P : Params) : cC4 PG P = true := by
  have e_PG : PG = PySem.W.Fast.tw5842520607744118111 := PySem.W.Fast.te5842520607744118111
  have e_cC4 : cC4 = PySem.W.Fast.tw2767099400784856219 := PySem.W.Fast.te2767099400784856219
  rw [e_cC4, e_PG]
  exact k_cC4 P
theorem r_cD (P : Params) : cD PG P = true := by
  have e_PG : PG = PySem.W.Fast.tw5842520607744118111 := PySem.W.Fast.te5842520607744118111
  have e_cD : cD = PySem.W.Fast.tw2445395847071583437 := PySem.W.Fast.te2445395847071583437
  rw [e_cD, e_PG]
  exact k_cD P
theorem r_cE (P : Params) : cE PG P = true := by
  have e_PG : PG = PySem.W.Fast.tw5842520607744118111 := PySem.W.Fast.te5842520607744118111
  have e_cE : cE = PySem.W.Fast.tw7604531523299470066 := PySem.W.Fast.te7604531523299470066
  rw [e_cE, e_PG]
  exact k_cE P
theorem r_bI (P : Params) : bI P = (true, 50, some (.ref 6)) := by
  have e_bI : bI = PySem.W.Fast.tw16757427341974181610 := PySem.W.Fast.te16757427341974181610
  rw [e_bI]
  exact k_bI P
theorem r_bX (P : Params) (os : OsState) : bX PG P os = true := by
  have e_PG : PG = PySem.W.Fast.tw5842520607744118111 := PySem.W.Fast.te5842520607744118111
  have e_bX : bX = PySem.W.Fast.tw8333013701352855626 := PySem.W.Fast.te8333013701352855626
  rw [e_bX, e_PG]
  exact k_bX P os
theorem r_vG (P : Params) : vG PG P = vG' PG P := by
  have e_PG : PG = PySem.W.Fast.tw5842520607744118111 := PySem.W.Fast.te5842520607744118111
  have e_vG : vG = PySem.W.Fast.tw11892294175843949962 := PySem.W.Fast.te11892294175843949962
  have e_vGp : vG' = PySem.W.Fast.tw14234933619407776397 := PySem.W.Fast.te14234933619407776397
  rw [e_vG, e_vGp, e_PG]
  exact k_vG P
theorem r_vF (P : Params) : vF PG P = some (.ref 4502) := by
  have e_PG : PG = PySem.W.Fast.tw5842520607744118111 := PySem.W.Fast.te5842520607744118111
  have e_vF : vF = PySem.W.Fast.tw1187034232879471266 := PySem.W.Fast.te1187034232879471266
  rw [e_vF, e_PG]
  exact k_vF P
theorem r_vB (P : Params) : vB PG P = vB' PG := by
  have e_PG : PG = PySem.W.Fast.tw5842520607744118111 := PySem.W.Fast.te5842520607744118111
  have e_vB : vB = PySem.W.Fast.tw5260824545911697594 := PySem.W.Fast.te5260824545911697594
  rw [e_vB, e_PG]
  exact k_vB P
theorem r_vR : vR PG = vR' PG := by
  have e_PG : PG = PySem.W.Fast.tw5842520607744118111 := PySem.W.Fast.te5842520607744118111
  have e_vR : vR = PySem.W.Fast.tw5835635815744752216 := PySem.W.Fast.te5835635815744752216
  rw [e_vR, e_PG]
  exact k_vR
theorem r_vD : vD PG = vD' PG := by
  have e_PG : PG = PySem.W.Fast.tw5842520607744118111 := PySem.W.Fast.te5842520607744118111
  have e_vD : vD = PySem.W.Fast.tw371818886218624574 := PySem.W.Fast.te371818886218624574
  rw [e_vD, e_PG]
  exact k_vD
theorem r_vY (P : Params) (os : OsState) : vY PG P os = vY' PG := by
  have e_PG : PG = PySem.W.Fast.tw5842520607744118111 := PySem.W.Fast.te5842520607744118111
  have e_vY : vY = PySem.W.Fast.tw17058292430704169443 := PySem.W.Fast.te17058292430704169443
  have e_vYp : vY' = PySem.W.Fast.tw4293696025277780638 := PySem.W.Fast.te4293696025277780638
  rw [e_vY, e_vYp, e_PG]
  exact k_vY P os
theorem r_opn : OV PG = OR PG := by
  have e_PG : PG = PySem.W.Fast.tw5842520607744118111 := PySem.W.Fast.te5842520607744118111
  have e_OV : OV = PySem.W.Fast.tw5015006333864032847 := PySem.W.Fast.te5015006333864032847
  have e_OR : OR = PySem.W.Fast.tw11123400252575464846 := PySem.W.Fast.te11123400252575464846
  rw [e_OV, e_OR, e_PG]
  exact opn
theorem r_fnc : FV PG = FR PG := by
  have e_PG : PG = PySem.W.Fast.tw5842520607744118111 := PySem.W.Fast.te5842520607744118111
  have e_FV : FV = PySem.W.Fast.tw6830084558662851750 := PySem.W.Fast.te6830084558662851750
  have e_FR : FR = PySem.W.Fast.tw7491188998652021260 := PySem.W.Fast.te7491188998652021260
  rw [e_FV, e_FR, e_PG]
  exact fnc
theorem r_pre : KV PG = KR PG := by
  have e_PG : PG = PySem.W.Fast.tw5842520607744118111 := PySem.W.Fast.te5842520607744118111
  have e_KV : KV = PySem.W.Fast.tw8003206740936431112 := PySem.W.Fast.te8003206740936431112
  have e_KR : KR = PySem.W.Fast.tw1247613064148511758 := PySem.W.Fast.te1247613064148511758
  rw [e_KV, e_KR, e_PG]
  exact pre
theorem r_blk (w : World) (s : Shared) : BV PG w s = BR PG s := by
  have e_PG : PG = PySem.W.Fast.tw5842520607744118111 := PySem.W.Fast.te5842520607744118111
  have e_BV : BV = PySem.W.Fast.tw17653879583545322052 := PySem.W.Fast.te17653879583545322052
  have z := blk w s
  rw [← e_PG, ← e_BV] at z
  exact z
theorem topAll (w : World) (os : OsState) : topRun treeTable PG w 50 (some (.ref 6)) (12 + (1 + 33934)) ⟨HZ w.params, #[], drawn0, 457, os⟩ (topStub PG) = some (SX PG w.params os) := by
  have g := go0 w os
  rw [List.drop_zero] at g
  have e : SE w os = SX PG w.params os := by
    unfold SE SX HX
    rw [heapE]
  rw [e] at g
  exact go_top (congrFun (congrFun r_pre w) os) (piece_block (r_blk w _) g)
theorem openAll (w : World) : (fencedOpening treeTable PG w 40000).map (fun s => (s.heap, s.gens, s.drawn, s.toks)) = some (HZ w.params, #[], drawn0, 457) :=
  open_cut (p := PG) (N := 40000) (M := 1600) (He := fun P => ⟨⟨ys P⟩, life0⟩) (H₀ := fun P => HZ P) (ge := #[]) (g₀ := #[]) (de := drawn0) (d₀ := drawn0) (ke := 457) (k₀ := 457)
    (fun w => congrFun r_opn w) (by decide +kernel) (fun w => congrFun r_fnc w) w
section
variable (P : Params) (os : OsState)
theorem g3 : (HX PG P).get? 3 = some ⟨.type "dict", none, .dict ⟨es3 P⟩ 543, #[]⟩ := by
  have z := r_vG P
  unfold vG vG' at z
  exact (Prod.mk.inj z).1
theorem gL : (HX PG P).get? 4502 = some (oL PG) := by
  have z := r_vG P
  unfold vG vG' at z
  exact (Prod.mk.inj z).2
theorem fI : (HX PG P).isNs mainGlobals = true := isNs_of (g3 P) (Bool.and_eq_true_iff.mp (r_bA P)).1
theorem fL : (HX PG P).nsMap mainGlobals (RL PG).name = some (.ref 4502) := (nsMap_of (g3 P) _).trans (r_vF P)
theorem fK : ∀ k ∈ (HX PG P).nsKeys mainGlobals, startupNames.contains k = true ∨ k ∈ PG.boundNames := keys_sub (Bool.and_eq_true_iff.mp (r_bA P)).2
theorem fN : namesBound PG (HX PG P) = true := by
  unfold namesBound
  rw [fI, Bool.true_and]
  refine List.all_eq_true.mpr fun k hk => ?_
  rcases fK P k hk with z | z
  · rw [z]; rfl
  · rw [List.contains_iff_mem.mpr z, Bool.or_true]
theorem fLd : laidKept (HZ P) (HX PG P) = true := by
  unfold laidKept
  obtain ⟨z1, z2⟩ := Bool.and_eq_true_iff.mp (r_bL P)
  rw [z1, fI, z2]
  rfl
theorem fA : (HX PG P).fnAt mainGlobals (RL PG).name = some (4502, oL PG, fdL PG) := by
  unfold Heap.fnAt
  rw [fL]
  dsimp only
  rw [gL]
  unfold oL
  rfl
theorem recsE : recsOf (QG PG) = [RL PG] := congrArg Prod.fst r_vR
theorem ownsE : ownsOf (QG PG) = [] := congrArg (fun x => x.2.1) r_vR
theorem defE : defOf (QG PG) (Str.ofString "law") = some (RL PG, []) := congrArg (fun x => x.2.2) r_vR
theorem mB : (((HX PG P).noLimitOk && (HX PG P).noDigitsOk) = true ∧ ((HX PG P).isNs builtinsNs = true ∧ (HX PG P).accountedOkI (importedModules PG.main.body) = true)) ∧ ((tablesOk (QG PG) (HX PG P) = true ∧ (HX PG P).bmainOk = true) ∧ ((valsOk (QG PG) (HX PG P) = true ∧ (!importsNone (QG PG) || (HX PG P).noSeerOk) = true) ∧ ((HX PG P).codeRecOk (.ref 4501) (RL PG).name = true ∧ ((HX PG P).tab0At 4501).isSome = true))) := by
  have z := r_bM P
  unfold bM at z
  obtain ⟨a, b⟩ := Bool.and_eq_true_iff.mp z
  obtain ⟨a1, a2⟩ := Bool.and_eq_true_iff.mp a
  obtain ⟨b1, b2⟩ := Bool.and_eq_true_iff.mp b
  obtain ⟨b3, b4⟩ := Bool.and_eq_true_iff.mp b2
  exact ⟨⟨a1, Bool.and_eq_true_iff.mp a2⟩, Bool.and_eq_true_iff.mp b1, Bool.and_eq_true_iff.mp b3, Bool.and_eq_true_iff.mp b4⟩
theorem y1 : seen ((recsOf (QG PG)).map (·.name)) (ownsOf (QG PG)) [] { SX PG P os with gens := #[] } = expectedOf (QG PG) := by
  obtain ⟨⟨m1, m2, m3⟩, ⟨m4, m5⟩, ⟨m6, m7⟩, m8, m9⟩ := mB P
  unfold seen expectedOf
  rw [recsE, ownsE]
  have sh : (HX PG P).shapeAt mainGlobals (RL PG).name = some (RL PG).shape := by
    unfold Heap.shapeAt
    rw [fA, Option.map_some]
    have m8' : (HX PG P).codeRecOk (fdL PG).code (fdL PG).qualname = true := m8
    dsimp only
    rw [m8']
    rfl
  show (⟨[(HX PG P).shapeAt mainGlobals (RL PG).name], true, [], (HX PG P).isNs mainGlobals, (HX PG P).isNs builtinsNs, (HX PG P).noLimitOk && (HX PG P).noDigitsOk, 0⟩ : Seen) = ⟨[some (RL PG).shape], true, [], true, true, true, 0⟩
  rw [sh, fI, m2, m1]
theorem y3 : ((HX PG P).keysOk (looseW (QG PG) PG.boundNames) ((recsOf (QG PG)).map (·.name)) ((litsOf (QG PG)).map (·.1)) ((clssOf (QG PG) (looseW (QG PG) PG.boundNames)).map (·.name)) && (HX PG P).accountedOkI (importedModules PG.main.body) && (HX PG P).isNs mainGlobals && (HX PG P).isNs builtinsNs && tablesOk (QG PG) (HX PG P) && (xlAt (QG PG) [] (SX PG P os) && recOk [] (SX PG P os)) && ((#[] : Array GenState).size == 0)) = true := by
  obtain ⟨⟨m1, m2, m3⟩, ⟨m4, m5⟩, ⟨m6, m7⟩, m8, m9⟩ := mB P
  have k : (HX PG P).keysOk (looseW (QG PG) PG.boundNames) ((recsOf (QG PG)).map (·.name)) ((litsOf (QG PG)).map (·.1)) ((clssOf (QG PG) (looseW (QG PG) PG.boundNames)).map (·.name)) = true := by
    unfold Heap.keysOk
    refine List.all_eq_true.mpr fun k hk => ?_
    rcases fK P k hk with z | z
    · rw [z]
      simp only [Bool.true_or]
    · have q : k ∈ looseW (QG PG) PG.boundNames := List.mem_append_left _ (List.mem_append_left _ (List.mem_append_left _ z))
      rw [List.contains_iff_mem.mpr q]
      simp only [Bool.or_true, Bool.true_or]
  rw [k, m3, fI, m2, m4, show xlAt (QG PG) [] (SX PG P os) = true from r_bX P os]
  rfl
theorem y4 : tabsOk (QG PG) (SX PG P os) = true := by
  obtain ⟨⟨m1, m2, m3⟩, ⟨m4, m5⟩, ⟨m6, m7⟩, m8, m9⟩ := mB P
  unfold tabsOk
  have t : (HX PG P).tab0Ok (RL PG).name = true := by
    unfold Heap.tab0Ok
    rw [fA]
    exact m9
  rw [recsE]
  show ((([RL PG].all fun d => (HX PG P).tab0Ok d.name) && (HX PG P).bmainOk && valsOk (QG PG) (HX PG P)) && (!importsNone (QG PG) || (HX PG P).noSeerOk)) = true
  rw [List.all_cons, t, m5, m6, m7]
  rfl
theorem seenAll : openSeen (QG PG) PG.boundNames (importedModules PG.main.body) (fun s => xlAt (QG PG) [] s && recOk [] s) true (SX PG P os) = openGood (QG PG) PG.boundNames := by
  have z := r_vY P os
  unfold vY vY' at z
  unfold openSeen openGood
  exact looks_pair (y1 P os) (looks_pair (r_vB P) (looks_pair (y3 P os) (looks_pair (y4 P os) z)))
theorem stAll : (staticsOk (importedModules PG.main.body) (HZ P) (HX PG P) && namesBound PG (HX PG P) && gensDone (SX PG P os) && laidKept (HZ P) (HX PG P)) = true := by
  rw [show staticsOk (importedModules PG.main.body) (HZ P) (HX PG P) = true from r_bS P, fN, fLd]
  rfl
theorem obAll : (hookR rsL tbL PG.main.file LsL).obs (SX PG P os) = (true, true, true, true, true, true, true) := by
  obtain ⟨d1, d2⟩ := Bool.and_eq_true_iff.mp (r_cD P)
  obtain ⟨d3, d4⟩ := Bool.and_eq_true_iff.mp d1
  obtain ⟨c1, c2⟩ := Bool.and_eq_true_iff.mp (r_cC0 P)
  have hB : exB PG.main.file LsL (KX PG P) = true := Bool.and_eq_true_iff.mpr ⟨r_cB1 P, r_cB2 P⟩
  have hC : exC LsL (KX PG P) = true := Bool.and_eq_true_iff.mpr ⟨c1, Bool.and_eq_true_iff.mpr ⟨c2, Bool.and_eq_true_iff.mpr ⟨r_cC1 P, Bool.and_eq_true_iff.mpr ⟨r_cC2 P, Bool.and_eq_true_iff.mpr ⟨r_cC3 P, r_cC4 P⟩⟩⟩⟩⟩
  show (exA PG.main.file LsL (KX PG P), exB PG.main.file LsL (KX PG P), exC LsL (KX PG P), exD LsL (KX PG P), exE LsL (KX PG P), exG LsL (KX PG P), tabC (KRw (LY PG P) [tbL]) (KX PG P)) = _
  rw [show exA PG.main.file LsL (KX PG P) = true from r_cA P, hB, hC, d3, show exE LsL (KX PG P) = true from r_cE P, d4, d2]
end
theorem leftAll : LeftO PG (QG PG) PG.boundNames (fun s => xlAt (QG PG) [] s && recOk [] s) (hookR rsL tbL PG.main.file LsL).obs (hookR rsL tbL PG.main.file LsL).val 40000 :=
  LeftO.of_pieces (H₀ := fun P => HZ P) (H₁ := fun P => HX PG P) (gs₀ := #[]) (gs₁ := #[]) (d₀ := drawn0) (d₁ := drawn0) (k₀ := 457) (k₁ := 6665) (m₀ := 50) (ann := some (.ref 6)) (M := 12 + (1 + 33934))
    openAll (fun w => r_bI w.params) topAll (by decide +kernel) (fun w => funext fun os => looks_pair (stAll w.params os) (looks_pair (seenAll w.params os) (obAll w.params os)))
theorem okS : (chainsOk (QG LW.row.prog) && opensWell LW.row.prog && (frees LW.row.toRowW && LW.row.within.isEmpty)) = true := by first | k_qdec | decide +kernel
theorem topS : (LW.prog.main.scope.names.lookup ("super" : Str)).isSome = false := by
  have z : (!(LW.prog.main.scope.names.lookup ("super" : Str)).isSome) = true := by k_qdec
  exact (Bool.not_eq_true' _).mp z
theorem bareS : LW.row.prog.bare := ⟨by kernel_rfl, by kernel_rfl, by kernel_rfl, by kernel_rfl, by kernel_rfl, tbw⟩
theorem promS : LW.row.toRowW.promised := by
  w_witness2
theorem dfS : (RL PG).params.defaults = [] := by kernel_rfl
theorem dnS : (RL PG).name = ("law" : Str) := by kernel_rfl
theorem kwS : kwWritten? (RL PG).params.kwonlyargs (RL PG).params.kw_defaults = some [] := by kernel_rfl
theorem wrS : (!LW.row.writes || LW.row.records.isEmpty) = true := by kernel_rfl
theorem lnA : LsL.spA.length = 31 := by kernel_rfl
theorem lnB : LsL.spB.length = 40 := by kernel_rfl
end RWk
end
set_option maxRecDepth 100000 in
set_option maxHeartbeats 0 in
theorem PySem.Challenge.cw_ringwalkers_k00_errors_made_holds : PySem.Challenge.rw_ringwalkers_k00_errors_made.Holds := by
  exact RWk.joint (l := PySem.Challenge.rw_ringwalkers_k00_errors_made) (q := RWk.QG RWk.PG) (rs := RWk.rsL) (tb := RWk.tbL) (L := RWk.LsL) (loose := RWk.PG.boundNames) (N := 40000) (n := 63) (d := RWk.RL RWk.PG) RWk.lnA RWk.lnB RWk.ws RWk.leftAll RWk.defE RWk.r_vD RWk.dfS RWk.dnS RWk.kwS RWk.wrS RWk.okS RWk.bareS RWk.promS rfl (by decide) RWk.topS
