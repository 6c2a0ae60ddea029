import PyProof.Rows.All
import KE.KExcSuper
import HandS.ExcIs
import HandS.ExcField
import HandS.Head0
import HandS.Head1
import HandS.Head2
import HandS.HeadEnd
import HandS.HeadHook1
import HandS.HeadHook2
import HandS.HeadHook3
import HandS.HeadHook4
import HandS.HeadWalk
import HandS.Words
import Wide.All
import OpenK.AllK
import Wide.FinOn
import HandS.ForMost
import HandS.ForExc
import HandS.CallSlots
import HandS.Lambda
import HandS.Defaults
import HandS.IsInst
import HandS.TupAny
import HandS.TupLe
import HandS.Wide
import HandS.HotCalls
import PyProof.StrOps2
import HandS.More
import HandS.RaiseMore
import HandS.Star
import HandS.Flow
import HandS.ExcCtx
import KE.GoesRaise
import HandS.WordsExc
import HandS.ClsMeth
import HandS.Conv
import KE.KDictList
import KE.IntTextLaws
import KE.KIntText
import KE.IntTextText
import PyProof.Rows.StrIntSpec
import HandS.Codes
import PySem.Challenge.RW_slotsbehind_k83_lines_of_deeds
set_option Elab.async false
/-! ## HKD -/
section
set_option linter.all false
set_option maxRecDepth 100000
set_option maxHeartbeats 4000000
/-! The head's facts by addresses: what is seen of a few objects of the heap that the top leaves. -/
namespace HK
open PySem PySem.Spec PyProof.Rows L2 PySem.W
/-! ### a def at an address -/
abbrev FnV : Type := Option (Str × Str × Arguments × FuncBody × Scope × Addr × List (Str × Addr) × Addr)
def fnV (K : Frag) (f : Addr) : FnV := match K.lookup f with
  | some ⟨_, _, .func fd, _⟩ => some (fd.name, fd.qualname, fd.params, fd.body, fd.scope, fd.globals, fd.closure, fd.builtins)
  | _ => none
/-- f: the function, c: its code object; what of it the text tells -/
structure DefA where
  f : Addr
  c : Addr
  name : Str
  qual : Str
  params : Arguments
  body : List Stmt
  scope : Scope
  clo : List (Str × Addr)
  dfl : List V
def DefA.val (d : DefA) : FnV := some (d.name, d.qual, d.params, .stmts d.body, d.scope, mainGlobals, d.clo, builtinsNs)
def DefA.ok (K : Frag) (d : DefA) : Bool := match K.lookup d.f with
  | some ⟨_, _, .func fd, _⟩ => (match fd.code with
    | .ref c => c == d.c
    | _ => false) && (codeIn K (.ref d.c) d.qual && He.dflB K fd.defaults d.dfl)
  | _ => false
theorem DefA.get {K : Frag} {d : DefA} (e : fnV K d.f = d.val) (c : d.ok K = true) : ∃ (oc dV kV doc pm ct : Value) (an od : Option Addr) (osl : Array (Option Value)),
    K.lookup d.f = some ⟨oc, od, .func (fnX d.name d.qual d.params d.body d.scope d.clo dV kV doc pm an (.ref d.c) ct), osl⟩ ∧ codeIn K (.ref d.c) d.qual = true ∧ DflV K dV d.dfl := by
  unfold fnV at e
  unfold DefA.ok at c
  cases q : K.lookup d.f with
  | none =>
    rw [q] at c
    cases c
  | some o =>
    obtain ⟨oc, od, dt, osl⟩ := o
    rw [q] at c e
    cases dt with
    | func fd =>
      obtain ⟨n1, n2, n3, n4, n5, n6, n7, n8, n9, n10, n11, n12, n13, n14, n15⟩ := fd
      have e2 : (some (n1, n2, n3, n4, n5, n6, n7, n15) : FnV) = some (d.name, d.qual, d.params, .stmts d.body, d.scope, mainGlobals, d.clo, builtinsNs) := e
      simp only [Option.some.injEq, Prod.mk.injEq] at e2
      obtain ⟨h1, h2, h3, h4, h5, h6, h7, h8⟩ := e2
      subst h1 h2 h3 h4 h5 h6 h7 h8
      obtain ⟨k1, k2⟩ := He.ba (show ((match (generalizing := false) n13 with
        | .ref c => c == d.c
        | _ => false) && (codeIn K (.ref d.c) d.qual && He.dflB K n8 d.dfl)) = true from c)
      obtain ⟨k2, k3⟩ := He.ba k2
      have k4 : n13 = .ref d.c := by
        cases n13 with
        | ref z => rw [eq_of_beq (show (z == d.c) = true from k1)]
        | _ => cases k1
      subst k4
      exact ⟨oc, n8, n9, n10, n11, n14, n12, od, osl, rfl, k2, He.dflB_ok k3⟩
    | _ => cases c
/-! ### the Hook -/
abbrev Al : Type := Bool × List FnV × List (Option (List (Option (Str × Int))))
abbrev Fact : Type := Frag → Bool
structure Hd where
  /-- the objects that are looked at -/
  as : List Addr
  /-- tables of code objects, and these -/
  ts : List (Addr × Addr)
  fs : List Fact
  ds : List DefA
  dk : List (Addr × List Str)
def fact_all (d : Hd) (K : Frag) : Bool := d.fs.all fun f => f K
def obsK (d : Hd) (K : Frag) : Al := (fact_all d K && d.ds.all fun x => x.ok K, d.ds.map fun x => fnV K x.f, d.dk.map fun x => He.dicW K x.1)
def tabOk (K : Frag) (p : Addr × Addr) : Bool := codeHdIn K p.1 p.2 && (match K.lookup p.2 with
  | some o => He.emptyTab o
  | none => false)
def obsG (d : Hd) (g : Addr → Option Obj) : Al × Bool := (obsK d (He.frG g d.as), d.ts.all (tabOk (He.frG g (d.ts.flatMap fun p => [p.1, p.2]))))
def valK (d : Hd) (w : World) : Al := (true, d.ds.map DefA.val, d.dk.map fun x => some (He.keysIn w.params x.2))
structure Says (d : Hd) (w : World) (h : Heap) : Prop where
  ex : ∃ g : Addr → Option Obj, (He.frG g d.as).In h ∧ obsK d (He.frG g d.as) = valK d w ∧ (He.frG g (d.ts.flatMap fun p => [p.1, p.2])).In h ∧ d.ts.all (tabOk (He.frG g (d.ts.flatMap fun p => [p.1, p.2]))) = true
def hook (d : Hd) : Hook where
  α := Al × Bool
  obs := fun s => obsG d s.heap.get?
  val := fun w => (valK d w, true)
  says := fun w h => Says d w h
  of := fun w s e => by
    obtain ⟨e1, e2⟩ := Prod.mk.inj e
    exact ⟨_, He.frG_in, e1, He.frG_in, e2⟩
  keeps := fun w h h' ⟨⟨g, h1, h2, h3, h4⟩⟩ k => ⟨g, Frag.In.keeps h1 k, h2, Frag.In.keeps h3 k, h4⟩
def ob (d : Hd) (s : SharedT) : Al × Bool := obsG d (HandSHeadRun.getT s)
theorem ob_eq (d : Hd) (s : SharedT) : ob d s = (hook d).obs s.abs := by
  have e : HandSHeadRun.getT s = s.abs.heap.get? := funext (HandSHeadRun.getT_eq s)
  unfold ob
  rw [e] <;> rfl
theorem frG_none {g : Addr → Option Obj} {a : Addr} : ∀ {as : List Addr}, a ∉ as → (He.frG g as).lookup a = none
  | [], _ => rfl
  | b :: r, h => by
    have hb : (a == b) = false := by
      rw [beq_eq_false_iff_ne]
      exact fun e => h (by rw [e]; exact List.mem_cons_self)
    have hr : a ∉ r := fun e => h (List.mem_cons_of_mem _ e)
    unfold He.frG
    rw [List.filterMap_cons]
    cases g b with
    | none => exact frG_none hr
    | some o =>
      show (match a == b with | true => some o | false => (He.frG g r).lookup a) = none
      rw [hb]
      exact frG_none hr
/-! ### what follows -/
section
variable {d : Hd} {w : World} {K : Frag}
theorem all_ok (e : obsK d K = valK d w) : fact_all d K = true ∧ ∀ x ∈ d.ds, x.ok K = true := by
  obtain ⟨h1, h2⟩ := He.ba (show (fact_all d K && d.ds.all fun x => x.ok K) = true from congrArg (fun z : Al => z.1) e)
  exact ⟨h1, List.all_eq_true.mp h2⟩
theorem fact (e : obsK d K = valK d w) {f : Fact} (i : Nat) (h : d.fs[i]? = some f) : f K = true :=
  List.all_eq_true.mp (all_ok e).1 f (List.mem_of_getElem? h)
theorem def_ (e : obsK d K = valK d w) {x : DefA} (i : Nat) (h : d.ds[i]? = some x) : ∃ (oc dV kV doc pm ct : Value) (an od : Option Addr) (osl : Array (Option Value)),
    K.lookup x.f = some ⟨oc, od, .func (fnX x.name x.qual x.params x.body x.scope x.clo dV kV doc pm an (.ref x.c) ct), osl⟩ ∧ codeIn K (.ref x.c) x.qual = true ∧ DflV K dV x.dfl := by
  have e2 : (d.ds.map fun x => fnV K x.f)[i]? = (d.ds.map DefA.val)[i]? := by rw [show (d.ds.map fun x => fnV K x.f) = d.ds.map DefA.val from congrArg (fun z : Al => z.2.1) e]
  rw [List.getElem?_map, List.getElem?_map, h] at e2
  exact DefA.get (Option.some.inj e2) ((all_ok e).2 x (List.mem_of_getElem? h))
theorem dict_ (e : obsK d K = valK d w) {x : Addr × List Str} (i : Nat) (h : d.dk[i]? = some x) : He.dicW K x.1 = some (He.keysIn w.params x.2) := by
  have e2 : (d.dk.map fun x => He.dicW K x.1)[i]? = (d.dk.map fun x => some (He.keysIn w.params x.2))[i]? := by rw [show (d.dk.map fun x => He.dicW K x.1) = d.dk.map fun x => some (He.keysIn w.params x.2) from congrArg (fun z : Al => z.2.2) e]
  rw [List.getElem?_map, List.getElem?_map, h] at e2
  exact Option.some.inj e2
end
/-! ### the run, in parts -/
section
open HandSHeadRun
variable {r : OpenRow} {q : Program} {d : Hd} {M : Nat} {loose : List PySem.Str} {w : World}
theorem run_parts {α β γ : Type} {X : Option SharedT} {f : SharedT → α} {g : SharedT → β} {h : SharedT → γ} {a : α} {b : β} {c : γ} (h1 : X.map f = some a) (h2 : X.map g = some b) (h3 : X.map h = some c) : X.map (fun s => (f s, g s, h s)) = some (a, b, c) := by
  cases X with
  | none => cases h1
  | some s => simp only [Option.map_some, Option.some.injEq] at h1 h2 h3 ⊢; rw [h1, h2, h3]
theorem map_of {α β : Type} {X : Option SharedT} {f : SharedT → α} {a : α} (h : X.map f = some a) (g : α → β) : X.map (fun s => g (f s)) = some (g a) := by
  cases X with
  | none => cases h
  | some s => simp only [Option.map_some, Option.some.injEq] at h ⊢; rw [h]
theorem run_pair {α β : Type} {X : Option SharedT} {f : SharedT → α} {g : SharedT → β} {a : α} {b : β} (h1 : X.map f = some a) (h2 : X.map g = some b) : X.map (fun s => (f s, g s)) = some (a, b) := by
  cases X with
  | none => cases h1
  | some s => simp only [Option.map_some, Option.some.injEq] at h1 h2 ⊢; rw [h1, h2]
theorem run_of (h1 : ∀ os : OsState, (endF (stepQ (denQ tabQ) r.prog w) M r.prog w os).map (fun s => (looksF r.prog (boot_heap w.params) s.abs, seenQ q loose (importedModules r.prog.main.body) (fun s => xlAt q [] s && recOk r.toRowW.records s) s.abs)) = some (true, openGood q loose))
    (h2 : ∀ os : OsState, (endF (stepQ (denQ tabQ) r.prog w) M r.prog w os).map (fun s => ob d s) = some (valK d w, true)) : RunEq r q (hook d) (ob d) M loose w := fun os => by
  have z1 := h1 os
  have z2 := h2 os
  cases e : endF (stepQ (denQ tabQ) r.prog w) M r.prog w os with
  | none => rw [e] at z1; cases z1
  | some s =>
    rw [e] at z1 z2
    simp only [Option.map_some, Option.some.injEq, Prod.mk.injEq] at z1 z2
    exact congrArg some (Prod.ext z1.1 (Prod.ext z1.2 z2))
end
/-! ### what is looked at, in parts -/
section
open HandSHeadRun
variable {d : Hd} {w : World} {X : Option SharedT}
def factsB (d : Hd) (fs : List Fact) (s : SharedT) : Bool := fs.all fun f => f (He.frG (getT s) d.as)
def defsB (d : Hd) (ds : List DefA) (s : SharedT) : Bool × List FnV := (ds.all fun x => x.ok (He.frG (getT s) d.as), ds.map fun x => fnV (He.frG (getT s) d.as) x.f)
def restB (d : Hd) (s : SharedT) : List (Option (List (Option (Str × Int)))) × Bool := (d.dk.map fun x => He.dicW (He.frG (getT s) d.as) x.1, d.ts.all (tabOk (He.frG (getT s) (d.ts.flatMap fun p => [p.1, p.2]))))
theorem facts_app {a b : List Fact} (h1 : X.map (factsB d a) = some true) (h2 : X.map (factsB d b) = some true) : X.map (factsB d (a ++ b)) = some true := by
  cases X with
  | none => cases h1
  | some s =>
    simp only [Option.map_some, Option.some.injEq] at h1 h2 ⊢
    unfold factsB at h1 h2 ⊢
    rw [List.all_append, h1, h2]
    rfl
theorem defs_app {a b : List DefA} (h1 : X.map (defsB d a) = some (true, a.map DefA.val)) (h2 : X.map (defsB d b) = some (true, b.map DefA.val)) : X.map (defsB d (a ++ b)) = some (true, (a ++ b).map DefA.val) := by
  cases X with
  | none => cases h1
  | some s =>
    simp only [Option.map_some, Option.some.injEq] at h1 h2 ⊢
    unfold defsB at h1 h2 ⊢
    simp only [Prod.mk.injEq] at h1 h2 ⊢
    rw [List.all_append, List.map_append, List.map_append, h1.1, h2.1, h1.2, h2.2]
    exact ⟨rfl, rfl⟩
theorem ob_of (h1 : X.map (factsB d d.fs) = some true) (h2 : X.map (defsB d d.ds) = some (true, d.ds.map DefA.val)) (h3 : X.map (restB d) = some (d.dk.map fun x => some (He.keysIn w.params x.2), true)) : X.map (fun s => ob d s) = some (valK d w, true) := by
  cases X with
  | none => cases h1
  | some s =>
    simp only [Option.map_some, Option.some.injEq] at h1 h2 h3 ⊢
    obtain ⟨a1, a2⟩ := Prod.mk.inj h2
    obtain ⟨b1, b2⟩ := Prod.mk.inj h3
    refine Prod.ext (Prod.ext ?_ (Prod.ext a2 b1)) b2
    show (fact_all d (He.frG (getT s) d.as) && d.ds.all fun x => x.ok (He.frG (getT s) d.as)) = true
    rw [show fact_all d (He.frG (getT s) d.as) = true from h1, a1]
    rfl
end
/-! ### facts -/
section
open PySem.Calls
def gl (x : Str) (a : Addr) : Fact := fun K => He.eqO (nsIn K mainGlobals x) (some (some (.ref a)))
def fr (x : Str) : Fact := fun K => He.eqO (nsIn K mainGlobals x) (some none)
def frs (l : List Str) : Fact := fun K => l.all fun x => fr x K
def gi (x : Str) (i : Int) : Fact := fun K => match nsIn K mainGlobals x with
  | some (some (.int j _)) => decide (j = i)
  | _ => false
def kp (a : Addr) : Fact := fun K => keepIn K (.ref a)
def noList : Fact := fun K => K.all fun p => match p.2.cls with
  | .type c => !(c == "list")
  | _ => true
theorem lookup_memK {K : Frag} {a : Addr} {o : Obj} (h : K.lookup a = some o) : (a, o) ∈ K := He.lookup_mem h
theorem noList_ok {K : Frag} (c : noList K = true) {a : Addr} {o : Obj} (h : K.lookup a = some o) : o.cls ≠ .type "list" := fun e => by
  have z := List.all_eq_true.mp c _ (lookup_memK h)
  simp only [e] at z
  cases z
def clsB (C : Addr) : Fact := fun K => plainGet K C Str.empty && (hasDictIn K C && (plainOver K C && He.eqO (findIn K (.ref C) "__setattr__") (some (some (.builtin "object.__setattr__")))))
def noatB (C : Addr) (fs : List Str) : Fact := fun K => fs.all fun f => He.eqO (findIn K (.ref C) f) (some none)
def methB (C : Addr) (m : Str) (f : Addr) : Fact := fun K => He.eqO (findIn K (.ref C) m) (some (some (.ref f))) && (isFn K (.ref f) && keepIn K (.ref f))
def mkB (C f : Addr) : Fact := fun K => makesIn K C && (He.eqO (findIn K (.ref C) "__init__") (some (some (.ref f))) && (isFn K (.ref f) && keepIn K (.ref C)))
section
variable {K : Frag} {h : Heap} {mg : Str → Option Value}
theorem gl_ok (X : K.In h) (G : h.Ns mainGlobals mg) {x : Str} {a : Addr} (c : gl x a K = true) : mg x = some (.ref a) := mg_of X G (He.eqO_ok c)
theorem fr_ok (X : K.In h) (G : h.Ns mainGlobals mg) {x : Str} (c : fr x K = true) : mg x = none := mg_none_of X G (He.eqO_ok c)
theorem frs_ok (X : K.In h) (G : h.Ns mainGlobals mg) {l : List Str} (c : frs l K = true) : ∀ x ∈ l, mg x = none := fun x hx => fr_ok X G (List.all_eq_true.mp c x hx)
theorem gi_ok (X : K.In h) (G : h.Ns mainGlobals mg) {x : Str} {i : Int} (c : gi x i K = true) : ∃ t, mg x = some (.int i t) := by
  unfold gi at c
  split at c
  · rename_i j t e
    obtain rfl : j = i := of_decide_eq_true c
    exact ⟨t, mg_of X G e⟩
  · cases c
theorem cls_ok {C : Addr} (c : clsB C K = true) : Cls K C := by
  obtain ⟨c1, c⟩ := He.ba c
  obtain ⟨c2, c⟩ := He.ba c
  obtain ⟨c3, c4⟩ := He.ba c
  exact ⟨c1, c2, c3, He.eqO_ok c4⟩
theorem noat_ok {C : Addr} {fs : List Str} (c : noatB C fs K = true) : ∀ f ∈ fs, NoAttr K C f := fun f hf => He.eqO_ok (List.all_eq_true.mp c f hf)
theorem meth_ok {C f : Addr} {m : Str} (c : methB C m f K = true) : Meth K C m f := by
  obtain ⟨c1, c⟩ := He.ba c
  obtain ⟨c2, c3⟩ := He.ba c
  exact ⟨He.eqO_ok c1, c2, c3⟩
theorem mk_ok {C f : Addr} (c : mkB C f K = true) : Mk K C f := by
  obtain ⟨c1, c⟩ := He.ba c
  obtain ⟨c2, c⟩ := He.ba c
  obtain ⟨c3, c4⟩ := He.ba c
  exact ⟨c1, He.eqO_ok c2, c3, c4⟩
end
def pairO (e : DictEntry) : Option (Str × Int) := match e.key, e.val with
  | .str x _, .int i _ => some (x, i)
  | _, _ => none
def dicB (a : Addr) (l : List (Str × Int)) : Fact := fun K => match K.lookup a with
  | some ⟨_, _, .dict es _, _⟩ => decide (es.toList.map pairO = l.map some)
  | _ => false
def excClsB (C : Addr) : Fact := fun K => match K.lookup C with
  | some ⟨.type "type", _, .cls cd, sl⟩ => (match cd.mro, sl.toList with
    | .ref C' :: bm, [_, _, _, _, some (.builtin n), _] => C' == C && n == "ValueError.__new__" && !cd.hasDel && cd.hasDict && HandSPX.refsVE bm
    | _, _ => false)
  | _ => false
def cellB (cc D : Addr) : Fact := fun K => match K.lookup cc with
  | some ⟨_, _, .cell (some (.ref D')), _⟩ => D' == D
  | _ => false
def fileB (c : Addr) (file : Str) : Fact := fun K => match K.lookup c with
  | some ⟨_, _, .fields vs, _⟩ => (match (vs[2]? : Option Value) with
    | some (.str f _) => f == file
    | _ => false)
  | _ => false
/-- C: the class, R: its parent, fR, fC: their __init__ -/
def subB (C R fR fC : Addr) : Fact := fun K => excClsB C K &&
  (He.eqO (findIn K (.ref C) "__setattr__") (some (some (.builtin "object.__setattr__"))) && (He.eqO (findIn K (.ref C) "what") (some none) && (He.eqO (findIn K (.ref C) "word") (some none) &&
  (decide (mroIn K C (.ref R) = some true) && (He.eqO (nsIn K cStatics "thirdparty.any") (some none) && (He.eqO (ks_superIn K C R "__init__") (some (some (.builtin "ValueError.__init__"))) && (decide (subIn K (.ref C) (.type "ValueError") = some true) &&
  ((clsIn K R).isSome && (decide (mroIn K C (.ref C) = some true) && (He.eqO (ks_superIn K C C "__init__") (some (some (.ref fR))) && (fnIn K fR && (decide (typeIn K (.ref fR) = some (.type "function")) &&
  (He.eqO (findIn K (.ref C) "__init__") (some (some (.ref fC))) && (decide (typeIn K (.ref fC) = some (.type "function")) && (keepIn K (.ref C) &&
  (decide (subIn K (.ref C) (.type "BaseException") = some true) && decide (typeIn K (.ref C) = some (.type "type"))))))))))))))))))
def exnB (D R : Addr) : Fact := fun K => He.eqO (findIn K (.ref D) "__getattribute__") (some (some (.builtin "BaseException.__getattribute__"))) && (He.eqO (findIn K (.ref D) "__getattr__") (some none) &&
  (decide (subIn K (.ref D) (.type "BaseException") = some true) && (hasDictIn K D && (He.eqO (findIn K (.ref D) "__class__") (some (some (.builtin "object.__class__"))) &&
  (He.eqO (specialIn K (.builtin "object.__class__") "__get__") (some (some (.builtin "getset_descriptor.__get__"))) && (decide (takesIn K (.builtin "object.__class__") = some true) &&
  (decide (mroIn K D (.type "object") = some true) && (He.eqO (findIn K (.ref D) "what") (some none) && decide (exmOne K (.ref D) (.ref R) = some true)))))))))
def kitB (D : Addr) (l : List (Str × Addr)) (nm : Str) : Fact := fun K => l.all fun p => decide (kitOne K (.ref D) (.ref p.2) = some (decide (p.1 = nm)))
def glsB (l : List (Str × Addr)) : Fact := fun K => l.all fun p => gl p.1 p.2 K
end
end HK
end
/-! ## F83a -/
section
set_option maxRecDepth 100000
set_option linter.all false
open PySem
def tops : List Stmt := PySem.Challenge.pw_slotsbehind_k83_lines_of_deeds.main.body
def clsOfS (s : Stmt) : Option (Str × List Stmt) := match s with
  | .ClassDef x _ _ b _ _ _ _ _ _ _ => some (x, b)
  | _ => none
def RC : Addr := 1405
def FA : Addr := 1312
def formsT : List (Str × Int) := [(("open" : Str), 1), (("close" : Str), 2), (("bar" : Str), 3), (("part" : Str), 3), (("wire" : Str), 4), (("cut" : Str), 3)]
def stAt (i : Nat) : Stmt := tops.getD i (.Pass default)
def mtAt (i j : Nat) : Stmt := match clsOfS (stAt i) with
  | some p => p.2.getD j (.Pass default)
  | none => .Pass default
end
/-! ## H83A -/
section
set_option linter.all false
set_option maxRecDepth 100000
set_option maxHeartbeats 0
/-! The head: what is looked at. -/
open PySem PySem.W L2
abbrev Rw : PySem.W.OpenRow := PySem.W.OpenLaw.row PySem.Challenge.rw_slotsbehind_k83_lines_of_deeds
def clsL0 : List (Str × Addr) := [(("BadBook" : Str), 63), (("BadBar" : Str), 84), (("NoBar" : Str), 105), (("Barred" : Str), 126), (("BadPhases" : Str), 147), (("Missing" : Str), 168), (("BadStream" : Str), 189), (("BadLot" : Str), 210), (("BadOrder" : Str), 231), (("BadHang" : Str), 252), (("NotHung" : Str), 273), (("BadComings" : Str), 294), (("BadSlot" : Str), 315), (("NoCar" : Str), 336), (("BadLate" : Str), 357), (("BadWires" : Str), 378), (("BadPaper" : Str), 399), (("BadPlan" : Str), 420), (("Deaf" : Str), 441), (("BadCome" : Str), 462), (("Unheard" : Str), 483), (("BadCase" : Str), 504), (("BadLeft" : Str), 525), (("BadFormula" : Str), 546), (("BadRules" : Str), 567), (("BadRing" : Str), 588), (("BadIndex" : Str), 609), (("Ranked" : Str), 630), (("TramFlaw" : Str), 651), (("BadTurn" : Str), 672)]
def clsL1 : List (Str × Addr) := [(("BadEyes" : Str), 693), (("BadFailed" : Str), 714), (("BadGreens" : Str), 735), (("TooShort" : Str), 756), (("BadRound" : Str), 777), (("Hungry" : Str), 798), (("BadTown" : Str), 819), (("Uneven" : Str), 840), (("BadStarts" : Str), 861), (("BadSchedule" : Str), 882), (("BadTable" : Str), 903), (("YieldFlaw" : Str), 924), (("Same" : Str), 945), (("BadDeed" : Str), 966), (("Closed" : Str), 987), (("BadSlots" : Str), 1008), (("Wired" : Str), 1029), (("NoWire" : Str), 1050), (("Behind" : Str), 1071), (("BadOffice" : Str), 1092), (("BadStamp" : Str), 1113), (("BadDeeds" : Str), 1134), (("NothingToUndo" : Str), 1155), (("NothingToRedo" : Str), 1176), (("BadText" : Str), 1197), (("WrongLine" : Str), 1218), (("BadNames" : Str), 1239), (("Busy" : Str), 1260), (("BadMany" : Str), 1281), (("TooMany" : Str), 1302)]
def clsL : List (Str × Addr) := clsL0 ++ clsL1
def loose0 : List Str := ["_wall", "Refused", "BadBook", "BadBar", "NoBar", "Barred", "BadPhases", "Missing", "BadStream", "BadLot", "BadOrder", "BadHang", "NotHung", "BadComings", "BadSlot", "NoCar", "BadLate", "BadWires", "BadPaper", "BadPlan", "Deaf", "BadCome", "Unheard", "BadCase", "BadLeft", "BadFormula", "BadRules", "BadRing", "BadIndex", "Ranked"]
def loose1 : List Str := ["TramFlaw", "BadTurn", "BadEyes", "BadFailed", "BadGreens", "TooShort", "BadRound", "Hungry", "BadTown", "Uneven", "BadStarts", "BadSchedule", "BadTable", "YieldFlaw", "Same", "BadDeed", "Closed", "BadSlots", "Wired", "NoWire", "Behind", "BadOffice", "BadStamp", "BadDeeds", "NothingToUndo", "NothingToRedo", "BadText", "WrongLine", "BadNames", "Busy"]
def loose2 : List Str := ["BadMany", "TooMany", "whole", "GREATEST", "FORMS", "is_deed", "MOST_SIGNS", "FIGURES", "lines_of", "words_of", "number_of", "Reader", "reader_at", "end_lines", "deed_text", "deed_in", "read_deed", "_law_pool", "_law_take", "_law_one", "_law_long_number", "_law_is_deed", "_law_text_wrong", "_law_word_number", "_law_lot_word", "_law_word_at", "_law_wrong_at", "_law_spoken", "_law_deed_sizes", "_law_read_deed_words"]
def loose3 : List Str := ["_law_read_deed", "_law_bent_text", "_law_is_whole", "_law_same", "_law_classes", "_law_heard", "_law_tells", "_law_refuses", "_law_some_number", "_law_some_deed", "_law_odd_deed_of", "_law_some_text", "_law_lines_right", "_law_long_right"]
def loose : List Str := loose0 ++ loose1 ++ loose2 ++ loose3
def a_whole : HK.DefA := ⟨1311, 1310, "whole", "whole", defArgs (stAt 63), defBody (stAt 63), defScope (stAt 63), [], []⟩
def a_is_deed : HK.DefA := ⟨1317, 1316, "is_deed", "is_deed", defArgs (stAt 67), defBody (stAt 67), defScope (stAt 67), [], []⟩
def a_lines_of : HK.DefA := ⟨1324, 1323, "lines_of", "lines_of", defArgs (stAt 71), defBody (stAt 71), defScope (stAt 71), [], []⟩
def a_words_of : HK.DefA := ⟨1331, 1330, "words_of", "words_of", defArgs (stAt 72), defBody (stAt 72), defScope (stAt 72), [], []⟩
def a_number_of : HK.DefA := ⟨1338, 1337, "number_of", "number_of", defArgs (stAt 73), defBody (stAt 73), defScope (stAt 73), [], []⟩
def a_Reader___init__ : HK.DefA := ⟨1352, 1351, "__init__", "Reader.__init__", defArgs (mtAt 75 0), defBody (mtAt 75 0), defScope (mtAt 75 0), [], []⟩
def a_Reader_refuse : HK.DefA := ⟨1359, 1358, "refuse", "Reader.refuse", defArgs (mtAt 75 1), defBody (mtAt 75 1), defScope (mtAt 75 1), [], []⟩
def a_Reader_is_over : HK.DefA := ⟨1366, 1365, "is_over", "Reader.is_over", defArgs (mtAt 75 2), defBody (mtAt 75 2), defScope (mtAt 75 2), [], []⟩
def a_Reader_word : HK.DefA := ⟨1373, 1372, "word", "Reader.word", defArgs (mtAt 75 3), defBody (mtAt 75 3), defScope (mtAt 75 3), [], []⟩
def a_Reader_one_of : HK.DefA := ⟨1380, 1379, "one_of", "Reader.one_of", defArgs (mtAt 75 4), defBody (mtAt 75 4), defScope (mtAt 75 4), [], []⟩
def a_Reader_natural : HK.DefA := ⟨1388, 1387, "natural", "Reader.natural", defArgs (mtAt 75 5), defBody (mtAt 75 5), defScope (mtAt 75 5), [], [.int 0, .non]⟩
def a_Reader_end : HK.DefA := ⟨1402, 1401, "end", "Reader.end", defArgs (mtAt 75 7), defBody (mtAt 75 7), defScope (mtAt 75 7), [], []⟩
def a_reader_at : HK.DefA := ⟨1416, 1415, "reader_at", "reader_at", defArgs (stAt 76), defBody (stAt 76), defScope (stAt 76), [], []⟩
def a_end_lines : HK.DefA := ⟨1423, 1422, "end_lines", "end_lines", defArgs (stAt 77), defBody (stAt 77), defScope (stAt 77), [], []⟩
def a_deed_text : HK.DefA := ⟨1428, 1427, "deed_text", "deed_text", defArgs (stAt 79), defBody (stAt 79), defScope (stAt 79), [], []⟩
def a_deed_in : HK.DefA := ⟨1433, 1432, "deed_in", "deed_in", defArgs (stAt 80), defBody (stAt 80), defScope (stAt 80), [], []⟩
def a_read_deed : HK.DefA := ⟨1440, 1439, "read_deed", "read_deed", defArgs (stAt 81), defBody (stAt 81), defScope (stAt 81), [], []⟩
def a__law_pool : HK.DefA := ⟨1447, 1446, "_law_pool", "_law_pool", defArgs (stAt 83), defBody (stAt 83), defScope (stAt 83), [], []⟩
def a__law_take : HK.DefA := ⟨1454, 1453, "_law_take", "_law_take", defArgs (stAt 84), defBody (stAt 84), defScope (stAt 84), [], []⟩
def a__law_one : HK.DefA := ⟨1461, 1460, "_law_one", "_law_one", defArgs (stAt 85), defBody (stAt 85), defScope (stAt 85), [], []⟩
def a__law_long_number : HK.DefA := ⟨1468, 1467, "_law_long_number", "_law_long_number", defArgs (stAt 86), defBody (stAt 86), defScope (stAt 86), [], []⟩
def a__law_is_deed : HK.DefA := ⟨1473, 1472, "_law_is_deed", "_law_is_deed", defArgs (stAt 87), defBody (stAt 87), defScope (stAt 87), [], []⟩
def a__law_text_wrong : HK.DefA := ⟨1480, 1479, "_law_text_wrong", "_law_text_wrong", defArgs (stAt 88), defBody (stAt 88), defScope (stAt 88), [], []⟩
def a__law_word_number : HK.DefA := ⟨1485, 1484, "_law_word_number", "_law_word_number", defArgs (stAt 89), defBody (stAt 89), defScope (stAt 89), [], []⟩
def a__law_lot_word : HK.DefA := ⟨1490, 1489, "_law_lot_word", "_law_lot_word", defArgs (stAt 90), defBody (stAt 90), defScope (stAt 90), [], []⟩
def a__law_word_at : HK.DefA := ⟨1497, 1496, "_law_word_at", "_law_word_at", defArgs (stAt 91), defBody (stAt 91), defScope (stAt 91), [], []⟩
def a__law_wrong_at : HK.DefA := ⟨1504, 1503, "_law_wrong_at", "_law_wrong_at", defArgs (stAt 92), defBody (stAt 92), defScope (stAt 92), [], []⟩
def a__law_spoken : HK.DefA := ⟨1509, 1508, "_law_spoken", "_law_spoken", defArgs (stAt 93), defBody (stAt 93), defScope (stAt 93), [], []⟩
def a__law_deed_sizes : HK.DefA := ⟨1516, 1515, "_law_deed_sizes", "_law_deed_sizes", defArgs (stAt 94), defBody (stAt 94), defScope (stAt 94), [], []⟩
def a__law_read_deed_words : HK.DefA := ⟨1521, 1520, "_law_read_deed_words", "_law_read_deed_words", defArgs (stAt 95), defBody (stAt 95), defScope (stAt 95), [], []⟩
def a__law_read_deed : HK.DefA := ⟨1528, 1527, "_law_read_deed", "_law_read_deed", defArgs (stAt 96), defBody (stAt 96), defScope (stAt 96), [], []⟩
def a__law_bent_text : HK.DefA := ⟨1535, 1534, "_law_bent_text", "_law_bent_text", defArgs (stAt 97), defBody (stAt 97), defScope (stAt 97), [], []⟩
def a__law_is_whole : HK.DefA := ⟨1542, 1541, "_law_is_whole", "_law_is_whole", defArgs (stAt 98), defBody (stAt 98), defScope (stAt 98), [], []⟩
def a__law_same : HK.DefA := ⟨1549, 1548, "_law_same", "_law_same", defArgs (stAt 99), defBody (stAt 99), defScope (stAt 99), [], []⟩
def a__law_some_number : HK.DefA := ⟨1582, 1581, "_law_some_number", "_law_some_number", defArgs (stAt 104), defBody (stAt 104), defScope (stAt 104), [], []⟩
def a__law_some_deed : HK.DefA := ⟨1587, 1586, "_law_some_deed", "_law_some_deed", defArgs (stAt 105), defBody (stAt 105), defScope (stAt 105), [], []⟩
def a__law_odd_deed_of : HK.DefA := ⟨1594, 1593, "_law_odd_deed_of", "_law_odd_deed_of", defArgs (stAt 106), defBody (stAt 106), defScope (stAt 106), [], []⟩
def a__law_some_text : HK.DefA := ⟨1601, 1600, "_law_some_text", "_law_some_text", defArgs (stAt 107), defBody (stAt 107), defScope (stAt 107), [], []⟩
def a__law_lines_right : HK.DefA := ⟨1608, 1607, "_law_lines_right", "_law_lines_right", defArgs (stAt 108), defBody (stAt 108), defScope (stAt 108), [], []⟩
def a__law_long_right : HK.DefA := ⟨1615, 1614, "_law_long_right", "_law_long_right", defArgs (stAt 109), defBody (stAt 109), defScope (stAt 109), [], []⟩
def a_law : HK.DefA := ⟨1622, 1621, "law", "law", defArgs (stAt 110), defBody (stAt 110), defScope (stAt 110), [], []⟩
def a__law_heard : HK.DefA := ⟨1561, 1560, "_law_heard", "_law_heard", defArgs (stAt 101), defBody (stAt 101), defScope (stAt 101), [], []⟩
def a__law_tells : HK.DefA := ⟨1568, 1567, "_law_tells", "_law_tells", defArgs (stAt 102), defBody (stAt 102), defScope (stAt 102), [], []⟩
def a__law_refuses : HK.DefA := ⟨1575, 1574, "_law_refuses", "_law_refuses", defArgs (stAt 103), defBody (stAt 103), defScope (stAt 103), [], []⟩
def a__law_classes : HK.DefA := ⟨1556, 1555, "_law_classes", "_law_classes", defArgs (stAt 100), defBody (stAt 100), defScope (stAt 100), [], []⟩
def a_Refused___init__ : HK.DefA := ⟨38, 37, "__init__", "Refused.__init__", defArgs (mtAt 2 0), defBody (mtAt 2 0), defScope (mtAt 2 0), [(("__class__" : Str), 25)], [.str "Refused"]⟩
def a_BadDeed___init__ : HK.DefA := ⟨963, 962, "__init__", "BadDeed.__init__", defArgs (mtAt 46 0), defBody (mtAt 46 0), defScope (mtAt 46 0), [(("__class__" : Str), 951)], []⟩
def a_BadText___init__ : HK.DefA := ⟨1194, 1193, "__init__", "BadText.__init__", defArgs (mtAt 57 0), defBody (mtAt 57 0), defScope (mtAt 57 0), [(("__class__" : Str), 1182)], []⟩
def a_WrongLine___init__ : HK.DefA := ⟨1215, 1214, "__init__", "WrongLine.__init__", defArgs (mtAt 58 0), defBody (mtAt 58 0), defScope (mtAt 58 0), [(("__class__" : Str), 1203)], []⟩
def a_TooMany___init__ : HK.DefA := ⟨1299, 1298, "__init__", "TooMany.__init__", defArgs (mtAt 62 0), defBody (mtAt 62 0), defScope (mtAt 62 0), [(("__class__" : Str), 1287)], []⟩
def biN : List Str := ["int", "bool", "str", "tuple", "list", "dict", "len", "isinstance", "max", "min", "all", "any", "range"]
def hdAs : List Addr := [mainGlobals, cStatics, 41, 40, 1405, 1404, 966, 965, 1197, 1196, 1218, 1217, 1302, 1301, 38, 1312, 1311, 1310, 1317, 1316, 1324, 1323, 1331, 1330, 1338, 1337, 1352, 1351, 1359, 1358, 1366, 1365, 1373, 1372, 1380, 1379, 1388, 1387, 1381, 1402, 1401, 1416, 1415, 1423, 1422, 1428, 1427, 1433, 1432, 1440, 1439, 1447, 1446, 1454, 1453, 1461, 1460, 1468, 1467, 1473, 1472, 1480, 1479, 1485, 1484, 1490, 1489, 1497, 1496, 1504, 1503, 1509, 1508, 1516, 1515, 1521, 1520, 1528, 1527, 1535, 1534, 1542, 1541, 1549, 1548, 1582, 1581, 1587, 1586, 1594, 1593, 1601, 1600, 1608, 1607, 1615, 1614, 1622, 1621, 1561, 1560, 1568, 1567, 1575, 1574, 1556, 1555, 37, 25, 30, 963, 962, 951, 1194, 1193, 1182, 1215, 1214, 1203, 1299, 1298, 1287, 63, 84, 105, 126, 147, 168, 189, 210, 231, 252, 273, 294, 315, 336, 357, 378, 399, 420, 441, 462, 483, 504, 525, 546, 567, 588, 609, 630, 651, 672, 693, 714, 735, 756, 777, 798, 819, 840, 861, 882, 903, 924, 945, 987, 1008, 1029, 1050, 1071, 1092, 1113, 1134, 1155, 1176, 1239, 1260, 1281]
def hdFs : List HK.Fact := [HK.frs biN,
  HK.fr "super",
  HK.gl "whole" 1311,
  HK.kp 1311,
  HK.gl "is_deed" 1317,
  HK.kp 1317,
  HK.gl "lines_of" 1324,
  HK.kp 1324,
  HK.gl "words_of" 1331,
  HK.kp 1331,
  HK.gl "number_of" 1338,
  HK.kp 1338,
  HK.gl "reader_at" 1416,
  HK.kp 1416,
  HK.gl "end_lines" 1423,
  HK.kp 1423,
  HK.gl "deed_text" 1428,
  HK.kp 1428,
  HK.gl "deed_in" 1433,
  HK.kp 1433,
  HK.gl "read_deed" 1440,
  HK.kp 1440,
  HK.gl "_law_pool" 1447,
  HK.kp 1447,
  HK.gl "_law_take" 1454,
  HK.kp 1454,
  HK.gl "_law_one" 1461,
  HK.kp 1461,
  HK.gl "_law_long_number" 1468,
  HK.kp 1468,
  HK.gl "_law_is_deed" 1473,
  HK.kp 1473,
  HK.gl "_law_text_wrong" 1480,
  HK.kp 1480,
  HK.gl "_law_word_number" 1485,
  HK.kp 1485,
  HK.gl "_law_lot_word" 1490,
  HK.kp 1490,
  HK.gl "_law_word_at" 1497,
  HK.kp 1497,
  HK.gl "_law_wrong_at" 1504,
  HK.kp 1504,
  HK.gl "_law_spoken" 1509,
  HK.kp 1509,
  HK.gl "_law_deed_sizes" 1516,
  HK.kp 1516,
  HK.gl "_law_read_deed_words" 1521,
  HK.kp 1521,
  HK.gl "_law_read_deed" 1528,
  HK.kp 1528,
  HK.gl "_law_bent_text" 1535,
  HK.kp 1535,
  HK.gl "_law_is_whole" 1542,
  HK.kp 1542,
  HK.gl "_law_same" 1549,
  HK.kp 1549,
  HK.gl "_law_some_number" 1582,
  HK.kp 1582,
  HK.gl "_law_some_deed" 1587,
  HK.kp 1587,
  HK.gl "_law_odd_deed_of" 1594,
  HK.kp 1594,
  HK.gl "_law_some_text" 1601,
  HK.kp 1601,
  HK.gl "_law_lines_right" 1608,
  HK.kp 1608,
  HK.gl "_law_long_right" 1615,
  HK.kp 1615,
  HK.gl "law" 1622,
  HK.kp 1622,
  HK.gl "_law_heard" 1561,
  HK.kp 1561,
  HK.gl "_law_tells" 1568,
  HK.kp 1568,
  HK.gl "_law_refuses" 1575,
  HK.kp 1575,
  HK.gl "_law_classes" 1556,
  HK.kp 1556,
  HK.gl "Reader" RC,
  HK.clsB RC,
  HK.mkB RC 1352,
  HK.methB RC "refuse" 1359,
  HK.methB RC "is_over" 1366,
  HK.methB RC "word" 1373,
  HK.methB RC "one_of" 1380,
  HK.methB RC "natural" 1388,
  HK.methB RC "end" 1402,
  HK.noatB RC ["words", "line", "at"],
  HK.gi "GREATEST" (10 ^ 20 - 1),
  HK.gi "MOST_SIGNS" 400000,
  HK.gi "FIGURES" 20,
  HK.gl "FORMS" FA,
  HK.dicB FA formsT,
  HK.gl "Refused" 41,
  HK.cellB 25 41,
  HK.fileB 37 Rw.prog.main.file,
  HK.gl "BadDeed" 966,
  HK.subB 966 41 38 963,
  HK.cellB 951 966,
  HK.fileB 962 Rw.prog.main.file,
  HK.exnB 966 41,
  HK.kitB 966 clsL "BadDeed",
  HK.gl "BadText" 1197,
  HK.subB 1197 41 38 1194,
  HK.cellB 1182 1197,
  HK.fileB 1193 Rw.prog.main.file,
  HK.exnB 1197 41,
  HK.kitB 1197 clsL "BadText",
  HK.gl "WrongLine" 1218,
  HK.subB 1218 41 38 1215,
  HK.cellB 1203 1218,
  HK.fileB 1214 Rw.prog.main.file,
  HK.exnB 1218 41,
  HK.kitB 1218 clsL "WrongLine",
  HK.gl "TooMany" 1302,
  HK.subB 1302 41 38 1299,
  HK.cellB 1287 1302,
  HK.fileB 1298 Rw.prog.main.file,
  HK.exnB 1302 41,
  HK.kitB 1302 clsL "TooMany",
  HK.glsB clsL,
  HK.noList]
def hdDs : List HK.DefA := [a_whole, a_is_deed, a_lines_of, a_words_of, a_number_of, a_Reader___init__, a_Reader_refuse, a_Reader_is_over, a_Reader_word, a_Reader_one_of, a_Reader_natural, a_Reader_end, a_reader_at, a_end_lines, a_deed_text, a_deed_in, a_read_deed, a__law_pool, a__law_take, a__law_one, a__law_long_number, a__law_is_deed, a__law_text_wrong, a__law_word_number, a__law_lot_word, a__law_word_at, a__law_wrong_at, a__law_spoken, a__law_deed_sizes, a__law_read_deed_words, a__law_read_deed, a__law_bent_text, a__law_is_whole, a__law_same, a__law_some_number, a__law_some_deed, a__law_odd_deed_of, a__law_some_text, a__law_lines_right, a__law_long_right, a_law, a__law_heard, a__law_tells, a__law_refuses, a__law_classes, a_Refused___init__, a_BadDeed___init__, a_BadText___init__, a_WrongLine___init__, a_TooMany___init__]
def hdTs : List (Addr × Addr) := [(1607, 1603), (1614, 1610)]
def hd : HK.Hd := ⟨hdAs, hdTs, hdFs, hdDs, [(FA, formsT.map (·.1))]⟩
end
/-! ## H83R -/
section
set_option linter.all false
set_option maxRecDepth 100000
set_option maxHeartbeats 0
/-! The run of the top, in parts (each of them is one evaluation by the kernel). -/
open PySem PySem.W HandSHeadRun
abbrev wof (w : World) (b : Bool) : World := w.withFollow "special-get-raises" b
noncomputable abbrev Xr (w : World) (b : Bool) (os : OsState) : Option SharedT := endF (stepQ (denQ tabQ) Rw.prog (wof w b)) 20000 Rw.prog (wof w b) os
abbrev Vw : Program := PySem.W.view Rw.prog [110]
noncomputable abbrev seenF (s : SharedT) := seenQ Vw loose (importedModules Rw.prog.main.body) (fun s => xlAt Vw [] s && recOk Rw.toRowW.records s) s.abs
theorem rs_false (w : World) (os : OsState) : (Xr w false os).map seenF = some (openGood Vw loose) := by kernel_rfl
theorem rl_false (w : World) (os : OsState) : (Xr w false os).map (fun s => (looksF Rw.prog (boot_heap (wof w false).params) s.abs, HK.restB hd s)) = some (true, (hd.dk.map fun x => some (He.keysIn (wof w false).params x.2), true)) := by kernel_rfl
theorem rd_false (w : World) (os : OsState) : (Xr w false os).map (fun s => (HK.defsB hd hdDs s, HK.factsB hd (hdFs.take 85) s)) = some ((true, hdDs.map HK.DefA.val), true) := by kernel_rfl
theorem rf_false (w : World) (os : OsState) : (Xr w false os).map (HK.factsB hd (hdFs.drop 85)) = some true := by kernel_rfl
theorem rs_true (w : World) (os : OsState) : (Xr w true os).map seenF = some (openGood Vw loose) := by kernel_rfl
theorem rl_true (w : World) (os : OsState) : (Xr w true os).map (fun s => (looksF Rw.prog (boot_heap (wof w true).params) s.abs, HK.restB hd s)) = some (true, (hd.dk.map fun x => some (He.keysIn (wof w true).params x.2), true)) := by kernel_rfl
theorem rd_true (w : World) (os : OsState) : (Xr w true os).map (fun s => (HK.defsB hd hdDs s, HK.factsB hd (hdFs.take 85) s)) = some ((true, hdDs.map HK.DefA.val), true) := by kernel_rfl
theorem rf_true (w : World) (os : OsState) : (Xr w true os).map (HK.factsB hd (hdFs.drop 85)) = some true := by kernel_rfl
theorem fs_eq : hd.fs = hdFs.take 85 ++ hdFs.drop 85 := (List.take_append_drop 85 hdFs).symm
theorem run_false (w : World) : RunEq Rw Vw (HK.hook hd) (HK.ob hd) 20000 loose (wof w false) := by
  refine HK.run_of (fun os => HK.run_pair ?_ (rs_false w os)) fun os => HK.ob_of (by rw [fs_eq]; exact HK.facts_app (HK.map_of (rd_false w os) (fun x => x.2)) (rf_false w os)) ?_ ?_
  · exact HK.map_of (rl_false w os) (fun x => x.1)
  · exact HK.map_of (rd_false w os) (fun x => x.1)
  · exact HK.map_of (rl_false w os) (fun x => x.2)
theorem run_true (w : World) : RunEq Rw Vw (HK.hook hd) (HK.ob hd) 20000 loose (wof w true) := by
  refine HK.run_of (fun os => HK.run_pair ?_ (rs_true w os)) fun os => HK.ob_of (by rw [fs_eq]; exact HK.facts_app (HK.map_of (rd_true w os) (fun x => x.2)) (rf_true w os)) ?_ ?_
  · exact HK.map_of (rl_true w os) (fun x => x.1)
  · exact HK.map_of (rd_true w os) (fun x => x.1)
  · exact HK.map_of (rl_true w os) (fun x => x.2)
theorem run_all : ∀ w : World, RunEq Rw Vw (HK.hook hd) (HK.ob hd) 20000 loose w := fun w => byRow2 "special-get-raises" (P := fun w => RunEq Rw Vw (HK.hook hd) (HK.ob hd) 20000 loose w) run_false run_true w
end
/-! ## M0 -/
section
set_option linter.all false
set_option maxRecDepth 100000
set_option maxHeartbeats 4000000
/-! Layer M, part 0: deep values, an abstract heap by ids, and how they stand in the hand layer's heap. -/
namespace M
open PySem L2

/-- a deep value: data as a whole; obj i: a thing that changes, by its id; con a: a thing of the written part -/
inductive D where
  | non | bl (b : Bool) | int (i : Int) | str (x : Str) | ty (n : String) | con (a : Addr) | obj (i : Nat)
  | tup (xs : List D) | lst (xs : List D) | fls (xs : List D) | dic (ks : List Key) (xs : List D)
deriving Inhabited

/-- what stands at an id -/
inductive AO where
  | lst (xs : List D)
  | ins (C : Addr) (fs : List (Str × D))
deriving Inhabited
abbrev AH := List AO

/-- an exception: its class, what it was made from, its word -/
structure Exn where
  cls : Addr
  what : D
  word : Str

inductive Res (α : Type) where
  | ok (a : α) (A : AH)
  | exc (e : Exn) (A : AH)
  | stuck
def Res.bind {α β : Type} : Res α → (α → AH → Res β) → Res β
  | .ok a A, k => k a A
  | .exc e A, _ => .exc e A
  | .stuck, _ => .stuck
@[simp] theorem Res.bind_ok {α β : Type} (a : α) (A : AH) (k : α → AH → Res β) : (Res.ok a A).bind k = k a A := rfl
@[simp] theorem Res.bind_exc {α β : Type} (e : Exn) (A : AH) (k : α → AH → Res β) : (Res.exc e A : Res α).bind k = .exc e A := rfl
@[simp] theorem Res.bind_stuck {α β : Type} (k : α → AH → Res β) : (Res.stuck : Res α).bind k = .stuck := rfl

abbrev Loc := List (Option D)
abbrev ME := Loc → AH → Res D
abbrev MT := Loc → AH → Res Bool
abbrev MA := Loc → AH → Res (List D)

/-! ### how a deep value stands -/
section
variable (K : PySem.W.Frag) (Z : List Addr) (ρ : List Addr) (H : Hp)
mutual
def VR : D → V → Prop
  | .non, v => v = .non
  | .bl b, v => v = .bl b
  | .int i, v => v = .int i
  | .str x, v => v = .str x
  | .ty n, v => v = .ty n
  | .con a, v => v = .ref a
  | .obj i, v => ∃ a, ρ[i]? = some a ∧ v = .ref a
  | .tup ds, v => ∃ a vs, v = .ref a ∧ SqT K H a vs ∧ VRs ds vs
  | .lst ds, v => ∃ a vs, v = .ref a ∧ a ∉ ρ ∧ a ∉ Z ∧ H a = some (.lst vs) ∧ VRs ds vs
  | .fls ds, v => ∃ a vs o, v = .ref a ∧ a ∉ ρ ∧ H a = some (.frz o (.lst vs)) ∧ VRs ds vs
  | .dic ks ds, v => ∃ a vs, v = .ref a ∧ a ∉ ρ ∧ a ∉ Z ∧ H a = some (.dK (ks.zip vs)) ∧ ks.length = vs.length ∧ VRs ds vs
def VRs : List D → List V → Prop
  | [], vs => vs = []
  | d :: ds, vs => ∃ v r, vs = v :: r ∧ VR d v ∧ VRs ds r
end
def FR : List (Str × D) → List (Str × V) → Prop
  | [], fs => fs = []
  | p :: ps, fs => ∃ v r, fs = (p.1, v) :: r ∧ VR K Z ρ H p.2 v ∧ FR ps r
def OR (a : Addr) : AO → Prop
  | .lst ds => ∃ vs, H a = some (.lst vs) ∧ VRs K Z ρ H ds vs
  | .ins C fs => ∃ dx gs, H a = some (.ins C dx gs) ∧ FR K Z ρ H fs gs
/-- the abstract heap A stands: the i-th thing at ρ's i-th address; T: the tables of code objects -/
structure Rel (T : List (Addr × Str)) (A : AH) : Prop where
  len : ρ.length = A.length
  nd : ρ.Nodup
  obj : ∀ (i : Nat) (o : AO) (a : Addr), A[i]? = some o → ρ[i]? = some a → OR K Z ρ H a o
  tab : LamX.Tabs T H
  hid : ∀ z ∈ Z, H z ≠ none
end
/-- what comes later: ρ grows, what is not at ρ stays (tables may grow) -/
structure Fut (ρ : List Addr) (H : Hp) (ρ' : List Addr) (H' : Hp) : Prop where
  pre : ρ <+: ρ'
  new : ∀ a, a ∈ ρ' → a ∉ ρ → H a = none
  keep : ∀ a o, H a = some o → a ∉ ρ → (∀ ps, o ≠ .tbl ps) → H' a = some o
  tbl : ∀ a ps, H a = some (.tbl ps) → a ∉ ρ → ∃ more, H' a = some (.tbl (ps ++ more))
theorem Fut.refl (ρ : List Addr) (H : Hp) : Fut ρ H ρ H := ⟨List.prefix_refl _, fun a h n => absurd h n, fun _ _ h _ _ => h, fun a ps h _ => ⟨#[], by rw [h]; simp⟩⟩
theorem Fut.some {ρ ρ' : List Addr} {H H' : Hp} (f : Fut ρ H ρ' H') {a : Addr} (n : a ∉ ρ) (h : H a ≠ none) : H' a ≠ none := by
  cases e : H a with
  | none => exact absurd e h
  | some o =>
    by_cases ht : ∃ ps, o = .tbl ps
    · obtain ⟨ps, rfl⟩ := ht
      obtain ⟨m, q⟩ := f.tbl a ps e n
      rw [q]; exact fun z => by cases z
    · rw [f.keep a o e n fun ps q => ht ⟨ps, q⟩]; exact fun z => by cases z
theorem Fut.out {ρ ρ' : List Addr} {H H' : Hp} (f : Fut ρ H ρ' H') {a : Addr} (n : a ∉ ρ) (h : H a ≠ none) : a ∉ ρ' := fun m => h (f.new a m n)
theorem Fut.trans {ρ ρ1 ρ2 : List Addr} {H H1 H2 : Hp} (f : Fut ρ H ρ1 H1) (g : Fut ρ1 H1 ρ2 H2) : Fut ρ H ρ2 H2 where
  pre := f.pre.trans g.pre
  new := fun a h n => by
    by_cases h1 : a ∈ ρ1
    · exact f.new a h1 n
    · cases e : H a with
      | none => rfl
      | some o => exact absurd (g.new a h h1) (f.some n (by rw [e]; exact fun z => by cases z))
  keep := fun a o h n t => g.keep a o (f.keep a o h n t) (f.out n (by rw [h]; exact fun z => by cases z)) t
  tbl := fun a ps h n => by
    obtain ⟨m, q⟩ := f.tbl a ps h n
    obtain ⟨m2, q2⟩ := g.tbl a _ q (f.out n (by rw [h]; exact fun z => by cases z))
    exact ⟨m ++ m2, by rw [q2, Array.append_assoc]⟩

section
variable {K : PySem.W.Frag} {Z Z0 : List Addr} {T : List (Addr × Str)} {ρ ρ' : List Addr} {H H' : Hp} {A A' : AH} {d : D} {v : V} {ds : List D} {vs : List V}
theorem pre_get {ρ ρ' : List Addr} (p : ρ <+: ρ') {i : Nat} {a : Addr} (h : ρ[i]? = some a) : ρ'[i]? = some a := by
  obtain ⟨t, rfl⟩ := p
  have hi : i < ρ.length := (List.getElem?_eq_some_iff.mp h).1
  rw [List.getElem?_append_left hi]; exact h
/-- what ρ holds is a list or an instance -/
theorem Rel.at (R : Rel K Z ρ H T A) {a : Addr} (h : a ∈ ρ) : (∃ xs, H a = some (.lst xs)) ∨ (∃ C dx fs, H a = some (.ins C dx fs)) := by
  obtain ⟨i, hi, e⟩ := List.getElem_of_mem h
  have hA : i < A.length := by rw [← R.len]; exact hi
  have := R.obj i A[i] a (List.getElem?_eq_getElem hA) (by rw [List.getElem?_eq_getElem hi, e])
  cases q : A[i] with
  | lst ds => rw [q] at this; obtain ⟨vs, h1, _⟩ := this; exact .inl ⟨vs, h1⟩
  | ins C fs => rw [q] at this; obtain ⟨dx, gs, h1, _⟩ := this; exact .inr ⟨C, dx, gs, h1⟩
theorem Rel.no (R : Rel K Z ρ H T A) {a : Addr} {o : HO} (h : H a = some o) (n1 : ∀ xs, o ≠ .lst xs) (n2 : ∀ C dx fs, o ≠ .ins C dx fs) : a ∉ ρ := fun m => by
  rcases R.at m with ⟨xs, e⟩ | ⟨C, dx, fs, e⟩
  · rw [h] at e; exact n1 xs (Option.some.inj e)
  · rw [h] at e; exact n2 C dx fs (Option.some.inj e)
theorem rd_fut (R : Rel K Z0 ρ H T A) (f : Fut ρ H ρ' H') {a : Addr} {u : HO} (n : a ∉ ρ) (ht : ∀ ps, u ≠ .tbl ps) (h : Rd H a u) : Rd H' a u := by
  rcases h with h | ⟨o, h⟩
  · exact .inl (f.keep a u h n ht)
  · exact .inr ⟨o, f.keep a _ h n (fun ps q => by cases q)⟩
theorem sqt_fut (R : Rel K Z0 ρ H T A) (f : Fut ρ H ρ' H') {a : Addr} {xs : List V} (h : SqT K H a xs) : SqT K H' a xs := by
  rcases h with h | h
  · refine .inl (rd_fut R f ?_ (fun ps q => by cases q) h)
    rcases h with h | ⟨o, h⟩
    · exact R.no h (fun _ q => by cases q) (fun _ _ _ q => by cases q)
    · exact R.no h (fun _ q => by cases q) (fun _ _ _ q => by cases q)
  · exact .inr h
theorem rd_some {a : Addr} {u : HO} (h : Rd H a u) : H a ≠ none := by
  rcases h with h | ⟨o, h⟩ <;> rw [h] <;> exact fun z => by cases z
mutual
theorem VR.fut (R : Rel K Z0 ρ H T A) (f : Fut ρ H ρ' H') : ∀ (d : D) {v : V}, VR K Z ρ H d v → VR K Z ρ' H' d v
  | .non, _, h => by simpa [VR] using h
  | .bl _, _, h => by simpa [VR] using h
  | .int _, _, h => by simpa [VR] using h
  | .str _, _, h => by simpa [VR] using h
  | .ty _, _, h => by simpa [VR] using h
  | .con _, _, h => by simpa [VR] using h
  | .obj i, _, h => by
    simp only [VR] at h ⊢
    obtain ⟨a, h1, h2⟩ := h
    exact ⟨a, pre_get f.pre h1, h2⟩
  | .tup ds, _, h => by
    simp only [VR] at h ⊢
    obtain ⟨a, vs, h1, h2, h3⟩ := h
    exact ⟨a, vs, h1, sqt_fut R f h2, VRs.fut R f ds h3⟩
  | .lst ds, _, h => by
    simp only [VR] at h ⊢
    obtain ⟨a, vs, h1, n, z, h2, h3⟩ := h
    exact ⟨a, vs, h1, f.out n (by rw [h2]; exact fun z => by cases z), z, f.keep a _ h2 n (fun ps q => by cases q), VRs.fut R f ds h3⟩
  | .fls ds, _, h => by
    simp only [VR] at h ⊢
    obtain ⟨a, vs, o, h1, n, h2, h3⟩ := h
    exact ⟨a, vs, o, h1, f.out n (by rw [h2]; exact fun z => by cases z), f.keep a _ h2 n (fun ps q => by cases q), VRs.fut R f ds h3⟩
  | .dic ks ds, _, h => by
    simp only [VR] at h ⊢
    obtain ⟨a, vs, h1, n, z, h2, hl, h3⟩ := h
    exact ⟨a, vs, h1, f.out n (by rw [h2]; exact fun z => by cases z), z, f.keep a _ h2 n (fun ps q => by cases q), hl, VRs.fut R f ds h3⟩
theorem VRs.fut (R : Rel K Z0 ρ H T A) (f : Fut ρ H ρ' H') : ∀ (ds : List D) {vs : List V}, VRs K Z ρ H ds vs → VRs K Z ρ' H' ds vs
  | [], _, h => by simpa [VRs] using h
  | d :: ds, _, h => by
    simp only [VRs] at h ⊢
    obtain ⟨v, r, h1, h2, h3⟩ := h
    exact ⟨v, r, h1, VR.fut R f d h2, VRs.fut R f ds h3⟩
end
theorem FR.fut (R : Rel K Z0 ρ H T A) (f : Fut ρ H ρ' H') : ∀ (ps : List (Str × D)) {fs : List (Str × V)}, FR K Z ρ H ps fs → FR K Z ρ' H' ps fs
  | [], _, h => by simpa [FR] using h
  | p :: ps, _, h => by
    simp only [FR] at h ⊢
    obtain ⟨v, r, h1, h2, h3⟩ := h
    exact ⟨v, r, h1, VR.fut R f _ h2, FR.fut R f ps h3⟩

theorem VRs.length : ∀ {ds : List D} {vs : List V}, VRs K Z ρ H ds vs → vs.length = ds.length
  | [], _, h => by simp only [VRs] at h; rw [h]; rfl
  | d :: ds, _, h => by
    simp only [VRs] at h
    obtain ⟨v, r, rfl, _, h3⟩ := h
    simp [VRs.length h3]
theorem VRs.get : ∀ {ds : List D} {vs : List V} {i : Nat} {d : D}, VRs K Z ρ H ds vs → ds[i]? = some d → ∃ v, vs[i]? = some v ∧ VR K Z ρ H d v
  | [], _, i, d, h, e => by simp at e
  | d0 :: ds, _, 0, d, h, e => by
    simp only [VRs] at h
    obtain ⟨v, r, rfl, h2, h3⟩ := h
    simp at e; subst e
    exact ⟨v, rfl, h2⟩
  | d0 :: ds, _, i + 1, d, h, e => by
    simp only [VRs] at h
    obtain ⟨v, r, rfl, h2, h3⟩ := h
    simpa using VRs.get (i := i) h3 (by simpa using e)
theorem VRs.nil : VRs K Z ρ H [] [] := by simp [VRs]
theorem VRs.cons (h : VR K Z ρ H d v) (t : VRs K Z ρ H ds vs) : VRs K Z ρ H (d :: ds) (v :: vs) := by
  simp only [VRs]; exact ⟨v, vs, rfl, h, t⟩
theorem VRs.append : ∀ {ds es : List D} {vs ws : List V}, VRs K Z ρ H ds vs → VRs K Z ρ H es ws → VRs K Z ρ H (ds ++ es) (vs ++ ws)
  | [], es, _, ws, h, g => by simp only [VRs] at h; subst h; exact g
  | d :: ds, es, _, ws, h, g => by
    simp only [VRs] at h
    obtain ⟨v, r, rfl, h2, h3⟩ := h
    exact VRs.cons h2 (VRs.append h3 g)
theorem VRs.set : ∀ {ds : List D} {vs : List V} (i : Nat), VRs K Z ρ H ds vs → VR K Z ρ H d v → VRs K Z ρ H (ds.set i d) (vs.set i v)
  | [], _, i, h, g => by simp only [VRs] at h; subst h; simpa using VRs.nil
  | d0 :: ds, _, 0, h, g => by
    simp only [VRs] at h
    obtain ⟨v, r, rfl, h2, h3⟩ := h
    exact VRs.cons g h3
  | d0 :: ds, _, i + 1, h, g => by
    simp only [VRs] at h
    obtain ⟨v, r, rfl, h2, h3⟩ := h
    exact VRs.cons h2 (VRs.set i h3 g)
theorem VRs.take : ∀ {ds : List D} {vs : List V} (n : Nat), VRs K Z ρ H ds vs → VRs K Z ρ H (ds.take n) (vs.take n)
  | [], _, n, h => by simp only [VRs] at h; subst h; simpa using VRs.nil
  | d0 :: ds, _, 0, h => VRs.nil
  | d0 :: ds, _, n + 1, h => by
    simp only [VRs] at h
    obtain ⟨v, r, rfl, h2, h3⟩ := h
    exact VRs.cons h2 (VRs.take n h3)
theorem VRs.drop : ∀ {ds : List D} {vs : List V} (n : Nat), VRs K Z ρ H ds vs → VRs K Z ρ H (ds.drop n) (vs.drop n)
  | [], _, n, h => by simp only [VRs] at h; subst h; simpa using VRs.nil
  | d0 :: ds, _, 0, h => h
  | d0 :: ds, _, n + 1, h => by
    simp only [VRs] at h
    obtain ⟨v, r, rfl, h2, h3⟩ := h
    exact VRs.drop n h3

/-! ### the heap's changes -/
theorem tabs_upd {p : Addr} {o : HO} (t : LamX.Tabs T H) (h : H p = none ∨ (∃ xs, H p = some (.lst xs)) ∨ (∃ C dx fs, H p = some (.ins C dx fs)) ∨ ∃ ks, H p = some (.dK ks)) : LamX.Tabs T (upd H p o) := by
  have ne : ∀ b u, H b = some u → (∀ xs, u ≠ .lst xs) → (∀ C dx fs, u ≠ .ins C dx fs) → (∀ ks, u ≠ .dK ks) → b ≠ p := fun b u e n1 n2 n3 z => by
    subst z
    rcases h with h | ⟨xs, h⟩ | ⟨C, dx, fs, h⟩ | ⟨ks, h⟩
    · rw [h] at e; cases e
    · rw [h] at e; exact n1 xs (Option.some.inj e).symm
    · rw [h] at e; exact n2 C dx fs (Option.some.inj e).symm
    · rw [h] at e; exact n3 ks (Option.some.inj e).symm
  intro q hq
  obtain ⟨ps, h1, h2, h3⟩ := t q hq
  refine ⟨ps, by rw [upd_ne (ne _ _ h1 (fun _ z => by cases z) (fun _ _ _ z => by cases z) (fun _ z => by cases z))]; exact h1, h2, fun pos cv hc => ?_⟩
  obtain ⟨c, e1, e2⟩ := h3 pos cv hc
  refine ⟨c, e1, ?_⟩
  rw [upd_ne (ne _ _ e2 (fun _ z => by unfold LamX.CodeO at z; cases z) (fun _ _ _ z => by unfold LamX.CodeO at z; cases z) (fun _ z => by unfold LamX.CodeO at z; cases z))]
  exact e2
/-- a new object that A doesn't hold -/
theorem Fut.new1 {p : Addr} {o : HO} (h : H p = none) : Fut ρ H ρ (upd H p o) :=
  ⟨List.prefix_refl _, fun a m n => absurd m n, fun a u e n t => by rw [upd_ne (ne_of_none e h)]; exact e, fun a ps e n => ⟨#[], by rw [upd_ne (ne_of_none e h), e]; simp⟩⟩
theorem hid_upd {p : Addr} {o : HO} (h : ∀ z ∈ Z, H z ≠ none) : ∀ z ∈ Z, upd H p o z ≠ none := fun z m => by
  by_cases e : z = p
  · rw [e, upd_same]; exact fun z => by cases z
  · rw [upd_ne e]; exact h z m
theorem Rel.new1 {p : Addr} {o : HO} (R : Rel K Z ρ H T A) (h : H p = none) : Rel K Z ρ (upd H p o) T A := by
  have f : Fut ρ H ρ (upd H p o) := Fut.new1 h
  refine ⟨R.len, R.nd, fun i u a e1 e2 => ?_, tabs_upd R.tab (.inl h), hid_upd R.hid⟩
  have z := R.obj i u a e1 e2
  cases u with
  | lst ds =>
    obtain ⟨vs, h1, h2⟩ := z
    exact ⟨vs, by rw [upd_ne (ne_of_none h1 h)]; exact h1, VRs.fut R f ds h2⟩
  | ins C fs =>
    obtain ⟨dx, gs, h1, h2⟩ := z
    exact ⟨dx, gs, by rw [upd_ne (ne_of_none h1 h)]; exact h1, FR.fut R f fs h2⟩
/-- a new object that A holds from now on -/
theorem Fut.push {p : Addr} {o : HO} (h : H p = none) : Fut ρ H (ρ ++ [p]) (upd H p o) :=
  ⟨List.prefix_append _ _, fun a m n => by
    rcases List.mem_append.mp m with m | m
    · exact absurd m n
    · simp at m; rw [m]; exact h, (Fut.new1 (ρ := ρ) h).keep, (Fut.new1 (ρ := ρ) h).tbl⟩
theorem Rel.out (R : Rel K Z ρ H T A) {p : Addr} (h : H p = none) : p ∉ ρ := fun m => by
  rcases R.at m with ⟨xs, e⟩ | ⟨C, dx, fs, e⟩ <;> rw [h] at e <;> cases e
theorem Rel.push {p : Addr} {o : HO} {u : AO} (R : Rel K Z ρ H T A) (h : H p = none) (q : OR K Z (ρ ++ [p]) (upd H p o) p u) : Rel K Z (ρ ++ [p]) (upd H p o) T (A ++ [u]) := by
  have np : p ∉ ρ := R.out h
  have f : Fut ρ H (ρ ++ [p]) (upd H p o) := Fut.push h
  refine ⟨by simp [R.len], ?_, fun i w a e1 e2 => ?_, tabs_upd R.tab (.inl h), hid_upd R.hid⟩
  · rw [List.nodup_append]
    exact ⟨R.nd, by simp, fun a ha b hb e => np (by simp at hb; rw [← hb, ← e]; exact ha)⟩
  · by_cases hi : i < A.length
    · rw [List.getElem?_append_left hi] at e1
      rw [List.getElem?_append_left (by rw [R.len]; exact hi)] at e2
      have z := R.obj i w a e1 e2
      cases w with
      | lst ds =>
        obtain ⟨vs, h1, h2⟩ := z
        exact ⟨vs, by rw [upd_ne (ne_of_none h1 h)]; exact h1, VRs.fut R f ds h2⟩
      | ins C fs =>
        obtain ⟨dx, gs, h1, h2⟩ := z
        exact ⟨dx, gs, by rw [upd_ne (ne_of_none h1 h)]; exact h1, FR.fut R f fs h2⟩
    · have hi' : i = A.length := by
        have := (List.getElem?_eq_some_iff.mp e1).1
        simp at this; omega
      subst hi'
      simp at e1
      rw [← R.len] at e2
      simp at e2
      subst e1; subst e2
      exact q
/-- an object that A holds is changed -/
theorem Fut.put {p : Addr} {o : HO} (h : p ∈ ρ) : Fut ρ H ρ (upd H p o) := by
  have ne : ∀ a, a ∉ ρ → a ≠ p := fun a n z => n (by rw [z]; exact h)
  exact ⟨List.prefix_refl _, fun a m n => absurd m n, fun a u e n _ => by rw [upd_ne (ne a n)]; exact e, fun a ps e n => ⟨#[], by rw [upd_ne (ne a n), e]; simp⟩⟩
theorem nodup_at {ρ : List Addr} (nd : ρ.Nodup) {i j : Nat} {a : Addr} (h1 : ρ[i]? = some a) (h2 : ρ[j]? = some a) : i = j := by
  obtain ⟨a1, e1⟩ := List.getElem?_eq_some_iff.mp h1
  obtain ⟨a2, e2⟩ := List.getElem?_eq_some_iff.mp h2
  exact (List.getElem_inj nd).mp (e1.trans e2.symm)
theorem Rel.put {i : Nat} {p : Addr} {o : HO} {u : AO} (R : Rel K Z ρ H T A) (h : ρ[i]? = some p) (q : OR K Z ρ (upd H p o) p u) : Rel K Z ρ (upd H p o) T (A.set i u) := by
  have hm : p ∈ ρ := List.mem_of_getElem? h
  have f : Fut ρ H ρ (upd H p o) := Fut.put hm
  refine ⟨by simp [R.len], R.nd, fun j w a e1 e2 => ?_, tabs_upd R.tab (.inr ?_), hid_upd R.hid⟩
  · by_cases hj : j = i
    · subst hj
      have : a = p := Option.some.inj (e2.symm.trans h)
      subst this
      have hlt : j < A.length := by rw [← R.len]; exact (List.getElem?_eq_some_iff.mp h).1
      rw [List.getElem?_set_self hlt] at e1
      cases e1
      exact q
    · rw [List.getElem?_set_ne (Ne.symm hj)] at e1
      have ne : a ≠ p := fun z => hj (nodup_at R.nd (z ▸ e2) h)
      have z := R.obj j w a e1 e2
      cases w with
      | lst ds =>
        obtain ⟨vs, h1, h2⟩ := z
        exact ⟨vs, by rw [upd_ne ne]; exact h1, VRs.fut R f ds h2⟩
      | ins C fs =>
        obtain ⟨dx, gs, h1, h2⟩ := z
        exact ⟨dx, gs, by rw [upd_ne ne]; exact h1, FR.fut R f fs h2⟩
  · rcases R.at hm with z | ⟨C, dx, fs, z⟩
    · exact .inl z
    · exact .inr (.inl ⟨C, dx, fs, z⟩)
theorem Rel.get (R : Rel K Z ρ H T A) {i : Nat} {o : AO} (h : A[i]? = some o) : ∃ a, ρ[i]? = some a ∧ OR K Z ρ H a o := by
  have hi : i < ρ.length := by rw [R.len]; exact (List.getElem?_eq_some_iff.mp h).1
  exact ⟨ρ[i], List.getElem?_eq_getElem hi, R.obj i o _ h (List.getElem?_eq_getElem hi)⟩
theorem Rel.getL (R : Rel K Z ρ H T A) {i : Nat} {ds : List D} (h : A[i]? = some (.lst ds)) : ∃ a vs, ρ[i]? = some a ∧ H a = some (.lst vs) ∧ VRs K Z ρ H ds vs := by
  obtain ⟨a, h1, vs, h2, h3⟩ := R.get h
  exact ⟨a, vs, h1, h2, h3⟩
end

/-! ### the slots -/
section
variable (K : PySem.W.Frag) (Z : List Addr) (ρ : List Addr) (H : Hp)
def LR : Loc → L2.St → Prop
  | [], σ => σ = []
  | none :: L, σ => ∃ o r, σ = o :: r ∧ LR L r
  | some d :: L, σ => ∃ v r, σ = some v :: r ∧ VR K Z ρ H d v ∧ LR L r
end
section
variable {K : PySem.W.Frag} {Z Z0 : List Addr} {T : List (Addr × Str)} {ρ ρ' : List Addr} {H H' : Hp} {A A' : AH} {d : D} {v : V} {L : Loc} {σ : L2.St}
theorem LR.fut (R : Rel K Z0 ρ H T A) (f : Fut ρ H ρ' H') : ∀ {L : Loc} {σ : L2.St}, LR K Z ρ H L σ → LR K Z ρ' H' L σ
  | [], _, h => by simpa [LR] using h
  | none :: L, _, h => by
    simp only [LR] at h ⊢
    obtain ⟨o, r, h1, h2⟩ := h
    exact ⟨o, r, h1, LR.fut R f h2⟩
  | some d :: L, _, h => by
    simp only [LR] at h ⊢
    obtain ⟨v, r, h1, h2, h3⟩ := h
    exact ⟨v, r, h1, VR.fut R f d h2, LR.fut R f h3⟩
theorem LR.get : ∀ {L : Loc} {σ : L2.St} {i : Nat} {d : D}, LR K Z ρ H L σ → L[i]? = some (some d) → ∃ v, σ[i]? = some (some v) ∧ VR K Z ρ H d v
  | [], _, i, d, h, e => by simp at e
  | none :: L, _, 0, d, h, e => by simp at e
  | some d0 :: L, _, 0, d, h, e => by
    simp only [LR] at h
    obtain ⟨v, r, rfl, h2, h3⟩ := h
    simp at e; subst e
    exact ⟨v, rfl, h2⟩
  | none :: L, _, i + 1, d, h, e => by
    simp only [LR] at h
    obtain ⟨o, r, rfl, h2⟩ := h
    simpa using LR.get (i := i) h2 (by simpa using e)
  | some d0 :: L, _, i + 1, d, h, e => by
    simp only [LR] at h
    obtain ⟨v, r, rfl, h2, h3⟩ := h
    simpa using LR.get (i := i) h3 (by simpa using e)
theorem LR.set : ∀ {L : Loc} {σ : L2.St} (i : Nat), LR K Z ρ H L σ → VR K Z ρ H d v → LR K Z ρ H (L.set i (some d)) (σ.set i (some v))
  | [], _, i, h, g => by simp only [LR] at h; subst h; simp [LR]
  | none :: L, _, 0, h, g => by
    simp only [LR] at h
    obtain ⟨o, r, rfl, h2⟩ := h
    simp only [List.set, LR]; exact ⟨v, r, rfl, g, h2⟩
  | some d0 :: L, _, 0, h, g => by
    simp only [LR] at h
    obtain ⟨w, r, rfl, h2, h3⟩ := h
    simp only [List.set, LR]; exact ⟨v, r, rfl, g, h3⟩
  | none :: L, _, i + 1, h, g => by
    simp only [LR] at h
    obtain ⟨o, r, rfl, h2⟩ := h
    simp only [List.set, LR]; exact ⟨o, _, rfl, LR.set i h2 g⟩
  | some d0 :: L, _, i + 1, h, g => by
    simp only [LR] at h
    obtain ⟨w, r, rfl, h2, h3⟩ := h
    simp only [List.set, LR]; exact ⟨w, _, rfl, h2, LR.set i h3 g⟩
theorem LR.unset : ∀ {L : Loc} {σ : L2.St} (i : Nat) (o : Option V), LR K Z ρ H L σ → LR K Z ρ H (L.set i none) (σ.set i o)
  | [], _, i, o, h => by simp only [LR] at h; subst h; simp [LR]
  | none :: L, _, 0, o, h => by
    simp only [LR] at h
    obtain ⟨o', r, rfl, h2⟩ := h
    simp only [List.set, LR]; exact ⟨o, r, rfl, h2⟩
  | some d0 :: L, _, 0, o, h => by
    simp only [LR] at h
    obtain ⟨w, r, rfl, h2, h3⟩ := h
    simp only [List.set, LR]; exact ⟨o, r, rfl, h3⟩
  | none :: L, _, i + 1, o, h => by
    simp only [LR] at h
    obtain ⟨o', r, rfl, h2⟩ := h
    simp only [List.set, LR]; exact ⟨o', _, rfl, LR.unset i o h2⟩
  | some d0 :: L, _, i + 1, o, h => by
    simp only [LR] at h
    obtain ⟨w, r, rfl, h2, h3⟩ := h
    simp only [List.set, LR]; exact ⟨w, _, rfl, h2, LR.unset i o h3⟩
end
end M
end
/-! ## M1 -/
section
set_option linter.all false
set_option maxRecDepth 100000
set_option maxHeartbeats 4000000
/-! Layer M, part 1: readings of the hand layer from results of plain functions. -/
namespace M
open PySem L2

section
variable {K : PySem.W.Frag} {T : List (Addr × Str)} {Z Z' : List Addr} {ρ ρ' : List Addr} {H H' : Hp} {A A' : AH} {d : D} {v : V}
/-! ### hidden addresses -/
mutual
theorem VR.zless (z : ∀ a ∈ Z, a ∈ Z') : ∀ (d : D) {v : V}, VR K Z' ρ H d v → VR K Z ρ H d v
  | .non, _, h => by simpa [VR] using h
  | .bl _, _, h => by simpa [VR] using h
  | .int _, _, h => by simpa [VR] using h
  | .str _, _, h => by simpa [VR] using h
  | .ty _, _, h => by simpa [VR] using h
  | .con _, _, h => by simpa [VR] using h
  | .obj i, _, h => by simpa [VR] using h
  | .tup ds, _, h => by
    simp only [VR] at h ⊢
    obtain ⟨a, vs, h1, h2, h3⟩ := h
    exact ⟨a, vs, h1, h2, VRs.zless z ds h3⟩
  | .lst ds, _, h => by
    simp only [VR] at h ⊢
    obtain ⟨a, vs, h1, n, n2, h2, h3⟩ := h
    exact ⟨a, vs, h1, n, fun m => n2 (z a m), h2, VRs.zless z ds h3⟩
  | .fls ds, _, h => by
    simp only [VR] at h ⊢
    obtain ⟨a, vs, o, h1, n, h2, h3⟩ := h
    exact ⟨a, vs, o, h1, n, h2, VRs.zless z ds h3⟩
  | .dic ks ds, _, h => by
    simp only [VR] at h ⊢
    obtain ⟨a, vs, h1, n, n2, h2, hl, h3⟩ := h
    exact ⟨a, vs, h1, n, fun m => n2 (z a m), h2, hl, VRs.zless z ds h3⟩
theorem VRs.zless (z : ∀ a ∈ Z, a ∈ Z') : ∀ (ds : List D) {vs : List V}, VRs K Z' ρ H ds vs → VRs K Z ρ H ds vs
  | [], _, h => by simpa [VRs] using h
  | d :: ds, _, h => by
    simp only [VRs] at h ⊢
    obtain ⟨v, r, h1, h2, h3⟩ := h
    exact ⟨v, r, h1, VR.zless z d h2, VRs.zless z ds h3⟩
end
theorem FR.zless (z : ∀ a ∈ Z, a ∈ Z') : ∀ (ps : List (Str × D)) {fs : List (Str × V)}, FR K Z' ρ H ps fs → FR K Z ρ H ps fs
  | [], _, h => by simpa [FR] using h
  | p :: ps, _, h => by
    simp only [FR] at h ⊢
    obtain ⟨v, r, h1, h2, h3⟩ := h
    exact ⟨v, r, h1, VR.zless z _ h2, FR.zless z ps h3⟩
theorem LR.zless (z : ∀ a ∈ Z, a ∈ Z') : ∀ {L : Loc} {σ : L2.St}, LR K Z' ρ H L σ → LR K Z ρ H L σ
  | [], _, h => by simpa [LR] using h
  | none :: L, _, h => by
    simp only [LR] at h ⊢
    obtain ⟨o, r, h1, h2⟩ := h
    exact ⟨o, r, h1, LR.zless z h2⟩
  | some d :: L, _, h => by
    simp only [LR] at h ⊢
    obtain ⟨v, r, h1, h2, h3⟩ := h
    exact ⟨v, r, h1, VR.zless z d h2, LR.zless z h3⟩
theorem OR.zless (z : ∀ a ∈ Z, a ∈ Z') {a : Addr} : ∀ {o : AO}, OR K Z' ρ H a o → OR K Z ρ H a o
  | .lst ds, h => by
    obtain ⟨vs, h1, h2⟩ := h
    exact ⟨vs, h1, VRs.zless z ds h2⟩
  | .ins C fs, h => by
    obtain ⟨dx, gs, h1, h2⟩ := h
    exact ⟨dx, gs, h1, FR.zless z fs h2⟩
theorem Rel.zless (z : ∀ a ∈ Z, a ∈ Z') (R : Rel K Z' ρ H T A) : Rel K Z ρ H T A :=
  ⟨R.len, R.nd, fun i o a e1 e2 => OR.zless z (R.obj i o a e1 e2), R.tab, fun a m => R.hid a (z a m)⟩
mutual
theorem VR.zmore {p : Addr} (np : H p = none) : ∀ (d : D) {v : V}, VR K Z ρ H d v → VR K (p :: Z) ρ H d v
  | .non, _, h => by simpa [VR] using h
  | .bl _, _, h => by simpa [VR] using h
  | .int _, _, h => by simpa [VR] using h
  | .str _, _, h => by simpa [VR] using h
  | .ty _, _, h => by simpa [VR] using h
  | .con _, _, h => by simpa [VR] using h
  | .obj i, _, h => by simpa [VR] using h
  | .tup ds, _, h => by
    simp only [VR] at h ⊢
    obtain ⟨a, vs, h1, h2, h3⟩ := h
    exact ⟨a, vs, h1, h2, VRs.zmore np ds h3⟩
  | .lst ds, _, h => by
    simp only [VR] at h ⊢
    obtain ⟨a, vs, h1, n, n2, h2, h3⟩ := h
    refine ⟨a, vs, h1, n, fun m => ?_, h2, VRs.zmore np ds h3⟩
    rcases List.mem_cons.mp m with e | m
    · rw [e, np] at h2; cases h2
    · exact n2 m
  | .fls ds, _, h => by
    simp only [VR] at h ⊢
    obtain ⟨a, vs, o, h1, n, h2, h3⟩ := h
    exact ⟨a, vs, o, h1, n, h2, VRs.zmore np ds h3⟩
  | .dic ks ds, _, h => by
    simp only [VR] at h ⊢
    obtain ⟨a, vs, h1, n, n2, h2, hl, h3⟩ := h
    refine ⟨a, vs, h1, n, fun m => ?_, h2, hl, VRs.zmore np ds h3⟩
    rcases List.mem_cons.mp m with e | m
    · rw [e, np] at h2; cases h2
    · exact n2 m
theorem VRs.zmore {p : Addr} (np : H p = none) : ∀ (ds : List D) {vs : List V}, VRs K Z ρ H ds vs → VRs K (p :: Z) ρ H ds vs
  | [], _, h => by simpa [VRs] using h
  | d :: ds, _, h => by
    simp only [VRs] at h ⊢
    obtain ⟨v, r, h1, h2, h3⟩ := h
    exact ⟨v, r, h1, VR.zmore np d h2, VRs.zmore np ds h3⟩
end
theorem FR.zmore {p : Addr} (np : H p = none) : ∀ (ps : List (Str × D)) {fs : List (Str × V)}, FR K Z ρ H ps fs → FR K (p :: Z) ρ H ps fs
  | [], _, h => by simpa [FR] using h
  | q :: ps, _, h => by
    simp only [FR] at h ⊢
    obtain ⟨v, r, h1, h2, h3⟩ := h
    exact ⟨v, r, h1, VR.zmore np _ h2, FR.zmore np ps h3⟩
theorem LR.zmore {p : Addr} (np : H p = none) : ∀ {L : Loc} {σ : L2.St}, LR K Z ρ H L σ → LR K (p :: Z) ρ H L σ
  | [], _, h => by simpa [LR] using h
  | none :: L, _, h => by
    simp only [LR] at h ⊢
    obtain ⟨o, r, h1, h2⟩ := h
    exact ⟨o, r, h1, LR.zmore np h2⟩
  | some d :: L, _, h => by
    simp only [LR] at h ⊢
    obtain ⟨v, r, h1, h2, h3⟩ := h
    exact ⟨v, r, h1, VR.zmore np d h2, LR.zmore np h3⟩
theorem OR.zmore {p : Addr} (np : H p = none) {a : Addr} : ∀ {o : AO}, OR K Z ρ H a o → OR K (p :: Z) ρ H a o
  | .lst ds, h => by
    obtain ⟨vs, h1, h2⟩ := h
    exact ⟨vs, h1, VRs.zmore np ds h2⟩
  | .ins C fs, h => by
    obtain ⟨dx, gs, h1, h2⟩ := h
    exact ⟨dx, gs, h1, FR.zmore np fs h2⟩
theorem Rel.hide {p : Addr} {u : HO} (np : H p = none) (R : Rel K Z ρ H T A) : Rel K (p :: Z) ρ (upd H p u) T A := by
  have R1 : Rel K Z ρ (upd H p u) T A := R.new1 np
  have f : Fut ρ H ρ (upd H p u) := Fut.new1 np
  refine ⟨R.len, R.nd, fun i o a e1 e2 => ?_, R1.tab, fun z m => ?_⟩
  · have q := OR.zmore np (R.obj i o a e1 e2)
    cases o with
    | lst ds =>
      obtain ⟨vs, h1, h2⟩ := q
      exact ⟨vs, by rw [upd_ne (ne_of_none h1 np)]; exact h1, VRs.fut R f ds h2⟩
    | ins C fs =>
      obtain ⟨dx, gs, h1, h2⟩ := q
      exact ⟨dx, gs, by rw [upd_ne (ne_of_none h1 np)]; exact h1, FR.fut R f fs h2⟩
  · rcases List.mem_cons.mp m with e | m
    · rw [e, upd_same]; exact fun z => by cases z
    · exact R1.hid z m

/-! ### results over the heap -/
variable {α β : Type}
/-- what must hold of a result: P of what is told, E of what is raised, whatever heap it leaves -/
def RG (K : PySem.W.Frag) (T : List (Addr × Str)) (Z ρ : List Addr) (H : Hp) (P : α → AH → List Addr → Hp → Prop) (E : Exn → AH → List Addr → Hp → Prop) : Res α → Prop
  | .ok a A' => ∀ ρ' H', Fut ρ H ρ' H' → Rel K Z ρ' H' T A' → P a A' ρ' H'
  | .exc e A' => ∀ ρ' H', Fut ρ H ρ' H' → Rel K Z ρ' H' T A' → E e A' ρ' H'
  | .stuck => False
variable {P : α → AH → List Addr → Hp → Prop} {E : Exn → AH → List Addr → Hp → Prop}
theorem RG.fut {r : Res α} (f : Fut ρ H ρ' H') (h : RG K T Z ρ H P E r) : RG K T Z ρ' H' P E r := by
  cases r with
  | ok a A => exact fun ρ2 H2 f2 R => h ρ2 H2 (f.trans f2) R
  | exc e A => exact fun ρ2 H2 f2 R => h ρ2 H2 (f.trans f2) R
  | stuck => exact h
theorem RG.mono {r : Res α} {P' : α → AH → List Addr → Hp → Prop} {E' : Exn → AH → List Addr → Hp → Prop} (h : RG K T Z ρ H P E r)
    (hp : ∀ a A' ρ' H', Fut ρ H ρ' H' → Rel K Z ρ' H' T A' → P a A' ρ' H' → P' a A' ρ' H')
    (he : ∀ e A' ρ' H', Fut ρ H ρ' H' → Rel K Z ρ' H' T A' → E e A' ρ' H' → E' e A' ρ' H') : RG K T Z ρ H P' E' r := by
  cases r with
  | ok a A => exact fun ρ2 H2 f2 R => hp _ _ _ _ f2 R (h ρ2 H2 f2 R)
  | exc e A => exact fun ρ2 H2 f2 R => he _ _ _ _ f2 R (h ρ2 H2 f2 R)
  | stuck => exact h
theorem RG.bind {β : Type} {P : β → AH → List Addr → Hp → Prop} {P' : α → AH → List Addr → Hp → Prop} {r : Res α} {k : α → AH → Res β} (h : RG K T Z ρ H P E (r.bind k))
    (g : ∀ a A' ρ' H', Fut ρ H ρ' H' → Rel K Z ρ' H' T A' → RG K T Z ρ' H' P E (k a A') → P' a A' ρ' H') : RG K T Z ρ H P' E r := by
  cases r with
  | ok a A => exact fun ρ2 H2 f2 R => g _ _ _ _ f2 R (RG.fut f2 h)
  | exc e A => exact h
  | stuck => exact h
theorem RG.ok {a : α} (R : Rel K Z ρ H T A) (h : RG K T Z ρ H P E (.ok a A)) : P a A ρ H := h ρ H (Fut.refl ρ H) R

/-- the own dict of an exception of this program -/
def xfs (v : V) (w : Str) : List (Str × V) := [("word", .str w), ("what", v)]
/-- the wish Q of a value, of results -/
def PQ (K : PySem.W.Frag) (Z : List Addr) (Q : VK) : D → AH → List Addr → Hp → Prop := fun d _ ρ' H' => ∀ v, VR K Z ρ' H' d v → Q v H'
/-- the wish of an exception, of results -/
def EXK (K : PySem.W.Frag) (Z : List Addr) (E : XK) : Exn → AH → List Addr → Hp → Prop := fun e _ ρ' H' => ∀ v dd, VR K Z ρ' H' e.what v → H' dd = some (.xd (xfs v e.word)) → E (.ref e.cls) (some dd) H'
variable {E : XK}
def eM (K : PySem.W.Frag) (T : List (Addr × Str)) (Z : List Addr) (E : XK) (m : ME) : TE := fun σ H Q =>
  ∃ L A ρ, LR K Z ρ H L σ ∧ Rel K Z ρ H T A ∧ RG K T Z ρ H (PQ K Z Q) (EXK K Z E) (m L A)
def tM (K : PySem.W.Frag) (T : List (Addr × Str)) (Z : List Addr) (E : XK) (m : MT) : TT := fun σ H Q =>
  ∃ L A ρ, LR K Z ρ H L σ ∧ Rel K Z ρ H T A ∧ RG K T Z ρ H (fun b _ _ H' => Q b H') (EXK K Z E) (m L A)
def aM (K : PySem.W.Frag) (T : List (Addr × Str)) (Z : List Addr) (E : XK) (m : MA) : TA := fun σ H Q =>
  ∃ L A ρ, LR K Z ρ H L σ ∧ Rel K Z ρ H T A ∧ RG K T Z ρ H (fun ds _ ρ' H' => ∀ vs, VRs K Z ρ' H' ds vs → Q vs H') (EXK K Z E) (m L A)
end

/-! ### readings made weaker, and either of two -/
section
variable {X : Cx}
theorem pe_weak {e : Expr} {t t' : TE} (h : PE X e t) (i : ∀ σ H Q, t' σ H Q → t σ H Q) : PE X e t' := ⟨fun pins s σ H Q I r => h.run pins s σ H Q I (i σ H Q r)⟩
theorem pt_weak {e : Expr} {t t' : TT} (h : PT X e t) (i : ∀ σ H Q, t' σ H Q → t σ H Q) : PT X e t' := ⟨fun pins s σ H Q I r => h.run pins s σ H Q I (i σ H Q r)⟩
theorem pw_weak {e : Expr} {t t' : TT} (h : PW X e t) (i : ∀ σ H Q, t' σ H Q → t σ H Q) : PW X e t' := ⟨fun wh pins s σ H Q I r => h.run wh pins s σ H Q I (i σ H Q r)⟩
theorem pa_weak {e : List Expr} {t t' : TA} (h : PA X e t) (i : ∀ σ H Q, t' σ H Q → t σ H Q) : PA X e t' := ⟨fun pos pins s σ H Q I r => h.run pos pins s σ H Q I (i σ H Q r)⟩
theorem pc_weak {op : CmpOp} {a b : Expr} {t t' : TE} (h : PC X op a b t) (i : ∀ σ H Q, t' σ H Q → t σ H Q) : PC X op a b t' := ⟨fun pins s σ H Q I r => h.run pins s σ H Q I (i σ H Q r)⟩
theorem ps_weak {e : Stmt} {t t' : TS} (h : PS X e t) (i : ∀ D σ H, t' D σ H → t D σ H) : PS X e t' := ⟨fun pins s σ H D I r => h.run pins s σ H D I (i D σ H r)⟩
theorem pss_weak {e : List Stmt} {t t' : TS} (h : PSs X e t) (i : ∀ D σ H, t' D σ H → t D σ H) : PSs X e t' := ⟨fun pins s σ H D I r => h.run pins s σ H D I (i D σ H r)⟩
theorem pe_no {e : Expr} {t : TE} (i : ∀ σ H Q, ¬ t σ H Q) : PE X e t := ⟨fun pins s σ H Q I r => absurd r (i σ H Q)⟩
theorem pt_no {e : Expr} {t : TT} (i : ∀ σ H Q, ¬ t σ H Q) : PT X e t := ⟨fun pins s σ H Q I r => absurd r (i σ H Q)⟩
theorem pa_no {e : List Expr} {t : TA} (i : ∀ σ H Q, ¬ t σ H Q) : PA X e t := ⟨fun pos pins s σ H Q I r => absurd r (i σ H Q)⟩
theorem ps_no {e : Stmt} {t : TS} (i : ∀ D σ H, ¬ t D σ H) : PS X e t := ⟨fun pins s σ H D I r => absurd r (i D σ H)⟩
theorem pe_either {e : Expr} {t u : TE} (h : PE X e t) (g : PE X e u) : PE X e (fun σ H Q => t σ H Q ∨ u σ H Q) := ⟨fun pins s σ H Q I r => r.elim (h.run pins s σ H Q I) (g.run pins s σ H Q I)⟩
theorem pc_either {op : CmpOp} {a b : Expr} {t u : TE} (h : PC X op a b t) (g : PC X op a b u) : PC X op a b (fun σ H Q => t σ H Q ∨ u σ H Q) := ⟨fun pins s σ H Q I r => r.elim (h.run pins s σ H Q I) (g.run pins s σ H Q I)⟩
theorem eM_stuck {K : PySem.W.Frag} {T : List (Addr × Str)} {Z : List Addr} {W : XK} {σ : St} {H : Hp} {Q : VK} : ¬ eM K T Z W (fun _ _ => .stuck) σ H Q := fun ⟨_, _, _, _, _, h⟩ => h
theorem aM_stuck {K : PySem.W.Frag} {T : List (Addr × Str)} {Z : List Addr} {W : XK} {σ : St} {H : Hp} {Q : List V → Hp → Prop} : ¬ aM K T Z W (fun _ _ => .stuck) σ H Q := fun ⟨_, _, _, _, _, h⟩ => h
theorem tM_stuck {K : PySem.W.Frag} {T : List (Addr × Str)} {Z : List Addr} {W : XK} {σ : St} {H : Hp} {Q : Bool → Hp → Prop} : ¬ tM K T Z W (fun _ _ => .stuck) σ H Q := fun ⟨_, _, _, _, _, h⟩ => h
end
end M
end
/-! ## M2 -/
section
set_option linter.all false
set_option maxRecDepth 100000
set_option maxHeartbeats 4000000
/-! Layer M, part 2: what the operators tell of deep values, and that the hand layer's rules say the same. -/
namespace M
open PySem L2

/-! ### deep values as data -/
mutual
def toPD : D → Option PyData
  | .non => some .none
  | .bl b => some (.bool b)
  | .int i => some (.int i)
  | .str x => some (.str x)
  | .tup xs => (toPDs xs).map .tuple
  | .lst xs => (toPDs xs).map .list
  | .fls xs => (toPDs xs).map .list
  | _ => none
def toPDs : List D → Option (List PyData)
  | [] => some []
  | d :: ds => match toPD d, toPDs ds with
    | some p, some q => some (p :: q)
    | _, _ => none
end
def scalD : D → Option V
  | .non => some .non
  | .bl b => some (.bl b)
  | .int i => some (.int i)
  | .str x => some (.str x)
  | _ => none
section
variable {K : PySem.W.Frag} {T : List (Addr × Str)} {Z Z' : List Addr} {ρ ρ' : List Addr} {H H' : Hp} {A A' : AH} {d a b : D} {v : V}
theorem scalD_eq {x : V} (h : scalD d = some x) (r : VR K Z ρ H d v) : v = x := by
  cases d <;> simp [scalD] at h <;> simp only [VR] at r <;> rw [r, ← h]
mutual
theorem dp_of : ∀ (d : D) {v : V} {p : PyData}, VR K Z ρ H d v → toPD d = some p → Dp K H v p
  | .non, v, p, r, h => by simp only [toPD, Option.some.injEq] at h; simp only [VR] at r; subst h; subst r; exact .non
  | .bl _, v, p, r, h => by simp only [toPD, Option.some.injEq] at h; simp only [VR] at r; subst h; subst r; exact .bl _
  | .int _, v, p, r, h => by simp only [toPD, Option.some.injEq] at h; simp only [VR] at r; subst h; subst r; exact .int _
  | .str _, v, p, r, h => by simp only [toPD, Option.some.injEq] at h; simp only [VR] at r; subst h; subst r; exact .str _
  | .ty _, v, p, r, h => by simp [toPD] at h
  | .con _, v, p, r, h => by simp [toPD] at h
  | .obj _, v, p, r, h => by simp [toPD] at h
  | .dic _ _, v, p, r, h => by simp [toPD] at h
  | .tup ds, v, p, r, h => by
    simp only [toPD, Option.map_eq_some_iff] at h
    obtain ⟨q, h1, rfl⟩ := h
    simp only [VR] at r
    obtain ⟨a, vs, rfl, h2, h3⟩ := r
    exact .tup h2 (dps_of ds h3 h1)
  | .lst ds, v, p, r, h => by
    simp only [toPD, Option.map_eq_some_iff] at h
    obtain ⟨q, h1, rfl⟩ := h
    simp only [VR] at r
    obtain ⟨a, vs, rfl, _, _, h2, h3⟩ := r
    exact .lst (.inl (.inl h2)) (dps_of ds h3 h1)
  | .fls ds, v, p, r, h => by
    simp only [toPD, Option.map_eq_some_iff] at h
    obtain ⟨q, h1, rfl⟩ := h
    simp only [VR] at r
    obtain ⟨a, vs, o, rfl, _, h2, h3⟩ := r
    exact .lst (.inl (.inr ⟨o, h2⟩)) (dps_of ds h3 h1)
theorem dps_of : ∀ (ds : List D) {vs : List V} {p : List PyData}, VRs K Z ρ H ds vs → toPDs ds = some p → DpAll K H vs p
  | [], vs, p, r, h => by simp only [toPDs, Option.some.injEq] at h; simp only [VRs] at r; subst h; subst r; exact .nil
  | d :: ds, vs, p, r, h => by
    simp only [toPDs] at h
    simp only [VRs] at r
    obtain ⟨v, s, rfl, r1, r2⟩ := r
    cases e1 : toPD d with
    | none => rw [e1] at h; simp at h
    | some p1 =>
      cases e2 : toPDs ds with
      | none => rw [e1, e2] at h; simp at h
      | some p2 =>
        rw [e1, e2] at h
        simp at h
        subst h
        exact .cons (dp_of d r1 e1) (dps_of ds r2 e2)
end

/-! ### binary operators -/
def opM (op : Operator) (a b : D) (A : AH) : Res D :=
  match op, a, b with
  | .Add, .int i, .int j => .ok (.int (i + j)) A
  | .Add, .str x, .str y => if x.length + y.length ≤ sizeLine then .ok (.str (x ++ y)) A else .stuck
  | .Add, .tup x, .tup y => if x.length + y.length ≤ sizeLine then .ok (.tup (x ++ y)) A else .stuck
  | .Add, .lst x, .lst y => if x.length + y.length ≤ sizeLine then .ok (.lst (x ++ y)) A else .stuck
  | .Sub, .int i, .int j => .ok (.int (i - j)) A
  | .Mult, .int i, .int j => if Nat.log2 i.natAbs + Nat.log2 j.natAbs < 1000000 then .ok (.int (i * j)) A else if (decide (-2 ^ 64 < i) && decide (i < 2 ^ 64)) || (decide (-2 ^ 64 < j) && decide (j < 2 ^ 64)) then .ok (.int (i * j)) A else .stuck
  | .Mult, .str x, .int k => if 2 ≤ k ∧ k ≤ 4000000 ∧ x.length = 1 then .ok (.str ⟨(List.replicate k.toNat x.cps).foldl (· ++ ·) #[]⟩) A else .stuck
  | .FloorDiv, .int i, .int j => if 0 < j ∧ Nat.log2 j.natAbs < 9000 then .ok (.int (i / j)) A else .stuck
  | .Mod, .int i, .int j => if 0 < j then .ok (.int (i % j)) A else .stuck
  | .Pow, .int i, .int j => if 0 ≤ j ∧ j ≤ 1000000 ∧ i.natAbs < 2 ^ 64 then .ok (.int (i ^ j.toNat)) A else .stuck
  | _, _, _ => .stuck
/-- a rule of two values that goes by a plain function -/
def rD2 (K : PySem.W.Frag) (T : List (Addr × Str)) (Z : List Addr) (f : D → D → AH → Res D) : R2 := fun x y H Q =>
  ∃ a b A ρ E, VR K Z ρ H a x ∧ VR K Z ρ H b y ∧ Rel K Z ρ H T A ∧ (∀ e B, f a b A ≠ .exc e B) ∧ RG K T Z ρ H (PQ K Z Q) E (f a b A)
theorem opM_noexc (op : Operator) (a b : D) (A : AH) : ∀ e B, opM op a b A ≠ .exc e B := by
  intro e B
  unfold opM
  split <;> (try split) <;> (try split) <;> intro h <;> cases h
theorem OpR.weak {X : Cx} {f : Value → Value → Sem Value} {r r' : R2} (h : OpR X f r) (i : ∀ x y H Q, r' x y H Q → r x y H Q) : OpR X f r' :=
  fun pins s σ H x y v u Q I rv ru q => h pins s σ H x y v u Q I rv ru (i x y H Q q)
variable {E : Exn → AH → List Addr → Hp → Prop} {Q : VK}
theorem rg_scal {x : V} (R : Rel K Z ρ H T A) (h : RG K T Z ρ H (PQ K Z Q) E (.ok d A)) (q : VR K Z ρ H d x) : Q x H := RG.ok R h x q
/-- a new tuple -/
theorem rg_tup {ds : List D} {vs : List V} (R : Rel K Z ρ H T A) (h : RG K T Z ρ H (PQ K Z Q) E (.ok (.tup ds) A)) (q : VRs K Z ρ H ds vs) {p : Addr} (hp : H p = none) : Q (.ref p) (upd H p (.tup vs)) :=
  h ρ _ (Fut.new1 hp) (R.new1 hp) _ (by simp only [VR]; exact ⟨p, vs, rfl, SqT.of (upd_same), VRs.fut R (Fut.new1 hp) ds q⟩)
/-- a new list -/
theorem rg_lst {ds : List D} {vs : List V} (R : Rel K Z ρ H T A) (h : RG K T Z ρ H (PQ K Z Q) E (.ok (.lst ds) A)) (q : VRs K Z ρ H ds vs) {p : Addr} (hp : H p = none) : Q (.ref p) (upd H p (.lst vs)) :=
  h ρ _ (Fut.new1 hp) (R.new1 hp) _ (by simp only [VR]; exact ⟨p, vs, rfl, R.out hp, fun m => R.hid p m hp, upd_same, VRs.fut R (Fut.new1 hp) ds q⟩)
end
end M
end
/-! ## M3 -/
section
set_option linter.all false
set_option maxRecDepth 100000
set_option maxHeartbeats 4000000
/-! Layer M, part 3: the operators' rules. -/
namespace M
open PySem L2
theorem rep_size (a : Array Nat) : ∀ (n : Nat) (b : Array Nat), ((List.replicate n a).foldl (· ++ ·) b).size = b.size + n * a.size
  | 0, b => by simp
  | n + 1, b => by
    rw [List.replicate_succ, List.foldl_cons, rep_size a n (b ++ a), Array.size_append, Nat.succ_mul]
    omega
section
variable {X : Cx} {T : List (Addr × Str)} {Z : List Addr}
theorem op_repS : OpR X (binaryOp .Mult) (fun x y H Q => ∃ z k, x = .str z ∧ y = .int k ∧ 2 ≤ k ∧ k ≤ 4000000 ∧ z.length = 1 ∧ Q (.str ⟨(List.replicate k.toNat z.cps).foldl (· ++ ·) #[]⟩) H) := by
  intro pins s σ H x y v u Q I rx ry ⟨z, k, ex, ey, h1, h2, hz, q⟩
  subst ex; subst ey
  obtain ⟨t, rfl⟩ := rx
  obtain ⟨t', rfl⟩ := ry
  have e1 : ¬ k < 1 := by omega
  have e2 : (k == 1 || z.length == 0) = false := by
    rw [hz]
    simp
    omega
  have hs : sizeLine = 16777216 := sizeLine_eq
  refine P.mul_str ?_ (fun _ _ => ?_) (fun _ _ => ?_) ?_
  · rw [decide_eq_false (by omega), decide_eq_false (by omega)]; rfl
  · rw [hz]
    have : (1 : Int) ≤ (2 ^ 63 - 1) / k := (Int.le_ediv_iff_mul_le (by omega)).mpr (by omega)
    omega
  · rw [hz]
    unfold Builtin.Str.tooLong
    exact decide_eq_false (by rw [hs]; omega)
  · rw [if_neg e1, e2]
    refine ⟨?_, ?_⟩
    · show Array.size _ ≤ _
      rw [rep_size, hs]
      have : z.cps.size = 1 := hz
      rw [this]
      simp
      omega
    · exact ⟨.str _, H, I.tok _, ⟨_, rfl⟩, q⟩
theorem op_M (op : Operator) : OpR X (binaryOp op) (rD2 X.K T Z (opM op)) := by
  have no : ∀ {x y : V} {H : Hp} {Q : VK} {a b : D} {A : AH} {ρ : List Addr} {E : Exn → AH → List Addr → Hp → Prop}, RG X.K T Z ρ H (PQ X.K Z Q) E (.stuck : Res D) → False := fun h => h
  cases op
  case Add =>
    refine OpR.weak (OpR.or (OpR.or op_add op_add_str) (OpR.or op_catA op_cat)) ?_
    rintro x y H Q ⟨a, b, A, ρ, E, ra, rb, R, ne, h⟩
    cases a <;> cases b <;> simp only [opM] at h <;> try exact absurd h id
    case int.int i j =>
      simp only [VR] at ra rb
      exact .inl (.inl ⟨i, j, ra, rb, rg_scal R h (by simp only [VR])⟩)
    case str.str i j =>
      simp only [VR] at ra rb
      split at h
      · exact .inl (.inr ⟨i, j, ra, rb, ‹_›, rg_scal R h (by simp only [VR])⟩)
      · exact absurd h id
    case tup.tup i j =>
      have ra0 := ra
      have rb0 := rb
      simp only [VR] at ra rb
      obtain ⟨p, us, rfl, p1, p2⟩ := ra
      obtain ⟨q, ws, rfl, q1, q2⟩ := rb
      split at h
      · rename_i hl
        refine .inr (.inl ⟨p, q, us, ws, rfl, rfl, p1, q1, by rw [VRs.length p2, VRs.length q2]; exact hl, fun z => ?_, fun _ z => ?_, fun _ _ r hr => ?_⟩)
        · have : i = [] := List.eq_nil_of_length_eq_zero (by rw [← VRs.length p2, z]; rfl)
          subst this
          exact rg_scal R h rb0
        · have : j = [] := List.eq_nil_of_length_eq_zero (by rw [← VRs.length q2, z]; rfl)
          subst this
          rw [List.append_nil] at h
          exact rg_scal R h ra0
        · exact rg_tup R h (VRs.append p2 q2) hr
      · exact absurd h id
    case lst.lst i j =>
      simp only [VR] at ra rb
      obtain ⟨p, us, rfl, _, _, p1, p2⟩ := ra
      obtain ⟨q, ws, rfl, _, _, q1, q2⟩ := rb
      split at h
      · rename_i hl
        exact .inr (.inr ⟨p, q, us, ws, rfl, rfl, p1, q1, by rw [VRs.length p2, VRs.length q2]; exact hl, fun r hr => rg_lst R h (VRs.append p2 q2) hr⟩)
      · exact absurd h id
  case Sub =>
    refine OpR.weak op_sub ?_
    rintro x y H Q ⟨a, b, A, ρ, E, ra, rb, R, ne, h⟩
    cases a <;> cases b <;> simp only [opM] at h <;> try exact absurd h id
    case int.int i j =>
      simp only [VR] at ra rb
      exact ⟨i, j, ra, rb, rg_scal R h (by simp only [VR])⟩
  case Mult =>
    refine OpR.weak (OpR.or (OpR.or op_mulW op_mul) op_repS) ?_
    rintro x y H Q ⟨a, b, A, ρ, E, ra, rb, R, ne, h⟩
    cases a <;> cases b <;> simp only [opM] at h <;> try exact absurd h id
    case int.int i j =>
      simp only [VR] at ra rb
      split at h
      · exact .inl (.inl ⟨i, j, ra, rb, ‹_›, rg_scal R h (by simp only [VR])⟩)
      · split at h
        · rename_i hl
          refine .inl (.inr ⟨i, j, ra, rb, ?_, rg_scal R h (by simp only [VR])⟩)
          simpa [CMul] using hl
        · exact absurd h id
    case str.int i j =>
      simp only [VR] at ra rb
      split at h
      · rename_i hl
        exact .inr ⟨i, j, ra, rb, hl.1, hl.2.1, hl.2.2, rg_scal R h (by simp only [VR])⟩
      · exact absurd h id
  case FloorDiv =>
    refine OpR.weak op_fdivW ?_
    rintro x y H Q ⟨a, b, A, ρ, E, ra, rb, R, ne, h⟩
    cases a <;> cases b <;> simp only [opM] at h <;> try exact absurd h id
    case int.int i j =>
      simp only [VR] at ra rb
      split at h
      · exact ⟨i, j, ra, rb, ‹_›, rg_scal R h (by simp only [VR])⟩
      · exact absurd h id
  case Mod =>
    refine OpR.weak op_mod ?_
    rintro x y H Q ⟨a, b, A, ρ, E, ra, rb, R, ne, h⟩
    cases a <;> cases b <;> simp only [opM] at h <;> try exact absurd h id
    case int.int i j =>
      simp only [VR] at ra rb
      split at h
      · exact ⟨i, j, ra, rb, ‹_›, rg_scal R h (by simp only [VR])⟩
      · exact absurd h id
  case Pow =>
    refine OpR.weak op_pow ?_
    rintro x y H Q ⟨a, b, A, ρ, E, ra, rb, R, ne, h⟩
    cases a <;> cases b <;> simp only [opM] at h <;> try exact absurd h id
    case int.int i j =>
      simp only [VR] at ra rb
      split at h
      · exact ⟨i, j, ra, rb, ‹_›, rg_scal R h (by simp only [VR])⟩
      · exact absurd h id
  all_goals
    intro pins s σ H x y v u Q I rx ry hh
    obtain ⟨a, b, A, ρ, E, ra, rb, R, ne, h⟩ := hh
    simp only [opM] at h
    exact absurd h id
end
end M
end
/-! ## M4 -/
section
set_option linter.all false
set_option maxRecDepth 100000
set_option maxHeartbeats 4000000
/-! Layer M, part 4: comparisons. -/
namespace M
open PySem L2

/-- what a law's text fixes once and for all -/
structure Stat where
  /-- written dicts: the address, the pairs -/
  kds : List (Addr × List (Str × Int))
def scalDs : List D → Option (List V)
  | [] => some []
  | d :: ds => match scalD d, scalDs ds with
    | some v, some vs => some (v :: vs)
    | _, _ => none
def eqM : D → D → Option Bool
  | .int i, .int j => some (decide (i = j))
  | .str x, .str y => some (decide (x = y))
  | .bl x, .bl y => some (decide (x = y))
  | .non, .non => some true
  | .non, .int _ => some false
  | .int _, .non => some false
  | .non, .str _ => some false
  | .str _, .non => some false
  | .non, .bl _ => some false
  | .bl _, .non => some false
  | .int _, .str _ => some false
  | .str _, .int _ => some false
  | .bl _, .str _ => some false
  | .str _, .bl _ => some false
  | a, b => match toPD a, toPD b with
    | some p, some q => if SeqAt.shaped p && SeqAt.shaped q then some (PyData.eqv p q) else none
    | _, _ => none
def inSeq (a : D) (ds : List D) : Option Bool := match scalD a, scalDs ds with
  | some v, some vs => some (inV v vs)
  | _, _ => none
def inM (S : Stat) : D → D → Option Bool
  | .str x, .str z => match x.cps.toList with
    | [c] => some (decide (c ∈ z.cps.toList))
    | _ => some (!(Builtin.Str.occurrences z x 0 z.length 1).isEmpty)
  | a, .tup ds => inSeq a ds
  | a, .lst ds => inSeq a ds
  | .str x, .con d => (S.kds.lookup d).map fun l => (l.lookup x).isSome
  | .str x, .dic ks _ => some (ks.any fun k => decide (k = Sum.inr x))
  | .int x, .dic ks _ => some (ks.any fun k => decide (k = Sum.inl x))
  | _, _ => none
def isNon : D → Bool
  | .non => true
  | _ => false
def isM : D → D → Option Bool
  | a, .non => some (isNon a)
  | .bl a, .bl b => some (decide (a = b))
  | _, _ => none
def ltM : D → D → Option Bool
  | .int i, .int j => some (decide (i < j))
  | .str i, .str j => some (decide (i.cps.toList < j.cps.toList))
  | _, _ => none
def leM : D → D → Option Bool
  | .int i, .int j => some (decide (i ≤ j))
  | _, _ => none
def cmpM (S : Stat) (op : CmpOp) (a b : D) : Option Bool :=
  match op with
  | .Eq => eqM a b
  | .NotEq => (eqM a b).map (!·)
  | .Lt => ltM a b
  | .LtE => leM a b
  | .Gt => ltM b a
  | .GtE => leM b a
  | .Is => isM a b
  | .IsNot => (isM a b).map (!·)
  | .In => inM S a b
  | .NotIn => (inM S a b).map (!·)
def blR (A : AH) : Option Bool → Res D
  | some c => .ok (.bl c) A
  | none => .stuck
def cmpO (S : Stat) (op : CmpOp) (a b : D) (A : AH) : Res D := blR A (cmpM S op a b)
/-- S is true of the written part -/
structure SOk (S : Stat) (K : PySem.W.Frag) (w : World) : Prop where
  tp : ∀ d l, S.kds.lookup d = some l → ∀ X : Cx, X.K = K → X.w = w → X.calm = true → CallR X (.type "tuple") (fun xs H Q => xs = [.ref d] ∧ ∀ p, H p = none → Q (.ref p) (upd H p (.tup (l.map fun q => V.str q.1))))
  kd : ∀ d l, S.kds.lookup d = some l → (∃ es n, KDict K w d es n) ∧ ∀ z, (l.lookup z = none ∧ PySem.W.nsIn K d z = some none) ∨ ∃ i u, l.lookup z = some i ∧ PySem.W.nsIn K d z = some (some u) ∧ RelV (.int i) u
section
variable {X : Cx} {T : List (Addr × Str)} {Z Z' : List Addr} {ρ ρ' : List Addr} {H H' : Hp} {A A' : AH} {d a b : D} {v : V} {S : Stat}
theorem scalDs_eq : ∀ {ds : List D} {vs us : List V}, scalDs ds = some vs → VRs X.K Z ρ H ds us → us = vs
  | [], vs, us, h, r => by simp only [scalDs, Option.some.injEq] at h; simp only [VRs] at r; rw [r, ← h]
  | d :: ds, vs, us, h, r => by
    simp only [scalDs] at h
    simp only [VRs] at r
    obtain ⟨v, s, rfl, r1, r2⟩ := r
    cases e1 : scalD d with
    | none => rw [e1] at h; simp at h
    | some x =>
      cases e2 : scalDs ds with
      | none => rw [e1, e2] at h; simp at h
      | some xs =>
        rw [e1, e2] at h
        simp at h
        rw [← h, scalD_eq e1 r1, scalDs_eq e2 r2]
theorem flat_scal {x : V} (h : scalD d = some x) : flatV x = true := by cases d <;> simp [scalD] at h <;> rw [← h] <;> rfl
theorem flat_scals : ∀ {ds : List D} {vs : List V}, scalDs ds = some vs → vs.all flatV = true
  | [], vs, h => by simp only [scalDs, Option.some.injEq] at h; rw [← h]; rfl
  | d :: ds, vs, h => by
    simp only [scalDs] at h
    cases e1 : scalD d with
    | none => rw [e1] at h; simp at h
    | some x =>
      cases e2 : scalDs ds with
      | none => rw [e1, e2] at h; simp at h
      | some xs =>
        rw [e1, e2] at h
        simp at h
        rw [← h, List.all_cons, flat_scal e1, flat_scals e2]; rfl
theorem isNon_iff {x : V} (r : VR X.K Z ρ H a x) : decide (x = .non) = isNon a := by
  cases a <;> simp only [VR] at r
  case non => subst r; rfl
  case obj => obtain ⟨_, _, rfl⟩ := r; rfl
  case tup => obtain ⟨_, _, rfl, _⟩ := r; rfl
  case lst => obtain ⟨_, _, rfl, _⟩ := r; rfl
  case fls => obtain ⟨_, _, _, rfl, _⟩ := r; rfl
  case dic => obtain ⟨_, _, rfl, _⟩ := r; rfl
  all_goals subst r; rfl
theorem eq_rule {Q : VK} {E : Exn → AH → List Addr → Hp → Prop} {x y : V} {c : Bool} (ra : VR X.K Z ρ H a x) (rb : VR X.K Z ρ H b y) (h : eqM a b = some c) :
    (scal x y = true ∧ decide (x = y) = c) ∨ ∃ d e, Dp X.K H x d ∧ Dp X.K H y e ∧ SeqAt.shaped d = true ∧ SeqAt.shaped e = true ∧ PyData.eqv d e = c := by
  have gen : (match toPD a, toPD b with
    | some p, some q => if SeqAt.shaped p && SeqAt.shaped q then some (PyData.eqv p q) else none
    | _, _ => none) = some c → ∃ d e, Dp X.K H x d ∧ Dp X.K H y e ∧ SeqAt.shaped d = true ∧ SeqAt.shaped e = true ∧ PyData.eqv d e = c := by
    intro h
    cases e1 : toPD a with
    | none => rw [e1] at h; simp at h
    | some p =>
      cases e2 : toPD b with
      | none => rw [e1, e2] at h; simp at h
      | some q =>
        rw [e1, e2] at h
        simp at h
        exact ⟨p, q, dp_of a ra e1, dp_of b rb e2, h.1.1, h.1.2, h.2⟩
  unfold eqM at h
  split at h
  case h_15 => exact .inr (gen h)
  all_goals
    simp only [VR] at ra rb
    subst ra; subst rb
    simp only [Option.some.injEq] at h
    refine .inl ⟨rfl, ?_⟩
    rw [← h]
    first | rfl | simp
theorem op_dIn (hu : X.A.units + 1 < cLine) : OpR X (compareOp .In) (fun y x H Q => ∃ a o, x = .ref a ∧ DGet H a y o ∧ Q (.bl o.isSome) H) := by
  intro pins s σ H y x iv u Q I ry rx ⟨a, o, ex, g, q⟩
  subst ex
  obtain rfl : u = Value.ref a := rx
  exact d_in hu I g ry fun s3 I3 => ⟨.bl o.isSome, H, I3, rfl, q⟩
theorem op_dNotIn (hu : X.A.units + 1 < cLine) : OpR X (compareOp .NotIn) (fun y x H Q => ∃ a o, x = .ref a ∧ DGet H a y o ∧ Q (.bl (!o.isSome)) H) := by
  intro pins s σ H y x iv u Q I ry rx ⟨a, o, ex, g, q⟩
  subst ex
  obtain rfl : u = Value.ref a := rx
  exact d_notIn hu I g ry fun s3 I3 => ⟨.bl (!o.isSome), H, I3, rfl, q⟩
theorem any_key {k : Key} : ∀ {ks : List Key} {vs : List V}, ks.length = vs.length → (valV (ks.zip vs) k).isSome = ks.any fun z => decide (z = k)
  | [], vs, h => by simp [valV]
  | z :: ks, [], h => by simp at h
  | z :: ks, v :: vs, h => by
    have ih := any_key (k := k) (ks := ks) (vs := vs) (by simpa using h)
    simp only [valV, List.zip_cons_cons, List.find?_cons, List.any_cons] at ih ⊢
    by_cases e : z = k
    · simp [e]
    · rw [decide_eq_false e]
      simpa using ih
theorem op_inKD (so : SOk S X.K X.w) : OpR X (compareOp .In) (fun x y H Q => ∃ (z : Str) (d : Addr) (l : List (Str × Int)), x = .str z ∧ y = .ref d ∧ S.kds.lookup d = some l ∧ Q (.bl (l.lookup z).isSome) H) := by
  intro pins s σ H x y v u Q I rx ry ⟨z, d, l, ex, ey, e, q⟩
  obtain ⟨⟨es, n, kd⟩, g⟩ := so.kd d l e
  refine op_in_kd kd pins s σ H x y v u Q I rx ry ?_
  rcases g z with ⟨g1, g2⟩ | ⟨i, u0, g1, g2, _⟩ <;> rw [g1] at q <;> exact ⟨z, _, ex, ey, g2, q⟩
theorem op_notInKD (so : SOk S X.K X.w) : OpR X (compareOp .NotIn) (fun x y H Q => ∃ (z : Str) (d : Addr) (l : List (Str × Int)), x = .str z ∧ y = .ref d ∧ S.kds.lookup d = some l ∧ Q (.bl (!(l.lookup z).isSome)) H) := by
  intro pins s σ H x y v u Q I rx ry ⟨z, d, l, ex, ey, e, q⟩
  obtain ⟨⟨es, n, kd⟩, g⟩ := so.kd d l e
  refine op_notIn_kd kd pins s σ H x y v u Q I rx ry ?_
  rcases g z with ⟨g1, g2⟩ | ⟨i, u0, g1, g2, _⟩ <;> rw [g1] at q <;> exact ⟨z, _, ex, ey, g2, q⟩
theorem str1 {x : Str} {c : Nat} (h : x.cps.toList = [c]) : x = ⟨#[c]⟩ := by
  cases x with
  | mk a =>
    congr 1
    exact Array.toList_inj.mp h
/-- what "in" asks -/
theorem in_rule {Q : VK} {x y : V} {c : Bool} (ra : VR X.K Z ρ H a x) (rb : VR X.K Z ρ H b y) (h : inM S a b = some c) :
    (∃ (k : Nat) (z : Str), x = .str ⟨#[k]⟩ ∧ y = .str z ∧ decide (k ∈ z.cps.toList) = c) ∨
    (∃ i j, x = .str i ∧ y = .str j ∧ (!(Builtin.Str.occurrences j i 0 j.length 1).isEmpty) = c) ∨
    (∃ p xs, y = .ref p ∧ (SqL X.K H p xs ∨ SqT X.K H p xs) ∧ flatV x = true ∧ xs.all flatV = true ∧ inV x xs = c) ∨
    (∃ (z : Str) (d : Addr) (l : List (Str × Int)), x = .str z ∧ y = .ref d ∧ S.kds.lookup d = some l ∧ (l.lookup z).isSome = c) ∨
    (∃ a o, y = .ref a ∧ DGet H a x o ∧ o.isSome = c) := by
  have sq : ∀ {ds : List D} {us : List V}, VRs X.K Z ρ H ds us → inSeq a ds = some c → flatV x = true ∧ us.all flatV = true ∧ inV x us = c := by
    intro ds us r h
    unfold inSeq at h
    cases e1 : scalD a with
    | none => rw [e1] at h; simp at h
    | some v =>
      cases e2 : scalDs ds with
      | none => rw [e1, e2] at h; simp at h
      | some vs =>
        rw [e1, e2] at h
        simp at h
        have q1 := scalD_eq e1 ra
        have q2 := scalDs_eq e2 r
        subst q1; subst q2
        exact ⟨flat_scal e1, flat_scals e2, h⟩
  unfold inM at h
  split at h
  · rename_i i z
    simp only [VR] at ra rb
    subst ra; subst rb
    split at h
    · rename_i k e
      simp at h
      exact .inl ⟨k, z, by rw [str1 e], rfl, by simpa using h⟩
    · simp only [Option.some.injEq] at h
      exact .inr (.inl ⟨_, _, rfl, rfl, h⟩)
  · simp only [VR] at rb
    obtain ⟨p, us, rfl, p1, p2⟩ := rb
    obtain ⟨h1, h2, h3⟩ := sq p2 h
    exact .inr (.inr (.inl ⟨p, us, rfl, .inr p1, h1, h2, h3⟩))
  · simp only [VR] at rb
    obtain ⟨p, us, rfl, _, _, p1, p2⟩ := rb
    obtain ⟨h1, h2, h3⟩ := sq p2 h
    exact .inr (.inr (.inl ⟨p, us, rfl, .inl (.inl (.inl p1)), h1, h2, h3⟩))
  · simp only [VR] at ra rb
    subst ra; subst rb
    simp only [Option.map_eq_some_iff] at h
    obtain ⟨l, h1, h2⟩ := h
    exact .inr (.inr (.inr (.inl ⟨_, _, l, rfl, rfl, h1, h2⟩)))
  · simp only [VR] at ra rb
    subst ra
    obtain ⟨p, us, rfl, _, _, p1, hl, p2⟩ := rb
    simp only [Option.some.injEq] at h
    exact .inr (.inr (.inr (.inr ⟨p, _, rfl, .inl ⟨_, Sum.inr _, .inl p1, rfl, rfl⟩, by rw [any_key hl]; exact h⟩)))
  · simp only [VR] at ra rb
    subst ra
    obtain ⟨p, us, rfl, _, _, p1, hl, p2⟩ := rb
    simp only [Option.some.injEq] at h
    exact .inr (.inr (.inr (.inr ⟨p, _, rfl, .inl ⟨_, Sum.inl _, .inl p1, rfl, rfl⟩, by rw [any_key hl]; exact h⟩)))
  · cases h
theorem blR_some {E : Exn → AH → List Addr → Hp → Prop} {Q : VK} {o : Option Bool} (R : Rel X.K Z ρ H T A) (h : RG X.K T Z ρ H (PQ X.K Z Q) E (blR A o)) : ∃ c, o = some c ∧ Q (.bl c) H := by
  cases o with
  | none => exact absurd h id
  | some c => exact ⟨c, rfl, rg_scal R h (by simp only [VR])⟩
theorem cmp_O (hu : X.A.units + 64 < cLine) (so : SOk S X.K X.w) (op : CmpOp) : OpR X (compareOp op) (rD2 X.K T Z (cmpO S op)) := by
  have hu1 : X.A.units + 1 < cLine := by omega
  cases op
  case Eq =>
    refine OpR.weak (OpR.or op_eq (op_eqD hu)) ?_
    rintro x y H Q ⟨a, b, A, ρ, E, ra, rb, R, ne, h⟩
    obtain ⟨c, e, q⟩ := blR_some R h
    rcases eq_rule (Q := Q) (E := E) ra rb e with ⟨e1, e2⟩ | ⟨p, r, e1, e2, e3, e4, e5⟩
    · exact .inl ⟨e1, by rw [e2]; exact q⟩
    · exact .inr ⟨p, r, e1, e2, e3, e4, by rw [e5]; exact q⟩
  case NotEq =>
    refine OpR.weak (OpR.or op_ne (op_neD hu)) ?_
    rintro x y H Q ⟨a, b, A, ρ, E, ra, rb, R, ne, h⟩
    obtain ⟨c, e, q⟩ := blR_some R h
    simp only [cmpM, Option.map_eq_some_iff] at e
    obtain ⟨c, e, rfl⟩ := e
    rcases eq_rule (Q := Q) (E := E) ra rb e with ⟨e1, e2⟩ | ⟨p, r, e1, e2, e3, e4, e5⟩
    · exact .inl ⟨e1, by rw [e2]; exact q⟩
    · exact .inr ⟨p, r, e1, e2, e3, e4, by rw [e5]; exact q⟩
  case Lt =>
    refine OpR.weak (OpR.or op_lt op_lt_str) ?_
    rintro x y H Q ⟨a, b, A, ρ, E, ra, rb, R, ne, h⟩
    obtain ⟨c, e, q⟩ := blR_some R h
    simp only [cmpM] at e
    cases a <;> cases b <;> simp only [ltM] at e <;> (try cases e) <;> simp only [VR] at ra rb
    · exact .inl ⟨_, _, ra, rb, q⟩
    · exact .inr ⟨_, _, ra, rb, q⟩
  case LtE =>
    refine OpR.weak op_le ?_
    rintro x y H Q ⟨a, b, A, ρ, E, ra, rb, R, ne, h⟩
    obtain ⟨c, e, q⟩ := blR_some R h
    simp only [cmpM] at e
    cases a <;> cases b <;> simp only [leM] at e <;> (try cases e) <;> simp only [VR] at ra rb
    exact ⟨_, _, ra, rb, q⟩
  case Gt =>
    refine OpR.weak (OpR.or op_gt op_gt_str) ?_
    rintro x y H Q ⟨a, b, A, ρ, E, ra, rb, R, ne, h⟩
    obtain ⟨c, e, q⟩ := blR_some R h
    simp only [cmpM] at e
    cases a <;> cases b <;> simp only [ltM] at e <;> (try cases e) <;> simp only [VR] at ra rb
    · exact .inl ⟨_, _, ra, rb, q⟩
    · exact .inr ⟨_, _, ra, rb, q⟩
  case GtE =>
    refine OpR.weak op_ge ?_
    rintro x y H Q ⟨a, b, A, ρ, E, ra, rb, R, ne, h⟩
    obtain ⟨c, e, q⟩ := blR_some R h
    simp only [cmpM] at e
    cases a <;> cases b <;> simp only [leM] at e <;> (try cases e) <;> simp only [VR] at ra rb
    exact ⟨_, _, ra, rb, q⟩
  case Is =>
    refine OpR.weak (OpR.or op_isN op_is_bl) ?_
    rintro x y H Q ⟨a, b, A, ρ, E, ra, rb, R, ne, h⟩
    obtain ⟨c, e, q⟩ := blR_some R h
    simp only [cmpM] at e
    unfold isM at e
    split at e
    · simp only [VR] at rb
      simp only [Option.some.injEq] at e
      exact .inl ⟨rb, by rw [isNon_iff ra, e]; exact q⟩
    · simp only [VR] at ra rb
      simp only [Option.some.injEq] at e
      exact .inr ⟨_, _, ra, rb, by rw [e]; exact q⟩
    · cases e
  case IsNot =>
    refine OpR.weak (OpR.or op_notN op_isnot_bl) ?_
    rintro x y H Q ⟨a, b, A, ρ, E, ra, rb, R, ne, h⟩
    obtain ⟨c, e, q⟩ := blR_some R h
    simp only [cmpM, Option.map_eq_some_iff] at e
    obtain ⟨c, e, rfl⟩ := e
    unfold isM at e
    split at e
    · simp only [VR] at rb
      simp only [Option.some.injEq] at e
      exact .inl ⟨rb, by rw [isNon_iff ra, e]; exact q⟩
    · simp only [VR] at ra rb
      simp only [Option.some.injEq] at e
      exact .inr ⟨_, _, ra, rb, by rw [e]; exact q⟩
    · cases e
  case In =>
    refine OpR.weak (OpR.or (OpR.or (OpR.or (OpR.or op_in_sign op_in_str) op_in_seq) (op_inKD so)) (op_dIn hu1)) ?_
    rintro x y H Q ⟨a, b, A, ρ, E, ra, rb, R, ne, h⟩
    obtain ⟨c, e, q⟩ := blR_some R h
    simp only [cmpM] at e
    rcases in_rule (Q := Q) ra rb e with ⟨k, z, e1, e2, e3⟩ | ⟨i, j, e1, e2, e3⟩ | ⟨p, xs, e1, e2, e3, e4, e5⟩ | ⟨z, d, l, e1, e2, e3, e4⟩ | ⟨p, o, e1, e2, e3⟩
    · exact .inl (.inl (.inl (.inl ⟨k, z, e1, e2, by rw [e3]; exact q⟩)))
    · exact .inl (.inl (.inl (.inr ⟨i, j, e1, e2, by rw [e3]; exact q⟩)))
    · exact .inl (.inl (.inr ⟨p, xs, e1, e2, e3, e4, by rw [e5]; exact q⟩))
    · exact .inl (.inr ⟨z, d, l, e1, e2, e3, by rw [e4]; exact q⟩)
    · exact .inr ⟨p, o, e1, e2, by rw [e3]; exact q⟩
  case NotIn =>
    refine OpR.weak (OpR.or (OpR.or (OpR.or (OpR.or op_notIn_sign op_notin_str) op_notIn_seq) (op_notInKD so)) (op_dNotIn hu1)) ?_
    rintro x y H Q ⟨a, b, A, ρ, E, ra, rb, R, ne, h⟩
    obtain ⟨c, e, q⟩ := blR_some R h
    simp only [cmpM, Option.map_eq_some_iff] at e
    obtain ⟨c, e, rfl⟩ := e
    rcases in_rule (Q := Q) ra rb e with ⟨k, z, e1, e2, e3⟩ | ⟨i, j, e1, e2, e3⟩ | ⟨p, xs, e1, e2, e3, e4, e5⟩ | ⟨z, d, l, e1, e2, e3, e4⟩ | ⟨p, o, e1, e2, e3⟩
    · exact .inl (.inl (.inl (.inl ⟨k, z, e1, e2, by rw [e3]; exact q⟩)))
    · exact .inl (.inl (.inl (.inr ⟨i, j, e1, e2, by rw [e3]; exact q⟩)))
    · exact .inl (.inl (.inr ⟨p, xs, e1, e2, e3, e4, by rw [e5]; exact q⟩))
    · exact .inl (.inr ⟨z, d, l, e1, e2, e3, by rw [e4]; exact q⟩)
    · exact .inr ⟨p, o, e1, e2, by rw [e3]; exact q⟩
end
end M
end
/-! ## M5 -/
section
set_option linter.all false
set_option maxRecDepth 100000
set_option maxHeartbeats 4000000
/-! Layer M, part 5: places, slices, truth, built-in functions and methods. -/
namespace M
open PySem L2
/-! ### places -/
def lookK : List Key → List D → Key → Option D
  | k :: ks, d :: ds, z => if k = z then some d else lookK ks ds z
  | _, _, _ => none
def optR (A : AH) : Option D → Res D
  | some d => .ok d A
  | none => .stuck
def ixV (S : Stat) (A : AH) : D → D → Option D
  | .lst ds, .int i => atI ds i
  | .fls ds, .int i => atI ds i
  | .tup ds, .int i => atI ds i
  | .obj k, .int i => match A[k]? with
    | some (.lst ds) => atI ds i
    | _ => none
  | .str z, .int i => if z.length ≤ sizeLine then (atI z.cps.toList i).map fun c => .str ⟨#[c]⟩ else none
  | .dic ks ds, .str x => lookK ks ds (.inr x)
  | .dic ks ds, .int x => lookK ks ds (.inl x)
  | .con d, .str x => (S.kds.lookup d).bind fun l => (l.lookup x).map .int
  | _, _ => none
def ixM (S : Stat) (a b : D) (A : AH) : Res D := optR A (ixV S A a b)
section
variable {X : Cx} {T : List (Addr × Str)} {Z Z' : List Addr} {ρ ρ' : List Addr} {H H' : Hp} {A A' : AH} {d a b : D} {v : V} {S : Stat}
theorem atI_VRs {K : PySem.W.Frag} {ds : List D} {vs : List V} {i : Int} {d : D} (h : VRs K Z ρ H ds vs) (e : atI ds i = some d) : ∃ v, atI vs i = some v ∧ VR K Z ρ H d v := by
  unfold atI at e ⊢
  rw [VRs.length h]
  cases q : ixN ds.length i with
  | none => rw [q] at e; cases e
  | some j =>
    rw [q] at e
    exact VRs.get h e
theorem lookK_VRs {K : PySem.W.Frag} : ∀ {ks : List Key} {ds : List D} {vs : List V} {z : Key} {d : D}, VRs K Z ρ H ds vs → lookK ks ds z = some d → ∃ v, valV (ks.zip vs) z = some v ∧ VR K Z ρ H d v
  | [], _, _, _, _, _, e => by simp [lookK] at e
  | k :: ks, [], _, _, _, _, e => by simp [lookK] at e
  | k :: ks, d0 :: ds, vs, z, d, h, e => by
    simp only [VRs] at h
    obtain ⟨v, r, rfl, h2, h3⟩ := h
    simp only [lookK] at e
    simp only [valV, List.zip_cons_cons, List.find?_cons]
    by_cases q : k = z
    · rw [if_pos q] at e
      cases e
      exact ⟨v, by simp [q], h2⟩
    · rw [if_neg q] at e
      rw [decide_eq_false q]
      exact lookK_VRs h3 e
theorem ix_D (hu : X.A.units + 1 < cLine) : IxR X (fun x y H Q => ∃ a v, x = .ref a ∧ DGet H a y (some v) ∧ Q v H) := by
  intro value slice pins s σ H x y v u Q I rx ry ⟨a, w, ex, g, q⟩ hs
  subst ex
  obtain rfl : v = Value.ref a := rx
  exact PyProof.Rows.tail_any (dict_typeIs I g) PySem.F.slot_dict_getitem.lookup (d_getItem hu I g ry fun w' s3 I3 rw' => ⟨w, H, I3, rw', q⟩) hs
theorem optR_some {E : Exn → AH → List Addr → Hp → Prop} {Q : VK} {o : Option D} (R : Rel X.K Z ρ H T A) (h : RG X.K T Z ρ H (PQ X.K Z Q) E (optR A o)) : ∃ d, o = some d ∧ ∀ v, VR X.K Z ρ H d v → Q v H := by
  cases o with
  | none => exact absurd h id
  | some c => exact ⟨c, rfl, fun v q => rg_scal R h q⟩
theorem ix_M (hu : X.A.units + 1 < cLine) (so : SOk S X.K X.w) : IxR X (rD2 X.K T Z (ixM S)) := by
  have base : IxR X (fun x y H Q => (rIx X.K x y H Q ∨ (∃ a v, x = .ref a ∧ DGet H a y (some v) ∧ Q v H)) ∨ rIxD X.K X.w x y H Q) := IxR.or (IxR.or ix_seq (ix_D hu)) ix_kdict
  intro value slice pins s σ H x y v u Q I rx ry h hs
  refine base value slice pins s σ H x y v u Q I rx ry ?_ hs
  obtain ⟨a, b, A, ρ, E, ra, rb, R, ne, h⟩ := h
  obtain ⟨d, e, q⟩ := optR_some R h
  unfold ixV at e
  split at e
  · simp only [VR] at ra rb
    obtain ⟨p, us, rfl, _, _, p1, p2⟩ := ra
    obtain ⟨w, e1, e2⟩ := atI_VRs p2 e
    exact .inl (.inl (.inl ⟨p, us, _, w, rfl, rb, SqL.of p1, e1, q w e2⟩))
  · simp only [VR] at ra rb
    obtain ⟨p, us, o, rfl, _, p1, p2⟩ := ra
    obtain ⟨w, e1, e2⟩ := atI_VRs p2 e
    exact .inl (.inl (.inl ⟨p, us, _, w, rfl, rb, .inl (.inr ⟨o, p1⟩), e1, q w e2⟩))
  · simp only [VR] at ra rb
    obtain ⟨p, us, rfl, p1, p2⟩ := ra
    obtain ⟨w, e1, e2⟩ := atI_VRs p2 e
    exact .inl (.inl (.inr (.inl ⟨p, us, _, w, rfl, rb, p1, e1, q w e2⟩)))
  · simp only [VR] at ra rb
    obtain ⟨p, h1, rfl⟩ := ra
    split at e
    · rename_i ds hA
      obtain ⟨p', us, h2, h3, h4⟩ := R.getL hA
      have : p' = p := Option.some.inj (h2.symm.trans h1)
      subst this
      obtain ⟨w, e1, e2⟩ := atI_VRs h4 e
      exact .inl (.inl (.inl ⟨p', us, _, w, rfl, rb, SqL.of h3, e1, q w e2⟩))
    · cases e
  · simp only [VR] at ra rb
    split at e
    · rename_i hl
      simp only [Option.map_eq_some_iff] at e
      obtain ⟨c, e1, rfl⟩ := e
      exact .inl (.inl (.inr (.inr ⟨_, _, c, ra, rb, hl, e1, q _ (by simp only [VR])⟩)))
    · cases e
  · simp only [VR] at ra rb
    obtain ⟨p, us, rfl, _, _, p1, hl, p2⟩ := ra
    obtain ⟨w, e1, e2⟩ := lookK_VRs p2 e
    exact .inl (.inr ⟨p, w, rfl, .inl ⟨_, Sum.inr _, .inl p1, rb, e1.symm⟩, q w e2⟩)
  · simp only [VR] at ra rb
    obtain ⟨p, us, rfl, _, _, p1, hl, p2⟩ := ra
    obtain ⟨w, e1, e2⟩ := lookK_VRs p2 e
    exact .inl (.inr ⟨p, w, rfl, .inl ⟨_, Sum.inl _, .inl p1, rb, e1.symm⟩, q w e2⟩)
  · simp only [VR] at ra rb
    simp only [Option.bind_eq_some_iff, Option.map_eq_some_iff] at e
    obtain ⟨l, e1, i, e2, rfl⟩ := e
    obtain ⟨⟨es, n, kd⟩, g⟩ := so.kd _ l e1
    rename_i x0
    rcases g x0 with ⟨g1, g2⟩ | ⟨i', u0, g1, g2, g3⟩
    · rw [g1] at e2; cases e2
    · rw [g1] at e2; cases e2
      exact .inr ⟨_, _, _, ra, rb, ⟨es, n, u0, kd.at_, kd.lit, g2, g3⟩, q _ (by simp only [VR])⟩
  · cases e
/-! ### slices -/
def cutD {α : Type} (xs : List α) (lo hi : Option Int) : List α := (xs.drop (HT.sIx xs.length 0 lo)).take (HT.sIx xs.length xs.length hi - HT.sIx xs.length 0 lo)
def slV (A : AH) (a : D) (lo hi : Option Int) : Option D :=
  match a with
  | .tup ds => some (.tup (cutD ds lo hi))
  | .lst ds => some (.lst (cutD ds lo hi))
  | .fls ds => some (.lst (cutD ds lo hi))
  | .obj k => match A[k]? with
    | some (.lst ds) => some (.lst (cutD ds lo hi))
    | _ => none
  | .str z => if z.length ≤ sizeLine then some (.str (cutS z lo hi)) else none
  | _ => none
theorem VRs.cut {K : PySem.W.Frag} {ds : List D} {vs : List V} {lo hi : Option Int} (h : VRs K Z ρ H ds vs) : VRs K Z ρ H (cutD ds lo hi) (cutV vs lo hi) := by
  unfold cutD cutV
  rw [VRs.length h]
  exact VRs.take _ (VRs.drop _ h)
theorem sl_M : SlR X (fun x lo hi H Q => ∃ a A ρ E, VR X.K Z ρ H a x ∧ Rel X.K Z ρ H T A ∧ RG X.K T Z ρ H (PQ X.K Z Q) E (optR A (slV A a lo hi))) := by
  have base := SlR.or (SlR.or (sl_tupA (X := X)) sl_list) sl_str
  intro pins s σ H x v vl vu lo hi sl Q I rx hs hl hh h
  refine base pins s σ H x v vl vu lo hi sl Q I rx hs hl hh ?_
  obtain ⟨a, A, ρ, E, ra, R, h⟩ := h
  obtain ⟨d, e, q⟩ := optR_some R h
  unfold slV at e
  split at e
  · simp only [VR] at ra
    obtain ⟨p, us, rfl, p1, p2⟩ := ra
    simp only [Option.some.injEq] at e
    subst e
    rename_i ds
    refine .inl (.inl ⟨p, us, rfl, p1, fun z => ?_, fun z r hr => rg_tup R h (VRs.cut p2) hr⟩)
    refine q _ ?_
    rw [VRs.length p2] at z
    have e1 : cutD ds lo hi = ds := by
      unfold cutD
      rw [z.1, z.2]
      simp
    rw [e1]
    simp only [VR]
    exact ⟨p, us, rfl, p1, p2⟩
  · simp only [VR] at ra
    obtain ⟨p, us, rfl, _, _, p1, p2⟩ := ra
    simp only [Option.some.injEq] at e
    subst e
    exact .inl (.inr ⟨p, us, rfl, SqL.of p1, fun r hr => rg_lst R h (VRs.cut p2) hr⟩)
  · simp only [VR] at ra
    obtain ⟨p, us, o, rfl, _, p1, p2⟩ := ra
    simp only [Option.some.injEq] at e
    subst e
    exact .inl (.inr ⟨p, us, rfl, .inl (.inr ⟨o, p1⟩), fun r hr => rg_lst R h (VRs.cut p2) hr⟩)
  · simp only [VR] at ra
    obtain ⟨p, h1, rfl⟩ := ra
    split at e
    · rename_i ds hA
      obtain ⟨p', us, h2, h3, h4⟩ := R.getL hA
      have : p' = p := Option.some.inj (h2.symm.trans h1)
      subst this
      simp only [Option.some.injEq] at e
      subst e
      exact .inl (.inr ⟨p', us, rfl, SqL.of h3, fun r hr => rg_lst R (by simpa [optR, slV, hA] using h) (VRs.cut h4) hr⟩)
    · cases e
  · simp only [VR] at ra
    split at e
    · rename_i hz
      simp only [Option.some.injEq] at e
      subst e
      exact .inr ⟨_, ra, hz, q _ (by simp only [VR])⟩
    · cases e
  · cases e
/-! ### truth -/
def truM (A : AH) : D → Option Bool
  | .non => some false
  | .bl b => some b
  | .int i => some (i != 0)
  | .str y => if y.length ≤ sizeLine then some ((y.length : Int) != 0) else none
  | .lst ds => some (!ds.isEmpty)
  | .fls ds => some (!ds.isEmpty)
  | .tup ds => some (!ds.isEmpty)
  | .obj k => match A[k]? with
    | some (.lst ds) => some (!ds.isEmpty)
    | _ => none
  | _ => none
theorem empty_VRs {K : PySem.W.Frag} {ds : List D} {vs : List V} (h : VRs K Z ρ H ds vs) : vs.isEmpty = ds.isEmpty := by
  have := VRs.length h
  cases ds <;> cases vs <;> simp at this <;> rfl
theorem tru_M {K : PySem.W.Frag} {x : V} {k : Bool} (R : Rel K Z ρ H T A) (ra : VR K Z ρ H a x) (h : truM A a = some k) : TruV K x H k := by
  unfold truM at h
  split at h
  · simp only [VR] at ra; simp only [Option.some.injEq] at h; subst ra; exact h.symm
  · simp only [VR] at ra; simp only [Option.some.injEq] at h; subst ra; exact h.symm
  · simp only [VR] at ra; simp only [Option.some.injEq] at h; subst ra; exact h.symm
  · simp only [VR] at ra
    subst ra
    split at h
    · simp only [Option.some.injEq] at h; exact ⟨‹_›, h.symm⟩
    · cases h
  · simp only [VR] at ra
    obtain ⟨p, us, rfl, _, _, p1, p2⟩ := ra
    simp only [Option.some.injEq] at h
    exact .inl ⟨us, SqL.of p1, by rw [empty_VRs p2]; exact h.symm⟩
  · simp only [VR] at ra
    obtain ⟨p, us, o, rfl, _, p1, p2⟩ := ra
    simp only [Option.some.injEq] at h
    exact .inl ⟨us, .inl (.inr ⟨o, p1⟩), by rw [empty_VRs p2]; exact h.symm⟩
  · simp only [VR] at ra
    obtain ⟨p, us, rfl, p1, p2⟩ := ra
    simp only [Option.some.injEq] at h
    exact .inr (.inl ⟨us, p1, by rw [empty_VRs p2]; exact h.symm⟩)
  · simp only [VR] at ra
    obtain ⟨p, h1, rfl⟩ := ra
    split at h
    · rename_i ds hA
      obtain ⟨p', us, h2, h3, h4⟩ := R.getL hA
      have : p' = p := Option.some.inj (h2.symm.trans h1)
      subst this
      simp only [Option.some.injEq] at h
      exact .inl ⟨us, SqL.of h3, by rw [empty_VRs h4]; exact h.symm⟩
    · cases h
  · cases h
/-! ### built-in functions -/
inductive B where
  | len | isi | max | min | int | str | tuple | list | all | any
deriving DecidableEq
def tyD (A : AH) : D → Option String
  | .non => some "NoneType"
  | .bl _ => some "bool"
  | .int _ => some "int"
  | .str _ => some "str"
  | .tup _ => some "tuple"
  | .lst _ => some "list"
  | .fls _ => some "list"
  | .dic _ _ => some "dict"
  | .obj k => match A[k]? with
    | some (.lst _) => some "list"
    | _ => none
  | _ => none
def isiB (t n : String) : Option Bool :=
  if (t == "NoneType" || t == "bool" || t == "int" || t == "str" || t == "tuple" || t == "list" || t == "dict") && (n == "bool" || n == "int" || n == "str" || n == "tuple" || n == "list" || n == "dict") then
    some (t == n || (t == "bool" && n == "int"))
  else none
theorem isiB_kit {t n : String} {b : Bool} (h : isiB t n = some b) : kitB t n = some b := by
  unfold isiB at h
  split at h
  · rename_i c
    simp only [Bool.and_eq_true, Bool.or_eq_true, beq_iff_eq] at c
    simp only [Option.some.injEq] at h
    subst h
    obtain ⟨c1, c2⟩ := c
    rcases c1 with (((((rfl | rfl) | rfl) | rfl) | rfl) | rfl) | rfl <;> rcases c2 with ((((rfl | rfl) | rfl) | rfl) | rfl) | rfl <;> decide +kernel
  · cases h
def blDs : List D → Option (List Bool)
  | [] => some []
  | .bl b :: ds => (blDs ds).map (b :: ·)
  | _ => none
def strDs : List D → Option (List Str)
  | [] => some []
  | .str b :: ds => (strDs ds).map (b :: ·)
  | _ => none
theorem blDs_eq {K : PySem.W.Frag} : ∀ {ds : List D} {bs : List Bool} {us : List V}, blDs ds = some bs → VRs K Z ρ H ds us → us = bs.map V.bl
  | [], bs, us, h, r => by simp only [blDs, Option.some.injEq] at h; simp only [VRs] at r; rw [r, ← h]; rfl
  | d :: ds, bs, us, h, r => by
    simp only [VRs] at r
    obtain ⟨v, s, rfl, r1, r2⟩ := r
    cases d <;> simp only [blDs] at h <;> try (cases h)
    simp only [Option.map_eq_some_iff] at h
    obtain ⟨l, h1, rfl⟩ := h
    simp only [VR] at r1
    rw [r1, blDs_eq h1 r2]; rfl
theorem strDs_eq {K : PySem.W.Frag} : ∀ {ds : List D} {bs : List Str} {us : List V}, strDs ds = some bs → VRs K Z ρ H ds us → us = bs.map V.str
  | [], bs, us, h, r => by simp only [strDs, Option.some.injEq] at h; simp only [VRs] at r; rw [r, ← h]; rfl
  | d :: ds, bs, us, h, r => by
    simp only [VRs] at r
    obtain ⟨v, s, rfl, r1, r2⟩ := r
    cases d <;> simp only [strDs] at h <;> try (cases h)
    simp only [Option.map_eq_some_iff] at h
    obtain ⟨l, h1, rfl⟩ := h
    simp only [VR] at r1
    rw [r1, strDs_eq h1 r2]; rfl
def lenD (A : AH) : D → Option Nat
  | .lst ds => some ds.length
  | .fls ds => some ds.length
  | .tup ds => some ds.length
  | .str z => if z.length ≤ sizeLine then some z.length else none
  | .obj k => match A[k]? with
    | some (.lst ds) => some ds.length
    | _ => none
  | _ => none
def biV (A : AH) : B → List D → Option D
  | .len, [d] => (lenD A d).map fun (n : Nat) => D.int (n : Int)
  | .isi, [d, .ty n] => (tyD A d).bind fun t => (isiB t n).map .bl
  | .max, [.int i, .int j] => some (.int (if j > i then j else i))
  | .min, [.int i, .int j] => some (.int (if j < i then j else i))
  | .int, [.int i] => some (.int i)
  | .int, [.bl k] => some (.int (if k then 1 else 0))
  | .int, [.str a] => if a.length ≤ 640 then (PySem.intText? a).map .int else none
  | .str, [.int i] => if i.natAbs.log2 < 1920 then some (.str (toString i)) else none
  | .str, [.str a] => some (.str a)
  | .tuple, [.tup ds] => some (.tup ds)
  | .tuple, [.lst ds] => some (.tup ds)
  | .list, [.tup ds] => some (.lst ds)
  | .list, [.lst ds] => some (.lst ds)
  | .list, [.fls ds] => some (.lst ds)
  | .all, [.lst ds] => (blDs ds).map fun bs => .bl (bs.all id)
  | .any, [.lst ds] => (blDs ds).map fun bs => .bl (bs.any id)
  | _, _ => none
def biM (f : B) (ds : List D) (A : AH) : Res D := optR A (biV A f ds)
end
end M
end
/-! ## M6 -/
section
set_option linter.all false
set_option maxRecDepth 100000
set_option maxHeartbeats 4000000
/-! Layer M, part 6: the rules of built-in functions and methods. -/
namespace M
open PySem L2
def rDL (K : PySem.W.Frag) (T : List (Addr × Str)) (Z : List Addr) (f : List D → AH → Res D) : List V → Hp → VK → Prop := fun xs H Q =>
  ∃ ds A ρ E, VRs K Z ρ H ds xs ∧ Rel K Z ρ H T A ∧ RG K T Z ρ H (PQ K Z Q) E (f ds A)
theorem CallR.weak {X : Cx} {f : Value} {r r' : List V → Hp → VK → Prop} (h : CallR X f r) (i : ∀ xs H Q, r' xs H Q → r xs H Q) : CallR X f r' :=
  fun pins s σ H xs us Q I rv q => h pins s σ H xs us Q I rv (i xs H Q q)
theorem MtR.weak {X : Cx} {f : String} {r r' : V → List V → Hp → VK → Prop} (h : MtR X f r) (i : ∀ x xs H Q, r' x xs H Q → r x xs H Q) : MtR X f r' :=
  fun pins s σ H x xs v us Q I rx rv q => h pins s σ H x xs v us Q I rx rv (i x xs H Q q)
section
variable {X : Cx} {T : List (Addr × Str)} {Z Z' : List Addr} {ρ ρ' : List Addr} {H H' : Hp} {A A' : AH} {d a b : D} {v : V} {S : Stat}
theorem VRs.one {K : PySem.W.Frag} {d : D} {xs : List V} (h : VRs K Z ρ H [d] xs) : ∃ v, xs = [v] ∧ VR K Z ρ H d v := by
  simp only [VRs] at h
  obtain ⟨v, r, rfl, h1, rfl⟩ := h
  exact ⟨v, rfl, h1⟩
theorem VRs.two {K : PySem.W.Frag} {d e : D} {xs : List V} (h : VRs K Z ρ H [d, e] xs) : ∃ v u, xs = [v, u] ∧ VR K Z ρ H d v ∧ VR K Z ρ H e u := by
  simp only [VRs] at h
  obtain ⟨v, r, rfl, h1, u, r2, rfl, h2, rfl⟩ := h
  exact ⟨v, u, rfl, h1, h2⟩
theorem bi_len : CallR X (.builtin "len") (rDL X.K T Z (biM .len)) := by
  refine CallR.weak call_len ?_
  rintro xs H Q ⟨ds, A, ρ, E, rs, R, h⟩
  obtain ⟨d, e, q⟩ := optR_some R h
  match ds, e with
  | [d0], e =>
    obtain ⟨x, rfl, r⟩ := rs.one
    simp only [biV, Option.map_eq_some_iff] at e
    obtain ⟨n, e9, rfl⟩ := e
    refine ⟨x, n, rfl, ?_, q _ (by simp only [VR])⟩
    unfold lenD at e9
    split at e9
    · simp only [VR] at r
      obtain ⟨p, us, rfl, _, _, p1, p2⟩ := r
      simp only [Option.some.injEq] at e9
      exact .inl ⟨us, SqL.of p1, by rw [← e9, VRs.length p2]⟩
    · simp only [VR] at r
      obtain ⟨p, us, o, rfl, _, p1, p2⟩ := r
      simp only [Option.some.injEq] at e9
      exact .inl ⟨us, .inl (.inr ⟨o, p1⟩), by rw [← e9, VRs.length p2]⟩
    · simp only [VR] at r
      obtain ⟨p, us, rfl, p1, p2⟩ := r
      simp only [Option.some.injEq] at e9
      exact .inr ⟨us, p1, by rw [← e9, VRs.length p2]⟩
    · simp only [VR] at r
      subst r
      split at e9
      · simp only [Option.some.injEq] at e9
        exact ⟨‹_›, e9.symm⟩
      · cases e9
    · simp only [VR] at r
      obtain ⟨p, h1, rfl⟩ := r
      split at e9
      · rename_i ds hA
        obtain ⟨p', us, h2, h3, h4⟩ := R.getL hA
        have : p' = p := Option.some.inj (h2.symm.trans h1)
        subst this
        simp only [Option.some.injEq] at e9
        exact .inl ⟨us, SqL.of h3, by rw [← e9, VRs.length h4]⟩
      · cases e9
    · cases e9
  | [], e => simp [biV] at e
  | _ :: _ :: _, e => simp [biV] at e
theorem ty_M {K : PySem.W.Frag} {x : V} {t : String} (R : Rel K Z ρ H T A) (ra : VR K Z ρ H a x) (h : tyD A a = some t) : TyX K H x (.type t) := by
  unfold tyD at h
  split at h
  · simp only [VR] at ra; simp only [Option.some.injEq] at h; subst ra; subst h; exact .base .non
  · simp only [VR] at ra; simp only [Option.some.injEq] at h; subst ra; subst h; exact .base (.bl _)
  · simp only [VR] at ra; simp only [Option.some.injEq] at h; subst ra; subst h; exact .base (.int _)
  · simp only [VR] at ra; simp only [Option.some.injEq] at h; subst ra; subst h; exact .base (.str _)
  · simp only [VR] at ra
    obtain ⟨p, us, rfl, p1, p2⟩ := ra
    simp only [Option.some.injEq] at h
    subst h
    rcases p1 with (p1 | ⟨o, p1⟩) | ⟨o, its, n, p1, p2, _⟩
    · exact .base (.tup p1)
    · exact .fTuple p1
    · exact .kTuple p1 p2
  · simp only [VR] at ra
    obtain ⟨p, us, rfl, _, _, p1, p2⟩ := ra
    simp only [Option.some.injEq] at h
    subst h
    exact .base (.lst p1)
  · simp only [VR] at ra
    obtain ⟨p, us, o, rfl, _, p1, p2⟩ := ra
    simp only [Option.some.injEq] at h
    subst h
    exact .base (.frz p1)
  · simp only [VR] at ra
    obtain ⟨p, us, rfl, _, _, p1, p2⟩ := ra
    simp only [Option.some.injEq] at h
    subst h
    exact .base (.dK p1)
  · simp only [VR] at ra
    obtain ⟨p, h1, rfl⟩ := ra
    split at h
    · rename_i ds hA
      obtain ⟨p', us, h2, h3, h4⟩ := R.getL hA
      have : p' = p := Option.some.inj (h2.symm.trans h1)
      subst this
      simp only [Option.some.injEq] at h
      subst h
      exact .base (.lst h3)
    · cases h
  · cases h
theorem bi_isi : CallR X (.builtin "isinstance") (rDL X.K T Z (biM .isi)) := by
  refine CallR.weak call_isi ?_
  rintro xs H Q ⟨ds, A, ρ, E, rs, R, h⟩
  obtain ⟨d, e, q⟩ := optR_some R h
  unfold biV at e
  split at e <;> (try cases ‹B.isi = _›) <;> (try cases e)
  obtain ⟨x, y, rfl, r1, r2⟩ := rs.two
  simp only [VR] at r2
  subst r2
  simp only [Option.bind_eq_some_iff, Option.map_eq_some_iff] at e
  obtain ⟨t, e1, b, e2, rfl⟩ := e
  exact ⟨x, _, _, _, b, rfl, .ty _, ty_M R r1 e1, kit_ty (isiB_kit e2), q _ (by simp only [VR])⟩
theorem bi_max (hc : X.calm = true) : CallR X (.builtin "max") (rDL X.K T Z (biM .max)) := by
  refine CallR.weak (call_max2 hc) ?_
  rintro xs H Q ⟨ds, A, ρ, E, rs, R, h⟩
  obtain ⟨d, e, q⟩ := optR_some R h
  unfold biV at e
  split at e <;> (try cases ‹B.max = _›) <;> (try cases e)
  obtain ⟨x, y, rfl, r1, r2⟩ := rs.two
  simp only [VR] at r1 r2
  subst r1; subst r2
  exact ⟨_, _, rfl, q _ (by simp only [VR])⟩
theorem bi_min (hc : X.calm = true) : CallR X (.builtin "min") (rDL X.K T Z (biM .min)) := by
  refine CallR.weak (call_min2 hc) ?_
  rintro xs H Q ⟨ds, A, ρ, E, rs, R, h⟩
  obtain ⟨d, e, q⟩ := optR_some R h
  unfold biV at e
  split at e <;> (try cases ‹B.min = _›) <;> (try cases e)
  obtain ⟨x, y, rfl, r1, r2⟩ := rs.two
  simp only [VR] at r1 r2
  subst r1; subst r2
  exact ⟨_, _, rfl, q _ (by simp only [VR])⟩
theorem bi_int : CallR X (.type "int") (rDL X.K T Z (biM .int)) := by
  refine CallR.weak (CallR.or call_int1 call_int_str) ?_
  rintro xs H Q ⟨ds, A, ρ, E, rs, R, h⟩
  obtain ⟨d, e, q⟩ := optR_some R h
  unfold biV at e
  split at e <;> (try cases ‹B.int = _›) <;> (try cases e)
  · obtain ⟨x, rfl, r1⟩ := rs.one
    simp only [VR] at r1
    subst r1
    exact .inl (.inl ⟨_, rfl, q _ (by simp only [VR])⟩)
  · obtain ⟨x, rfl, r1⟩ := rs.one
    simp only [VR] at r1
    subst r1
    exact .inl (.inr ⟨_, rfl, q _ (by simp only [VR])⟩)
  · obtain ⟨x, rfl, r1⟩ := rs.one
    simp only [VR] at r1
    subst r1
    split at e
    · simp only [Option.map_eq_some_iff] at e
      obtain ⟨n, e, rfl⟩ := e
      exact .inr ⟨_, n, rfl, e, ‹_›, q _ (by simp only [VR])⟩
    · cases e
theorem bi_str : CallR X (.type "str") (rDL X.K T Z (biM .str)) := by
  refine CallR.weak (CallR.or call_str_int SkE.call_str_str) ?_
  rintro xs H Q ⟨ds, A, ρ, E, rs, R, h⟩
  obtain ⟨d, e, q⟩ := optR_some R h
  unfold biV at e
  split at e <;> (try cases ‹B.str = _›) <;> (try cases e)
  · obtain ⟨x, rfl, r1⟩ := rs.one
    simp only [VR] at r1
    subst r1
    split at e
    · simp only [Option.some.injEq] at e
      subst e
      exact .inl ⟨_, rfl, ‹_›, q _ (by simp only [VR])⟩
    · cases e
  · obtain ⟨x, rfl, r1⟩ := rs.one
    simp only [VR] at r1
    subst r1
    exact .inr ⟨_, rfl, q _ (by simp only [VR])⟩
theorem bi_tuple : CallR X (.type "tuple") (rDL X.K T Z (biM .tuple)) := by
  refine CallR.weak call_tuple_of ?_
  rintro xs H Q ⟨ds, A, ρ, E, rs, R, h⟩
  obtain ⟨d, e, q⟩ := optR_some R h
  have h' := h
  unfold biV at e
  split at e <;> (try cases ‹B.tuple = _›) <;> (try cases e)
  · obtain ⟨x, rfl, r1⟩ := rs.one
    have r0 := r1
    simp only [VR] at r1
    obtain ⟨p, us, rfl, p1, p2⟩ := r1
    exact ⟨p, us, rfl, .inr ⟨p1, q _ r0⟩⟩
  · obtain ⟨x, rfl, r1⟩ := rs.one
    simp only [VR] at r1
    obtain ⟨p, us, rfl, _, _, p1, p2⟩ := r1
    exact ⟨p, us, rfl, .inl ⟨SqL.of p1, fun r hr => rg_tup R h' p2 hr⟩⟩
theorem bi_list : CallR X (.type "list") (rDL X.K T Z (biM .list)) := by
  refine CallR.weak call_list_of ?_
  rintro xs H Q ⟨ds, A, ρ, E, rs, R, h⟩
  obtain ⟨d, e, q⟩ := optR_some R h
  have h' := h
  unfold biV at e
  split at e <;> (try cases ‹B.list = _›) <;> (try cases e)
  · obtain ⟨x, rfl, r1⟩ := rs.one
    simp only [VR] at r1
    obtain ⟨p, us, rfl, p1, p2⟩ := r1
    exact ⟨p, us, rfl, .inr p1, fun r hr => rg_lst R h' p2 hr⟩
  · obtain ⟨x, rfl, r1⟩ := rs.one
    simp only [VR] at r1
    obtain ⟨p, us, rfl, _, _, p1, p2⟩ := r1
    exact ⟨p, us, rfl, .inl (SqL.of p1), fun r hr => rg_lst R h' p2 hr⟩
  · obtain ⟨x, rfl, r1⟩ := rs.one
    simp only [VR] at r1
    obtain ⟨p, us, o, rfl, _, p1, p2⟩ := r1
    exact ⟨p, us, rfl, .inl (.inl (.inr ⟨o, p1⟩)), fun r hr => rg_lst R h' p2 hr⟩
theorem bi_all (hc : X.calm = true) : CallR X (.builtin "all") (rDL X.K T Z (biM .all)) := by
  refine CallR.weak (cr_all hc) ?_
  rintro xs H Q ⟨ds, A, ρ, E, rs, R, h⟩
  obtain ⟨d, e, q⟩ := optR_some R h
  unfold biV at e
  split at e <;> (try cases ‹B.all = _›) <;> (try cases e)
  obtain ⟨x, rfl, r1⟩ := rs.one
  simp only [VR] at r1
  obtain ⟨p, us, rfl, _, _, p1, p2⟩ := r1
  simp only [Option.map_eq_some_iff] at e
  obtain ⟨bs, e, rfl⟩ := e
  exact ⟨p, bs, rfl, SqL.of (by rw [← blDs_eq e p2]; exact p1), q _ (by simp only [VR])⟩
theorem bi_any (hc : X.calm = true) : CallR X (.builtin "any") (rDL X.K T Z (biM .any)) := by
  refine CallR.weak (cr_any hc) ?_
  rintro xs H Q ⟨ds, A, ρ, E, rs, R, h⟩
  obtain ⟨d, e, q⟩ := optR_some R h
  unfold biV at e
  split at e <;> (try cases ‹B.any = _›) <;> (try cases e)
  obtain ⟨x, rfl, r1⟩ := rs.one
  simp only [VR] at r1
  obtain ⟨p, us, rfl, _, _, p1, p2⟩ := r1
  simp only [Option.map_eq_some_iff] at e
  obtain ⟨bs, e, rfl⟩ := e
  exact ⟨p, bs, rfl, SqL.of (by rw [← blDs_eq e p2]; exact p1), q _ (by simp only [VR])⟩

/-! ### methods of built-in types -/
inductive Mth where
  | split | join | upper | get
deriving DecidableEq
def mtV (A : AH) : Mth → D → List D → Option D
  | .split, .str a, [.str b] => if (b.length == 0) = false ∧ a.length + 2 ≤ sizeLine then some (.lst ((Txt.split a b).map .str)) else none
  | .join, .str a, [.lst ds] => (strDs ds).bind fun ys => if (ys.map (·.length)).sum + ys.length * a.length ≤ 16777216 then some (.str (Txt.join a ys)) else none
  | .join, .str a, [.tup ds] => (strDs ds).bind fun ys => if (ys.map (·.length)).sum + ys.length * a.length ≤ 16777216 then some (.str (Txt.join a ys)) else none
  | .upper, .str a, [] => if a.length ≤ 5592405 then some (.str (Txt.upper a)) else none
  | .get, .dic ks ds, [.str x, d] => some ((lookK ks ds (.inr x)).getD d)
  | _, _, _ => none
def mtM (f : Mth) (a : D) (ds : List D) (A : AH) : Res D := optR A (mtV A f a ds)
def Mth.ty : Mth → String
  | .split => "str"
  | .join => "str"
  | .upper => "str"
  | .get => "dict"
/-- reading of a method call by values -/
def rDM (K : PySem.W.Frag) (T : List (Addr × Str)) (Z : List Addr) (f : D → List D → AH → Res D) : V → List V → Hp → VK → Prop := fun x xs H Q =>
  ∃ a ds A ρ E, VR K Z ρ H a x ∧ VRs K Z ρ H ds xs ∧ Rel K Z ρ H T A ∧ RG K T Z ρ H (PQ K Z Q) E (f a ds A)
/-- a receiver of the method's type -/
def rcv : Mth → D → Bool
  | .split, .str _ => true
  | .join, .str _ => true
  | .upper, .str _ => true
  | .get, .dic _ _ => true
  | _, _ => false
theorem rcv_ok {K : PySem.W.Frag} {f : Mth} {x : V} (h : rcv f a = true) (r : VR K Z ρ H a x) : tyV K f.ty x H := by
  unfold rcv at h
  split at h
  · simp only [VR] at r; subst r; rfl
  · simp only [VR] at r; subst r; rfl
  · simp only [VR] at r; subst r; rfl
  · simp only [VR] at r
    obtain ⟨p, us, rfl, _, _, p1, p2⟩ := r
    exact .inr (.inr (.inl ⟨rfl, .inl ⟨_, p1⟩⟩))
  · cases h
theorem strs_VRs {K : PySem.W.Frag} : ∀ (ys : List Str), VRs K Z ρ H (ys.map D.str) (ys.map V.str)
  | [] => VRs.nil
  | y :: ys => VRs.cons (by simp only [VR]) (strs_VRs ys)
theorem mt_split_M : MtR X "str.split" (rDM X.K T Z (mtM .split)) := by
  refine MtR.weak mt_split ?_
  rintro x xs H Q ⟨a, ds, A, ρ, E, rx, rs, R, h⟩
  obtain ⟨d, e, q⟩ := optR_some R h
  have h' := h
  unfold mtV at e
  split at e <;> (try cases ‹Mth.split = _›) <;> (try cases e)
  split at e
  · rename_i c
    obtain ⟨y, rfl, r1⟩ := rs.one
    simp only [VR] at rx r1
    subst rx; subst r1
    refine ⟨_, _, rfl, rfl, c.1, c.2, ?_⟩
    intro p hp
    refine rg_lst (E := E) R ?_ (strs_VRs _) hp
    simpa only [mtM, mtV, if_pos c, optR] using h'
  · cases e
theorem mt_upper_M : MtR X "str.upper" (rDM X.K T Z (mtM .upper)) := by
  refine MtR.weak mt_upper ?_
  rintro x xs H Q ⟨a, ds, A, ρ, E, rx, rs, R, h⟩
  obtain ⟨d, e, q⟩ := optR_some R h
  unfold mtV at e
  split at e <;> (try cases ‹Mth.upper = _›) <;> (try cases e)
  split at e
  · rename_i c
    simp only [VRs] at rs
    subst rs
    simp only [VR] at rx
    subst rx
    simp only [Option.some.injEq] at e
    subst e
    exact ⟨_, rfl, rfl, c, q _ (by simp only [VR])⟩
  · cases e
theorem mt_join_M : MtR X "str.join" (rDM X.K T Z (mtM .join)) := by
  refine MtR.weak mt_join ?_
  rintro x xs H Q ⟨a, ds, A, ρ, E, rx, rs, R, h⟩
  obtain ⟨d, e, q⟩ := optR_some R h
  unfold mtV at e
  split at e <;> (try cases ‹Mth.join = _›) <;> (try cases e)
  · simp only [Option.bind_eq_some_iff] at e
    obtain ⟨ys, e1, e⟩ := e
    split at e
    · rename_i c
      simp only [Option.some.injEq] at e
      subst e
      obtain ⟨y, rfl, r1⟩ := rs.one
      simp only [VR] at rx r1
      subst rx
      obtain ⟨p, us, rfl, _, _, p1, p2⟩ := r1
      exact ⟨_, p, ys, rfl, rfl, .inl (SqL.of (by rw [← strDs_eq e1 p2]; exact p1)), c, q _ (by simp only [VR])⟩
    · cases e
  · simp only [Option.bind_eq_some_iff] at e
    obtain ⟨ys, e1, e⟩ := e
    split at e
    · rename_i c
      simp only [Option.some.injEq] at e
      subst e
      obtain ⟨y, rfl, r1⟩ := rs.one
      simp only [VR] at rx r1
      subst rx
      obtain ⟨p, us, rfl, p1, p2⟩ := r1
      exact ⟨_, p, ys, rfl, rfl, .inr (by rw [← strDs_eq e1 p2]; exact p1), c, q _ (by simp only [VR])⟩
    · cases e
theorem lookK_valV {K : PySem.W.Frag} : ∀ {ks : List Key} {ds : List D} {vs : List V} {z : Key} {d : D} {v : V}, VRs K Z ρ H ds vs → VR K Z ρ H d v → VR K Z ρ H ((lookK ks ds z).getD d) ((valV (ks.zip vs) z).getD v)
  | [], _, _, _, _, _, _, g => by simpa [lookK, valV] using g
  | k :: ks, [], vs, z, d, v, h, g => by simp only [VRs] at h; subst h; simpa [lookK, valV] using g
  | k :: ks, d0 :: ds, vs, z, d, v, h, g => by
    simp only [VRs] at h
    obtain ⟨w, r, rfl, h2, h3⟩ := h
    simp only [lookK, valV, List.zip_cons_cons, List.find?_cons]
    by_cases q : k = z
    · rw [if_pos q]
      simpa [q] using h2
    · rw [if_neg q, decide_eq_false q]
      exact lookK_valV h3 g
theorem mt_get_M (hu : X.A.units + 1 < cLine) : MtR X "dict.get" (rDM X.K T Z (mtM .get)) := by
  intro pins s σ H x xs v us Q I rx rv h
  obtain ⟨a, ds, A, ρ, E, ra, rs, R, h⟩ := h
  obtain ⟨d, e, q⟩ := optR_some R h
  unfold mtV at e
  split at e <;> (try cases ‹Mth.get = _›) <;> (try cases e)
  obtain ⟨y, z, rfl, r1, r2⟩ := rs.two
  simp only [VR] at ra r1
  subst r1
  obtain ⟨p, ws, rfl, _, _, p1, hl, p2⟩ := ra
  obtain rfl : v = Value.ref p := rx
  cases rv with
  | cons ry rv =>
    cases rv with
    | cons rz rv =>
      cases rv
      exact d_get2 hu I (.inl ⟨_, Sum.inr _, .inl p1, rfl, rfl⟩) ry rz fun w' s' I' rw' => ⟨_, H, I', rw', q _ (lookK_valV p2 r2)⟩
end
end M
end
/-! ## M7 -/
section
set_option linter.all false
set_option maxRecDepth 100000
set_option maxHeartbeats 4000000
/-! Layer M, part 7: a plain interpreter of the language's part that the laws use. -/
namespace M
open PySem L2

/-- what a module's name stands for -/
inductive GV where
  | dat (d : D)
  | fn (np : Nat) (dl : List D)
  | cls (C : Addr) (init : Str) (np : Nat) (dl : List D)
  | exc (C : Addr) (w : Str)
/-- a method: its class, its key among the functions, how many parameters (self too), its defaults -/
structure MI where
  C : Addr
  key : Str
  np : Nat
  dl : List D
/-- the defs that call the lambda they get: told or refused; told owed; refused by a name and a thing -/
inductive LK where
  | heard | tells | refuses
structure Tab where
  gs : List (Str × GV)
  /-- defs that get a lambda -/
  lm : List (Str × LK)
  /-- the exception classes by their names -/
  xn : List (Addr × Str)
  ms : List (Str × List MI)
  /-- classes of instances, and their fields -/
  cs : List (Addr × List Str)
  S : Stat
  /-- in a def that makes lambdas: its code object, the table of these, their name -/
  la : Option (Addr × Addr × Str) := none
/-- the same, without the defs that get a lambda -/
def Tab.noLam (t : Tab) : Tab := { t with lm := [], la := none }
/-- where one stands: slots, the scope's names -/
structure Ga where
  N : List Str
  nk : List (Str × NameKind)
  /-- lists that are written here are things that change -/
  mu : Bool
  /-- within a comprehension -/
  blk : Bool
abbrev Fns := Str → List D → AH → Res D

def plainName (x : Str) : Bool := !(x == ("__debug__" : Str)) && !(x == ("__classdict__" : Str))
def slot (g : Ga) (x : Str) : Option Nat :=
  if plainName x then match g.nk.lookup x with
  | some .local => g.N.findIdx? (fun y => decide (y = x))
  | some .cell => g.N.findIdx? (fun y => decide (y = x))
  | some .free => g.N.findIdx? (fun y => decide (y = x))
  | _ => none
  else none
def slotS (g : Ga) (x : Str) : Option Nat :=
  match g.nk.lookup x with
  | some .local => g.N.findIdx? (fun y => decide (y = x))
  | some .cell => g.N.findIdx? (fun y => decide (y = x))
  | _ => none
def isGl (g : Ga) (x : Str) : Bool :=
  match g.nk.lookup x with
  | some .globalImplicit => true
  | _ => false
def tyNames : List (Str × String) := [("int", "int"), ("bool", "bool"), ("str", "str"), ("tuple", "tuple"), ("list", "list"), ("dict", "dict")]
def bNames : List (Str × B) := [("len", .len), ("isinstance", .isi), ("max", .max), ("min", .min), ("int", .int), ("str", .str), ("tuple", .tuple), ("list", .list), ("all", .all), ("any", .any)]
def mNames : List (Str × Mth) := [("split", .split), ("join", .join), ("upper", .upper), ("get", .get)]

/-! ### readings of expressions -/
def eK (d : D) : ME := fun _ A => .ok d A
def eStuck : ME := fun _ _ => .stuck
def eVar (i : Nat) : ME := fun L A => match L[i]? with
  | some (some d) => .ok d A
  | _ => .stuck
def e1 (a : ME) (f : D → AH → Res D) : ME := fun L A => (a L A).bind f
def e2 (a b : ME) (f : D → D → AH → Res D) : ME := fun L A => (a L A).bind fun x A1 => (b L A1).bind fun y A2 => f x y A2
def truR (A : AH) (d : D) : Res Bool := match truM A d with
  | some k => .ok k A
  | none => .stuck
def eNot (a : ME) : ME := e1 a fun x A => (truR A x).bind fun k A => .ok (.bl (!k)) A
def negM : D → AH → Res D
  | .int i, A => .ok (.int (-i)) A
  | _, _ => .stuck
def eIf (c : MT) (a b : ME) : ME := fun L A => (c L A).bind fun k A1 => if k then a L A1 else b L A1
/-- a or b or ..., by values -/
def eBool (f : Expr → ME) (op : BoolOp) : List Expr → ME
  | [] => eStuck
  | [a] => f a
  | a :: es => e1 (f a) (fun x A => .ok x A) |> fun m => fun L A => (m L A).bind fun x A1 => (truR A1 x).bind fun k A2 =>
      match op, k with
      | .Or, true => .ok x A2
      | .And, false => .ok x A2
      | _, _ => eBool f op es L A2
/-- a list of expressions, with * -/
def aE (f : Expr → ME) : List Expr → MA
  | [] => fun _ A => .ok [] A
  | .Starred e _ :: es => fun L A => (f e L A).bind fun x A1 => (match x with
      | .tup ds => (aE f es L A1).bind fun ys A2 => .ok (ds ++ ys) A2
      | .lst ds => (aE f es L A1).bind fun ys A2 => .ok (ds ++ ys) A2
      | _ => .stuck)
  | e :: es => fun L A => (f e L A).bind fun x A1 => (aE f es L A1).bind fun ys A2 => .ok (x :: ys) A2
def tupR (ds : List D) (A : AH) : Res D := if ds.length ≤ sizeLine then .ok (.tup ds) A else .stuck
def lstR (ds : List D) (A : AH) : Res D := if ds.length ≤ sizeLine then .ok (.lst ds) A else .stuck
/-- a new list that changes -/
def objR (ds : List D) (A : AH) : Res D := if ds.length ≤ sizeLine then .ok (.obj A.length) (A ++ [.lst ds]) else .stuck
def aR (m : MA) (f : List D → AH → Res D) : ME := fun L A => (m L A).bind f
/-- an optional part of a slice -/
def oE (f : Expr → ME) : Option Expr → Loc → AH → Res (Option Int)
  | none => fun _ A => .ok none A
  | some e => fun L A => (f e L A).bind fun x A1 => match x with
    | .int i => .ok (some i) A1
    | _ => .stuck
def eSl (a : ME) (lo hi : Loc → AH → Res (Option Int)) : ME := fun L A => (a L A).bind fun x A1 => (lo L A1).bind fun l A2 => (hi L A2).bind fun u A3 => optR A3 (slV A3 x l u)
def lookF : List (Str × D) → Str → Option D
  | [], _ => none
  | p :: ps, x => if x = p.1 then some p.2 else lookF ps x
def fldM (t : Tab) (f : Str) : D → AH → Res D
  | .obj k, A => match A[k]? with
    | some (.ins C fs) => (match t.cs.lookup C with
      | some names => if names.any (fun n => decide (n = f)) then optR A (lookF fs f) else .stuck
      | none => .stuck)
    | _ => .stuck
  | _, _ => .stuck
def noStar : Expr → Bool
  | .Starred .. => false
  | _ => true
def plainO : Expr → Bool
  | .Call (.Name _ _) [] [] _ => false
  | .Call (.Name _ _) _ _ _ => false
  | _ => true
def isSlice : Expr → Bool
  | .Slice .. => true
  | _ => false
def constStr : Option Expr → Option Str
  | some (.Constant (.str x) _ _) => some x
  | _ => none
def constStrs : List (Option Expr) → Option (List Str)
  | [] => some []
  | k :: ks => match constStr k, constStrs ks with
    | some x, some xs => some (x :: xs)
    | _, _ => none
/-- the items that are walked -/
def itemsM (x : D) (A : AH) : Res (List D) := match x with
  | .tup ds => .ok ds A
  | .lst ds => .ok ds A
  | .fls ds => .ok ds A
  | .str z => .ok (z.cps.toList.map fun c => .str ⟨#[c]⟩) A
  | _ => .stuck
def rangeL (lo : Int) (n : Nat) : List D := (List.range n).map fun i => .int (lo + (i : Nat))
def rng1 (x : D) (A : AH) : Res (List D) := match x with
  | .int j => if -(2 ^ 62) ≤ j ∧ j < 2 ^ 62 then .ok (rangeL 0 j.toNat) A else .stuck
  | _ => .stuck
def rng2 (x y : D) (A : AH) : Res (List D) := match x, y with
  | .int i, .int j => if -(2 ^ 62) ≤ i ∧ i < 2 ^ 62 ∧ -(2 ^ 62) ≤ j ∧ j < 2 ^ 62 then .ok (rangeL i (j - i).toNat) A else .stuck
  | _, _ => .stuck
def iE (t : Tab) (g : Ga) (f : Expr → ME) (e : Expr) : Loc → AH → Res (List D) :=
  let gen : Loc → AH → Res (List D) := fun L A => (f e L A).bind itemsM
  match e with
  | .Call (.Name x _) [a] [] _ => if x = "range" then (if isGl g x && (t.gs.lookup x).isNone && noStar a then fun L A => (f a L A).bind rng1 else fun _ _ => .stuck) else gen
  | .Call (.Name x _) [a, b] [] _ => if x = "range" then (if isGl g x && (t.gs.lookup x).isNone && noStar a && noStar b then fun L A => (f a L A).bind fun x A1 => (f b L A1).bind fun y A2 => rng2 x y A2 else fun _ _ => .stuck) else gen
  | .Set .. => fun _ _ => .stuck
  | _ => gen
/-- a target: names, or a tuple of names -/
def tgNames (g : Ga) : List Expr → List D → Loc → Option Loc
  | [], [], L => some L
  | .Name x _ :: es, d :: ds, L => match slotS g x with
    | some i => tgNames g es ds (L.set i (some d))
    | none => none
  | _, _, _ => none
def tgM (g : Ga) : Expr → D → Loc → Option Loc
  | .Name x _, d, L => match slotS g x with
    | some i => some (L.set i (some d))
    | none => none
  | .Tuple es _ _, .tup ds, L => tgNames g es ds L
  | _, _, _ => none
/-- the names that a comprehension owns, with their slots -/
def ownOf (g : Ga) (sc : Scope) : List (Str × Nat) :=
  sc.names.filterMap fun p => match p.2 with
    | .local => (g.N.findIdx? (fun y => decide (y = p.1))).map fun i => (p.1, i)
    | .cell => (g.N.findIdx? (fun y => decide (y = p.1))).map fun i => (p.1, i)
    | _ => none
def wipeL (L : Loc) : List Nat → Loc
  | [] => L
  | i :: is => (wipeL L is).set i none
/-- the walk of a comprehension -/
def lcGo (x : Bool) (tg : D → Loc → Option Loc) (tt : MT) (te : ME) (L : Loc) : List D → List D → AH → Res D
  | [], acc, A => .ok (.lst acc) A
  | d :: xs, acc, A => match tg d L with
    | none => .stuck
    | some L1 => match tt L1 A with
      | .ok true A1 => (match te L1 A1 with
        | .ok y A2 => if acc.length < sizeLine then lcGo x tg tt te L xs (acc ++ [y]) A2 else .stuck
        | .exc e A2 => if x then .exc e A2 else .stuck
        | .stuck => .stuck)
      | .ok false A1 => lcGo x tg tt te L xs acc A1
      | _ => .stuck
/-- all tests of a comprehension -/
def allT (f : Expr → MT) : List Expr → MT
  | [] => fun _ A => .ok true A
  | [e] => f e
  | _ => fun _ _ => .stuck
def tBool (f : Expr → MT) (op : BoolOp) : List Expr → MT
  | [] => fun _ _ => .stuck
  | [a] => f a
  | a :: es => fun L A => (f a L A).bind fun k A1 => match op, k with
      | .Or, true => .ok true A1
      | .And, false => .ok false A1
      | _, _ => tBool f op es L A1
def blT : Option Bool → AH → Res Bool
  | some c, A => .ok c A
  | none, _ => .stuck
def padN (np : Nat) (dl : List D) (n : Nat) : Option (List D) := if n ≤ np ∧ np - n ≤ dl.length then some (dl.drop (dl.length - (np - n))) else none
def argsOk (es : List Expr) : Bool := es.all noStar && decide (es.length < 25)

/-- a built-in function, of a written dict too -/
def biS (S : Stat) (b : B) (ds : List D) (A : AH) : Res D := match b, ds with
  | .tuple, [.con d] => (match S.kds.lookup d with
    | some l => .ok (.tup (l.map fun p => .str p.1)) A
    | none => .stuck)
  | b, ds => biM b ds A
/-- a call with just so many values -/
def callF (np : Nat) (F : List D → AH → Res D) (ds : List D) (A : AH) : Res D := if ds.length = np then F ds A else .stuck
/-- a call by a name -/
def callN (t : Tab) (g : Ga) (Φ : Fns) (f : Expr → ME) (x : Str) (es : List Expr) : ME :=
  if isGl g x && plainName x && argsOk es then
    match t.gs.lookup x with
    | some (.fn np dl) => (match padN np dl es.length with
      | some dvs => aR (aE f es) fun ds A => callF np (Φ x) (ds ++ dvs) A
      | none => eStuck)
    | some (.cls C init np dl) => (match padN np dl (es.length + 1) with
      | some dvs => aR (aE f es) fun ds A => (callF np (Φ init) (.obj A.length :: (ds ++ dvs)) (A ++ [.ins C []])).bind fun r A1 => match r with
        | .non => .ok (.obj A.length) A1
        | _ => .stuck
      | none => eStuck)
    | some _ => eStuck
    | none => match bNames.lookup x with
      | some b => if es.isEmpty then eStuck else aR (aE f es) (biS t.S b)
      | none => eStuck
  else eStuck
/-- the way of a method's call -/
def methGo (t : Tab) (m : Str) (C : Addr) (fs : List (Str × D)) (n : Nat) : Option (List D × MI) :=
  match t.ms.lookup m with
  | none => none
  | some l => match l.find? (fun i => decide (i.C = C)) with
    | none => none
    | some i => if (lookF fs m).isSome then none else match padN i.np i.dl (n + 1) with
      | none => none
      | some dvs => some (dvs, i)
def callM (t : Tab) (g : Ga) (Φ : Fns) (f : Expr → ME) (o : Expr) (m : Str) (apos pos : Pos) (es : List Expr) : ME :=
  if plainO o && argsOk es && (apos.endLine == pos.line) then
    fun L A => (f o L A).bind fun x A1 =>
      match x with
      | .obj k => (match A1[k]? with
        | some (.ins C fs) => (match methGo t m C fs es.length with
          | some (dvs, i) => (aE f es L A1).bind fun ds A2 => callF i.np (Φ i.key) (.obj k :: (ds ++ dvs)) A2
          | none => .stuck)
        | _ => .stuck)
      | _ => (match mNames.lookup m with
        | some b => if rcv b x then (aE f es L A1).bind fun ds A2 => mtM b x ds A2 else .stuck
        | none => .stuck)
  else eStuck

/-- what is heard of a deed -/
def heardR (t : Tab) : Res D → Res D
  | .ok d A => .ok (.tup [.str "told", d]) A
  | .exc e A => match t.xn.lookup e.cls with
    | some nm => .ok (.tup [.str nm, e.what]) A
    | none => .stuck
  | .stuck => .stuck
/-- x(lambda: .., es) : m what the lambda tells -/
def callL (t : Tab) (Φ : Fns) (f : Expr → ME) (m : ME) : LK → List Expr → ME
  | .heard, [] => fun L A => heardR t (m L A)
  | .tells, [a] => if noStar a then fun L A => (f a L A).bind fun o A1 => (heardR t (m L A1)).bind fun h A2 => callF 2 (Φ "_law_same") [h, .tup [.str "told", o]] A2 else eStuck
  | .refuses, [a, b] => if noStar a && noStar b then fun L A => (f a L A).bind fun o A1 => (f b L A1).bind fun u A2 => (heardR t (m L A2)).bind fun h A3 => callF 2 (Φ "_law_same") [h, .tup [o, u]] A3 else eStuck
  | _, _ => eStuck
mutual
def cE (t : Tab) (Φ : Fns) : Nat → Ga → Expr → ME
  | 0, _, _ => eStuck
  | n + 1, g, e =>
    match e with
    | .Constant (.int i) _ _ => eK (.int i)
    | .Constant (.bool b) _ _ => eK (.bl b)
    | .Constant .none _ _ => eK .non
    | .Constant (.str x) _ _ => eK (.str x)
    | .Name x _ => (match slot g x with
      | some i => eVar i
      | none => if isGl g x && plainName x then (match t.gs.lookup x with
          | some (.dat d) => eK d
          | some _ => eStuck
          | none => match tyNames.lookup x with
            | some T => eK (.ty T)
            | none => eStuck)
        else eStuck)
    | .BinOp a op b _ => e2 (cE t Φ n g a) (cE t Φ n g b) (opM op)
    | .UnaryOp .Not a _ => eNot (cE t Φ n g a)
    | .UnaryOp .USub a _ => e1 (cE t Φ n g a) negM
    | .BoolOp op es _ => eBool (cE t Φ n g) op es
    | .IfExp c a b _ => eIf (cT t Φ n g c) (cE t Φ n g a) (cE t Φ n g b)
    | .Compare a [op] [b] _ => if behindInMarks op b then eStuck else e2 (cE t Φ n g a) (cE t Φ n g b) (cmpO t.S op)
    | .Tuple es _ _ => aR (aE (cE t Φ n g) es) tupR
    | .List es _ => aR (aE (cE t Φ n g) es) lstR
    | .Dict keys values _ => (match constStrs keys with
      | some ks => if ks.Nodup ∧ ks.length = values.length ∧ ks ≠ [] ∧ ks.length ≤ 15 ∧ values.all noStar then aR (aE (cE t Φ n g) values) fun ds A => .ok (.dic (ks.map .inr) ds) A else eStuck
      | none => eStuck)
    | .Subscript a (.Slice lo hi none _) _ => eSl (cE t Φ n g a) (oE (cE t Φ n g) lo) (oE (cE t Φ n g) hi)
    | .Subscript a b _ => if isSlice b then eStuck else e2 (cE t Φ n g a) (cE t Φ n g b) (ixM t.S)
    | .Attribute o f _ => if plainO o then e1 (cE t Φ n g o) (fldM t f) else eStuck
    | .Call (.Name x _) (.Lambda ⟨[], [], none, [], [], none, []⟩ body lsc _ :: es) [] _ => if isGl g x && plainName x && !g.blk && t.la.isSome && LamX.lamSB ⟨.function, g.nk, false, false, []⟩ lsc then (match t.lm.lookup x with
        | some k => callL t Φ (cE t Φ n g) (cE t.noLam Φ n ⟨g.N, lsc.names, false, false⟩ body) k es
        | none => eStuck) else eStuck
    | .Call (.Name x _) es [] _ => callN t g Φ (cE t Φ n g) x es
    | .Call (.Attribute o m apos) es [] pos => callM t g Φ (cE t Φ n g) o m apos pos es
    | .ListComp elt [⟨tg, iter, ifs, 0⟩] sc _ =>
      let own := ownOf g sc
      let g' : Ga := ⟨g.N, sc.names, g.mu, true⟩
      if blkC g.N ⟨.function, g.nk, false, false, []⟩ sc own then
        fun L A => (iE t g (cE t Φ n g) iter L A).bind fun ds A1 => lcGo (!g.blk) (tgM g' tg) (allT (cT t Φ n g') ifs) (cE t Φ n g' elt) (wipeL L (own.map (·.2))) ds [] A1
      else eStuck
    | _ => eStuck
def cT (t : Tab) (Φ : Fns) : Nat → Ga → Expr → MT
  | 0, _, _ => fun _ _ => .stuck
  | n + 1, g, e =>
    match e with
    | .UnaryOp .Not a _ => fun L A => (cT t Φ n g a L A).bind fun k A1 => .ok (!k) A1
    | .BoolOp op es _ => tBool (cT t Φ n g) op es
    | .Compare a [op] [b] _ => if behindInMarks op b then fun _ _ => .stuck else fun L A => (cE t Φ n g a L A).bind fun x A1 => (cE t Φ n g b L A1).bind fun y A2 => blT (cmpM t.S op x y) A2
    | .Compare .. => fun _ _ => .stuck
    | .IfExp .. => fun _ _ => .stuck
    | e => fun L A => (cE t Φ n g e L A).bind fun x A1 => truR A1 x
end
end M
end
/-! ## M8 -/
section
set_option linter.all false
set_option maxRecDepth 100000
set_option maxHeartbeats 4000000
/-! Layer M, part 8: the interpreter's expressions hold (lists of expressions, choices, names). -/
namespace M
open PySem L2
/-- scalars and written things, as values -/
def sv : D → Option V
  | .non => some .non
  | .bl b => some (.bl b)
  | .int i => some (.int i)
  | .str x => some (.str x)
  | .ty n => some (.ty n)
  | .con a => some (.ref a)
  | _ => none
def svs : List D → Option (List V)
  | [] => some []
  | d :: ds => match sv d, svs ds with
    | some v, some vs => some (v :: vs)
    | _, _ => none
structure XOk0 (g : Ga) (X : Cx) : Prop where
  N : X.N = g.N
  nd : g.N.Nodup
  gl : ∀ x, g.nk.lookup x = some .globalImplicit → Gl X x
  loc : ∀ x, (g.nk.lookup x = some .local ∨ g.nk.lookup x = some .cell) → L2.Loc X.env.scope x ∧ (X.fn x = true ∨ X.env.scope.names.lookup x = some .local)
  free : ∀ x, g.nk.lookup x = some .free → Vis X.env.scope x
  cf : ∀ x, (g.nk.lookup x = some .cell ∨ g.nk.lookup x = some .free) → (X.env.scope.names.lookup x = some .cell ∨ X.env.scope.names.lookup x = some .free)
  stk : g.blk = false → X.stack = X.env :: X.outer ∧ X.env.frame = some X.env.locals
structure XOk (g : Ga) (X : Cx) : Prop extends XOk0 g X where
  calm : X.calm = true
instance {g : Ga} {X : Cx} : Coe (XOk g X) (XOk0 g X) := ⟨XOk.toXOk0⟩
/-- what a def of the plain kind F promises -/
def spM (K : PySem.W.Frag) (T : List (Addr × Str)) (np : Nat) (F : List D → AH → Res D) : Sp := fun vs H Q E =>
  ∃ Z ds A ρ, ds.length = np ∧ VRs K Z ρ H ds vs ∧ Rel K Z ρ H T A ∧ RG K T Z ρ H (PQ K Z Q) (EXK K Z E) (F ds A)
section
variable {X : Cx} {T : List (Addr × Str)} {Z Z' : List Addr} {ρ ρ' : List Addr} {H H' : Hp} {A A' : AH} {d a b : D} {v : V} {E : XK} {g : Ga} {σ : St} {Q : VK}
theorem sv_VR {K : PySem.W.Frag} {d : D} {v : V} (h : sv d = some v) : VR K Z ρ H d v := by
  cases d <;> simp [sv] at h <;> simp only [VR] <;> exact h.symm
theorem svs_VRs {K : PySem.W.Frag} : ∀ {ds : List D} {vs : List V}, svs ds = some vs → VRs K Z ρ H ds vs
  | [], vs, h => by simp only [svs, Option.some.injEq] at h; simp only [VRs]; exact h.symm
  | d :: ds, vs, h => by
    simp only [svs] at h
    cases e1 : sv d with
    | none => rw [e1] at h; simp at h
    | some x =>
      cases e2 : svs ds with
      | none => rw [e1, e2] at h; simp at h
      | some xs =>
        rw [e1, e2] at h
        simp at h
        rw [← h]
        exact VRs.cons (sv_VR e1) (svs_VRs e2)
theorem findIdx_at {N : List Str} {x : Str} {i : Nat} (h : N.findIdx? (fun y => decide (y = x)) = some i) : N[i]? = some x := by
  rw [List.findIdx?_eq_some_iff_getElem] at h
  obtain ⟨h1, h2, _⟩ := h
  rw [List.getElem?_eq_getElem h1]
  simpa using h2
theorem loc_vis {sc : Scope} {x : Str} (h : L2.Loc sc x) : Vis sc x := h.elim .inl fun h => .inr (.inl h)
theorem plain_ok {x : Str} (h : plainName x = true) : (x == ("__debug__" : Str)) = false ∧ (x == ("__classdict__" : Str)) = false := by
  unfold plainName at h
  rw [Bool.and_eq_true, Bool.not_eq_true', Bool.not_eq_true'] at h
  exact h
theorem slot_ok (xo : XOk0 g X) {x : Str} {i : Nat} (h : slot g x = some i) : X.N[i]? = some x ∧ Vis X.env.scope x ∧ plainName x = true := by
  unfold slot at h
  rw [xo.N]
  split at h
  · rename_i hp
    split at h
    · exact ⟨findIdx_at h, loc_vis (xo.loc x (.inl ‹_›)).1, hp⟩
    · exact ⟨findIdx_at h, loc_vis (xo.loc x (.inr ‹_›)).1, hp⟩
    · exact ⟨findIdx_at h, xo.free x ‹_›, hp⟩
    · cases h
  · cases h
theorem slotS_ok (xo : XOk0 g X) {x : Str} {i : Nat} (h : slotS g x = some i) : X.N[i]? = some x ∧ L2.Loc X.env.scope x ∧ (X.fn x = true ∨ X.env.scope.names.lookup x = some .local) := by
  unfold slotS at h
  rw [xo.N]
  split at h
  · exact ⟨findIdx_at h, xo.loc x (.inl ‹_›)⟩
  · exact ⟨findIdx_at h, xo.loc x (.inr ‹_›)⟩
  · cases h
theorem isGl_ok (xo : XOk0 g X) {x : Str} (h : isGl g x = true) : Gl X x := by
  unfold isGl at h
  split at h
  · exact xo.gl x ‹_›
  · cases h
/-! the ways on -/
theorem eM_of {m : ME} {L : M.Loc} (lr : LR X.K Z ρ H L σ) (R : Rel X.K Z ρ H T A) (h : RG X.K T Z ρ H (PQ X.K Z Q) (EXK X.K Z E) (m L A)) : eM X.K T Z E m σ H Q := ⟨L, A, ρ, lr, R, h⟩
theorem eM_1 {m : ME} {k : M.Loc → D → AH → Res D} {G : VK} (h : eM X.K T Z E (fun L A => (m L A).bind (k L)) σ H Q)
    (i : ∀ L x A1 ρ1 H1 v, LR X.K Z ρ1 H1 L σ → Rel X.K Z ρ1 H1 T A1 → VR X.K Z ρ1 H1 x v → RG X.K T Z ρ1 H1 (PQ X.K Z Q) (EXK X.K Z E) (k L x A1) → G v H1) : eM X.K T Z E m σ H G := by
  obtain ⟨L, A, ρ, lr, R, h⟩ := h
  exact ⟨L, A, ρ, lr, R, h.bind fun x A1 ρ1 H1 f R1 h1 v hv => i L x A1 ρ1 H1 v (lr.fut R f) R1 hv h1⟩
theorem eM_K {d : D} (h : eM X.K T Z E (eK d) σ H Q) {v : V} (hv : ∀ Z ρ H, VR X.K Z ρ H d v) : Q v H := by
  obtain ⟨L, A, ρ, lr, R, h⟩ := h
  exact rg_scal R h (hv _ _ _)
theorem pe_int_M {i : Int} {j : Nat} {p : Pos} : PE X (.Constant (.int i) j p) (eM X.K T Z E (eK (.int i))) := pe_weak pe_int fun σ H Q h => eM_K h fun _ _ _ => by simp only [VR]
theorem pe_bl_M {i : Bool} {j : Nat} {p : Pos} : PE X (.Constant (.bool i) j p) (eM X.K T Z E (eK (.bl i))) := pe_weak pe_bl fun σ H Q h => eM_K h fun _ _ _ => by simp only [VR]
theorem pe_non_M {j : Nat} {p : Pos} : PE X (.Constant .none j p) (eM X.K T Z E (eK .non)) := pe_weak pe_non fun σ H Q h => eM_K h fun _ _ _ => by simp only [VR]
theorem pe_str_M {x : Str} {j : Nat} {p : Pos} : PE X (.Constant (.str x) j p) (eM X.K T Z E (eK (.str x))) := pe_weak pe_str fun σ H Q h => eM_K h fun _ _ _ => by simp only [VR]
theorem pe_stuck_M {e : Expr} : PE X e (eM X.K T Z E eStuck) := pe_no fun σ H Q h => eM_stuck h
theorem pt_stuck_M {e : Expr} : PT X e (tM X.K T Z E fun _ _ => .stuck) := pt_no fun σ H Q h => tM_stuck h
theorem pe_var_M {x : Str} {i : Nat} {p : Pos} (xo : XOk0 g X) (h : slot g x = some i) : PE X (.Name x p) (eM X.K T Z E (eVar i)) := by
  obtain ⟨h1, h2, h3⟩ := slot_ok xo h
  refine pe_weak (pe_var h1 h2 (plain_ok h3).1 (plain_ok h3).2) fun σ H Q h => ?_
  obtain ⟨L, A, ρ, lr, R, h⟩ := h
  unfold eVar at h
  split at h
  · obtain ⟨v, e1, e2⟩ := lr.get ‹_›
    exact ⟨v, e1, rg_scal R h e2⟩
  · exact absurd h id
theorem pe_e2_op {a b : Expr} {ma mb : ME} {f : D → D → AH → Res D} {op : Operator} {pos : Pos} (ho : OpR X (binaryOp op) (rD2 X.K T Z f)) (hf : ∀ x y A e B, f x y A ≠ .exc e B) (ha : PE X a (eM X.K T Z E ma)) (hb : PE X b (eM X.K T Z E mb)) : PE X (.BinOp a op b pos) (eM X.K T Z E (e2 ma mb f)) :=
  pe_weak (pe_op ho ha hb) fun σ H Q h => eM_1 h fun L x A1 ρ1 H1 v lr R1 hv h1 => ⟨L, A1, ρ1, lr, R1, h1.bind fun y A2 ρ2 H2 f2 R2 h2 u hu => ⟨x, y, A2, ρ2, _, VR.fut R1 f2 _ hv, hu, R2, hf x y A2, h2⟩⟩
theorem cmpO_noexc (S : Stat) (op : CmpOp) (x y : D) (A : AH) : ∀ e B, cmpO S op x y A ≠ .exc e B := by
  intro e B
  unfold cmpO
  cases cmpM S op x y <;> intro h <;> cases h
theorem optR_noexc (o : Option D) (A : AH) : ∀ e B, optR A o ≠ .exc e B := by
  intro e B
  cases o <;> intro h <;> cases h
theorem pe_cmp_M {S : Stat} (hu : X.A.units + 64 < cLine) (so : SOk S X.K X.w) {a b : Expr} {ma mb : ME} {op : CmpOp} {pos : Pos} (hm : behindInMarks op b = false) (ha : PE X a (eM X.K T Z E ma)) (hb : PE X b (eM X.K T Z E mb)) : PE X (.Compare a [op] [b] pos) (eM X.K T Z E (e2 ma mb (cmpO S op))) :=
  pe_weak (pe_cmpR (cmp_O hu so op) ha hb hm) fun σ H Q h => eM_1 h fun L x A1 ρ1 H1 v lr R1 hv h1 => ⟨L, A1, ρ1, lr, R1, h1.bind fun y A2 ρ2 H2 f2 R2 h2 u hu => ⟨x, y, A2, ρ2, _, VR.fut R1 f2 _ hv, hu, R2, cmpO_noexc S op x y A2, h2⟩⟩
theorem pt_cmp_M {S : Stat} (hu : X.A.units + 64 < cLine) (so : SOk S X.K X.w) {a b : Expr} {ma mb : ME} {op : CmpOp} {pos : Pos} (hm : behindInMarks op b = false) (ha : PE X a (eM X.K T Z E ma)) (hb : PE X b (eM X.K T Z E mb)) :
    PT X (.Compare a [op] [b] pos) (tM X.K T Z E fun L A => (ma L A).bind fun x A1 => (mb L A1).bind fun y A2 => blT (cmpM S op x y) A2) := by
  refine pt_weak (pt_cmpR (cmp_O (T := T) (Z := Z) hu so op) ha hb hm) fun σ H Q h => ?_
  obtain ⟨L, A, ρ, lr, R, h⟩ := h
  refine ⟨L, A, ρ, lr, R, h.bind fun x A1 ρ1 H1 f1 R1 h1 v hv => ⟨L, A1, ρ1, lr.fut R f1, R1, h1.bind fun y A2 ρ2 H2 f2 R2 h2 u hu => ⟨x, y, A2, ρ2, fun _ _ _ _ => False, VR.fut R1 f2 _ hv, hu, R2, cmpO_noexc S op x y A2, ?_⟩⟩⟩
  unfold cmpO
  cases e : cmpM S op x y with
  | none => rw [e] at h2; exact h2
  | some c =>
    rw [e] at h2
    intro ρ3 H3 f3 R3 w hw
    simp only [VR] at hw
    exact ⟨c, hw, h2 ρ3 H3 f3 R3⟩
theorem truR_ok {K : PySem.W.Frag} {P : Bool → AH → List Addr → Hp → Prop} {F : Exn → AH → List Addr → Hp → Prop} {x : V} (R : Rel K Z ρ H T A) (hv : VR K Z ρ H d x) (h : RG K T Z ρ H P F (truR A d)) : ∃ k, TruV K x H k ∧ RG K T Z ρ H P F (.ok k A) := by
  unfold truR at h
  split at h
  · exact ⟨_, tru_M R hv ‹_›, h⟩
  · exact absurd h id
theorem pe_not_M {a : Expr} {ma : ME} {pos : Pos} (ha : PE X a (eM X.K T Z E ma)) : PE X (.UnaryOp .Not a pos) (eM X.K T Z E (eNot ma)) :=
  pe_weak (pe_notT ha) fun σ H Q h => eM_1 h fun L x A1 ρ1 H1 v lr R1 hv h1 => by
    obtain ⟨k, t1, h2⟩ := truR_ok R1 hv (h1.bind fun k A2 ρ2 H2 f2 R2 h2 => h2)
    refine ⟨k, t1, ?_⟩
    have h3 := RG.ok R1 h2
    exact rg_scal R1 h3 (by simp only [VR])
theorem un_neg_M : UnR X (unaryOp .USub) (fun x H Q => ∃ d A ρ E, VR X.K Z ρ H d x ∧ Rel X.K Z ρ H T A ∧ RG X.K T Z ρ H (PQ X.K Z Q) E (negM d A)) := by
  intro pins s σ H x v Q I rx h
  refine un_neg pins s σ H x v Q I rx ?_
  obtain ⟨d, A, ρ, F, hv, R, h⟩ := h
  unfold negM at h
  split at h
  · simp only [VR] at hv
    exact ⟨_, hv, rg_scal R h (by simp only [VR])⟩
  · exact absurd h id
theorem pe_neg_M {a : Expr} {ma : ME} {pos : Pos} (ha : PE X a (eM X.K T Z E ma)) : PE X (.UnaryOp .USub a pos) (eM X.K T Z E (e1 ma negM)) :=
  pe_weak (pe_un (un_neg_M (T := T) (Z := Z)) ha) fun σ H Q h => eM_1 h fun L x A1 ρ1 H1 v lr R1 hv h1 => ⟨x, A1, ρ1, _, hv, R1, h1⟩
theorem pe_if_M {c a b : Expr} {mc : MT} {ma mb : ME} {pos : Pos} (hc : PT X c (tM X.K T Z E mc)) (ha : PE X a (eM X.K T Z E ma)) (hb : PE X b (eM X.K T Z E mb)) : PE X (.IfExp c a b pos) (eM X.K T Z E (eIf mc ma mb)) :=
  pe_weak (pe_ifExp hc ha hb) fun σ H Q h => by
    obtain ⟨L, A, ρ, lr, R, h⟩ := h
    refine ⟨L, A, ρ, lr, R, h.bind fun k A1 ρ1 H1 f1 R1 h1 => ?_⟩
    cases k with
    | true => exact ⟨L, A1, ρ1, lr.fut R f1, R1, h1⟩
    | false => exact ⟨L, A1, ρ1, lr.fut R f1, R1, h1⟩
theorem pt_not_M {a : Expr} {ma : MT} {pos : Pos} (ha : PT X a (tM X.K T Z E ma)) : PT X (.UnaryOp .Not a pos) (tM X.K T Z E fun L A => (ma L A).bind fun k A1 => .ok (!k) A1) :=
  pt_weak (pt_not ha) fun σ H Q h => by
    obtain ⟨L, A, ρ, lr, R, h⟩ := h
    exact ⟨L, A, ρ, lr, R, h.bind fun k A1 ρ1 H1 f1 R1 h1 => RG.ok R1 h1⟩
theorem pt_tru_M {a : Expr} {ma : ME} (he : ∀ whole, PySem.isTrue a X.env whole = (do let v ← whole; standAt a.pos; holding [v] (truthy v))) (ha : PE X a (eM X.K T Z E ma)) : PT X a (tM X.K T Z E fun L A => (ma L A).bind fun x A1 => truR A1 x) :=
  pt_weak (pt_truth ha he) fun σ H Q h => by
    obtain ⟨L, A, ρ, lr, R, h⟩ := h
    refine ⟨L, A, ρ, lr, R, h.bind fun x A1 ρ1 H1 f1 R1 h1 v hv => ?_⟩
    obtain ⟨k, t1, h2⟩ := truR_ok R1 hv h1
    exact ⟨k, t1, RG.ok R1 h2⟩
theorem pe_bool_M {f : Expr → ME} (hf : ∀ e, PE X e (eM X.K T Z E (f e))) (op : BoolOp) (pos : Pos) : ∀ es, PE X (.BoolOp op es pos) (eM X.K T Z E (eBool f op es))
  | [] => pe_stuck_M
  | [a] => pe_one (hf a)
  | a :: b :: es => by
    have ih := pe_bool_M hf op pos (b :: es)
    cases op with
    | And =>
      refine pe_weak (pe_andT (hf a) ih) fun σ H Q h => ?_
      obtain ⟨L, A, ρ, lr, R, h⟩ := h
      simp only [eBool, e1] at h
      refine ⟨L, A, ρ, lr, R, (h.bind fun _ _ _ _ _ _ h => h).bind fun x A1 ρ1 H1 f1 R1 h1 v hv => ?_⟩
      have h1 := RG.ok R1 h1
      obtain ⟨k, t1, h2⟩ := truR_ok R1 hv (h1.bind fun _ _ _ _ _ _ h => h)
      refine ⟨k, t1, ?_⟩
      have h2 := RG.ok R1 h2
      cases k with
      | false => exact rg_scal R1 h2 hv
      | true => exact ⟨L, A1, ρ1, lr.fut R f1, R1, h2⟩
    | Or =>
      refine pe_weak (pe_orT (hf a) ih) fun σ H Q h => ?_
      obtain ⟨L, A, ρ, lr, R, h⟩ := h
      simp only [eBool, e1] at h
      refine ⟨L, A, ρ, lr, R, (h.bind fun _ _ _ _ _ _ h => h).bind fun x A1 ρ1 H1 f1 R1 h1 v hv => ?_⟩
      have h1 := RG.ok R1 h1
      obtain ⟨k, t1, h2⟩ := truR_ok R1 hv (h1.bind fun _ _ _ _ _ _ h => h)
      refine ⟨k, t1, ?_⟩
      have h2 := RG.ok R1 h2
      cases k with
      | true => exact rg_scal R1 h2 hv
      | false => exact ⟨L, A1, ρ1, lr.fut R f1, R1, h2⟩
theorem pw_bool_M {f : Expr → MT} (hf : ∀ e, PT X e (tM X.K T Z E (f e))) (op : BoolOp) (pos : Pos) : ∀ es, PW X (.BoolOp op es pos) (tM X.K T Z E (tBool f op es))
  | [] => ⟨fun wh pins s σ H Q I r => absurd r tM_stuck⟩
  | [a] => by
    cases op
    · exact pw_and1 (hf a)
    · exact pw_or1 (hf a)
  | a :: b :: es => by
    have ih := pw_bool_M hf op pos (b :: es)
    cases op with
    | And =>
      refine pw_weak (pw_and (hf a) ih) fun σ H Q h => ?_
      obtain ⟨L, A, ρ, lr, R, h⟩ := h
      simp only [tBool] at h
      refine ⟨L, A, ρ, lr, R, h.bind fun k A1 ρ1 H1 f1 R1 h1 => ?_⟩
      cases k with
      | false => exact RG.ok R1 h1
      | true => exact ⟨L, A1, ρ1, lr.fut R f1, R1, h1⟩
    | Or =>
      refine pw_weak (pw_or (hf a) ih) fun σ H Q h => ?_
      obtain ⟨L, A, ρ, lr, R, h⟩ := h
      simp only [tBool] at h
      refine ⟨L, A, ρ, lr, R, h.bind fun k A1 ρ1 H1 f1 R1 h1 => ?_⟩
      cases k with
      | true => exact RG.ok R1 h1
      | false => exact ⟨L, A1, ρ1, lr.fut R f1, R1, h1⟩
/-! lists of expressions -/
theorem star_one {e : Expr} {es : List Expr} {env : Env} (h : noStar e = true) : starEach (e :: es) env = (false, eval e env) :: starEach es env := by
  cases e <;> first | rfl | simp [noStar] at h
theorem star_none {env : Env} {pos : Pos} : ∀ {es : List Expr}, es.all noStar = true → ((backTo pos (starEach es env)).any (·.1)) = false
  | [], _ => rfl
  | e :: es, h => by
    rw [List.all_cons, Bool.and_eq_true] at h
    rw [star_one h.1]
    have ih := star_none (env := env) (pos := pos) h.2
    unfold backTo at ih ⊢
    rw [List.map_cons, List.any_cons, ih]
    rfl
theorem pa_M {f : Expr → ME} (hf : ∀ e, PE X e (eM X.K T Z E (f e))) : ∀ es, PA X es (aM X.K T Z E (aE f es))
  | [] => pa_weak pa_nil fun σ H Q h => by
    obtain ⟨L, A, ρ, lr, R, h⟩ := h
    exact RG.ok R h _ VRs.nil
  | e :: es => by
    have ih := pa_M hf es
    by_cases hn : noStar e = true
    · have hE : aE f (e :: es) = fun L A => (f e L A).bind fun x A1 => (aE f es L A1).bind fun ys A2 => .ok (x :: ys) A2 := by cases e <;> first | rfl | simp [noStar] at hn
      rw [hE]
      refine pa_weak (pa_cons (hf e) ih (star_one hn)) fun σ H Q h => ?_
      obtain ⟨L, A, ρ, lr, R, h⟩ := h
      refine ⟨L, A, ρ, lr, R, h.bind fun x A1 ρ1 H1 f1 R1 h1 v hv => ⟨L, A1, ρ1, lr.fut R f1, R1, h1.bind fun ys A2 ρ2 H2 f2 R2 h2 vs hvs => ?_⟩⟩
      exact RG.ok R2 h2 _ (VRs.cons (VR.fut R1 f2 _ hv) hvs)
    · cases e <;> first | (exact absurd rfl hn) | skip
      rename_i e p
      refine pa_weak (StX.pa_star (hf e) ih rfl) fun σ H Q h => ?_
      obtain ⟨L, A, ρ, lr, R, h⟩ := h
      simp only [aE] at h
      refine ⟨L, A, ρ, lr, R, h.bind fun x A1 ρ1 H1 f1 R1 h1 v hv => ?_⟩
      split at h1
      · simp only [VR] at hv
        obtain ⟨p, us, rfl, p1, p2⟩ := hv
        refine ⟨p, us, rfl, .inl p1, ⟨L, A1, ρ1, lr.fut R f1, R1, h1.bind fun ys A2 ρ2 H2 f2 R2 h2 vs hvs => ?_⟩⟩
        exact RG.ok R2 h2 _ (VRs.append (VRs.fut R1 f2 _ p2) hvs)
      · simp only [VR] at hv
        obtain ⟨p, us, rfl, _, _, p1, p2⟩ := hv
        refine ⟨p, us, rfl, .inr (SqL.of p1), ⟨L, A1, ρ1, lr.fut R f1, R1, h1.bind fun ys A2 ρ2 H2 f2 R2 h2 vs hvs => ?_⟩⟩
        exact RG.ok R2 h2 _ (VRs.append (VRs.fut R1 f2 _ p2) hvs)
      · exact absurd h1 id
theorem pe_tup_M {es : List Expr} {m : MA} {pos : Pos} {k : Nat} (h : PA X es (aM X.K T Z E m)) : PE X (.Tuple es k pos) (eM X.K T Z E (aR m tupR)) :=
  pe_weak (pe_tup h) fun σ H Q h => by
    obtain ⟨L, A, ρ, lr, R, h⟩ := h
    refine ⟨L, A, ρ, lr, R, h.bind fun ds A1 ρ1 H1 f1 R1 h1 vs hvs => ?_⟩
    unfold tupR at h1
    split at h1
    · exact ⟨by rw [VRs.length hvs]; assumption, fun p hp => rg_tup R1 h1 hvs hp⟩
    · exact absurd h1 id
theorem pe_lst_M {es : List Expr} {m : MA} {pos : Pos} (h : PA X es (aM X.K T Z E m)) : PE X (.List es pos) (eM X.K T Z E (aR m lstR)) :=
  pe_weak (pe_lst h) fun σ H Q h => by
    obtain ⟨L, A, ρ, lr, R, h⟩ := h
    refine ⟨L, A, ρ, lr, R, h.bind fun ds A1 ρ1 H1 f1 R1 h1 vs hvs => ?_⟩
    unfold lstR at h1
    split at h1
    · exact ⟨by rw [VRs.length hvs]; assumption, fun p hp => rg_lst R1 h1 hvs hp⟩
    · exact absurd h1 id
theorem pe_obj_M {es : List Expr} {m : MA} {pos : Pos} (h : PA X es (aM X.K T Z E m)) : PE X (.List es pos) (eM X.K T Z E (aR m objR)) :=
  pe_weak (pe_lst h) fun σ H Q h => by
    obtain ⟨L, A, ρ, lr, R, h⟩ := h
    refine ⟨L, A, ρ, lr, R, h.bind fun ds A1 ρ1 H1 f1 R1 h1 vs hvs => ?_⟩
    unfold objR at h1
    split at h1
    · refine ⟨by rw [VRs.length hvs]; assumption, fun p hp => ?_⟩
      have f2 : Fut ρ1 H1 (ρ1 ++ [p]) (upd H1 p (.lst vs)) := Fut.push hp
      refine h1 (ρ1 ++ [p]) _ f2 (R1.push hp ⟨vs, upd_same, VRs.fut R1 f2 _ hvs⟩) _ ?_
      simp only [VR]
      exact ⟨p, by rw [← R1.len]; simp, rfl⟩
    · exact absurd h1 id
theorem pe_ix_M {S : Stat} (hu : X.A.units + 1 < cLine) (so : SOk S X.K X.w) {a b : Expr} {ma mb : ME} {pos : Pos} (hs : isSlice b = false) (ha : PE X a (eM X.K T Z E ma)) (hb : PE X b (eM X.K T Z E mb)) : PE X (.Subscript a b pos) (eM X.K T Z E (e2 ma mb (ixM S))) :=
  pe_weak (pe_ix (ix_M hu so) ha hb (fun o i => by cases b <;> first | rfl | simp [isSlice] at hs)) fun σ H Q h => eM_1 h fun L x A1 ρ1 H1 v lr R1 hv h1 => ⟨L, A1, ρ1, lr, R1, h1.bind fun y A2 ρ2 H2 f2 R2 h2 u hu => ⟨x, y, A2, ρ2, _, VR.fut R1 f2 _ hv, hu, R2, optR_noexc _ _, h2⟩⟩
/-- readings of a slice's part -/
def oM (K : PySem.W.Frag) (T : List (Addr × Str)) (Z : List Addr) (E : XK) (m : M.Loc → AH → Res (Option Int)) : TO := fun σ H Q =>
  ∃ L A ρ, LR K Z ρ H L σ ∧ Rel K Z ρ H T A ∧ RG K T Z ρ H (fun o _ _ H' => Q o H') (EXK K Z E) (m L A)
theorem po_weak {o : Option Expr} {t t' : TO} (h : PO X o t) (i : ∀ σ H Q, t' σ H Q → t σ H Q) : PO X o t' := ⟨fun pins s σ H Q I r => h.run pins s σ H Q I (i σ H Q r)⟩
theorem po_M {f : Expr → ME} (hf : ∀ e, PE X e (eM X.K T Z E (f e))) : ∀ o, PO X o (oM X.K T Z E (oE f o))
  | none => po_weak po_none fun σ H Q h => by
    obtain ⟨L, A, ρ, lr, R, h⟩ := h
    exact RG.ok R h
  | some e => po_weak (po_some (hf e)) fun σ H Q h => by
    obtain ⟨L, A, ρ, lr, R, h⟩ := h
    refine ⟨L, A, ρ, lr, R, RG.bind h fun x A1 ρ1 H1 f1 R1 h1 v hv => ?_⟩
    split at h1
    · simp only [VR] at hv
      exact ⟨_, hv, RG.ok R1 h1⟩
    · exact absurd h1 id
theorem pe_sl_M {a : Expr} {ma : ME} {lo hi : Option Expr} {ml mh : M.Loc → AH → Res (Option Int)} {pos p2 : Pos} (ha : PE X a (eM X.K T Z E ma)) (hl : PO X lo (oM X.K T Z E ml)) (hh : PO X hi (oM X.K T Z E mh)) : PE X (.Subscript a (.Slice lo hi none p2) pos) (eM X.K T Z E (eSl ma ml mh)) :=
  pe_weak (pe_slice (sl_M (T := T) (Z := Z)) ha hl hh) fun σ H Q h => eM_1 h fun L x A1 ρ1 H1 v lr R1 hv h1 =>
    ⟨L, A1, ρ1, lr, R1, h1.bind fun l A2 ρ2 H2 f2 R2 h2 => ⟨L, A2, ρ2, lr.fut R1 f2, R2, h2.bind fun u A3 ρ3 H3 f3 R3 h3 => ⟨x, A3, ρ3, _, VR.fut R2 f3 _ (VR.fut R1 f2 _ hv), R3, h3⟩⟩⟩
end
end M
end
/-! ## M9 -/
section
set_option linter.all false
set_option maxRecDepth 100000
set_option maxHeartbeats 4000000
/-! Layer M, part 9: targets, what is walked, comprehensions. -/
namespace M
open PySem L2
section
variable {X : Cx} {T : List (Addr × Str)} {Z Z' : List Addr} {ρ ρ' : List Addr} {H H' : Hp} {A A' : AH} {d a b : D} {v : V} {E : XK} {g : Ga} {σ : St} {Q : VK} {K : PySem.W.Frag}
/-! ### a hidden list changes -/
/-- what may be under way: a list, a dict -/
def HidO (o : HO) : Prop := (∃ xs, o = .lst xs) ∨ ∃ ks, o = .dK ks
theorem HidO.tup {o : HO} (h : HidO o) {xs : List V} (e : o = .tup xs) : False := by
  rcases h with ⟨_, rfl⟩ | ⟨_, rfl⟩ <;> cases e
theorem HidO.frz {o : HO} (h : HidO o) {u : Obj} {x : HO} (e : o = .frz u x) : False := by
  rcases h with ⟨_, rfl⟩ | ⟨_, rfl⟩ <;> cases e
theorem sqt_mod {p q : Addr} {xs : List V} {o0 o1 : HO} (h : H p = some o0) (ho : HidO o0) (s : SqT K H q xs) : SqT K (upd H p o1) q xs := by
  rcases s with (s | ⟨o, s⟩) | s
  · exact .inl (.inl (by rw [upd_ne (fun e => by rw [e, h] at s; exact ho.tup (Option.some.inj s))]; exact s))
  · exact .inl (.inr ⟨o, by rw [upd_ne (fun e => by rw [e, h] at s; exact ho.frz (Option.some.inj s))]; exact s⟩)
  · exact .inr s
mutual
theorem VR.mod {p : Addr} {o0 o1 : HO} (h : H p = some o0) (ho : HidO o0) (hz : p ∈ Z) : ∀ (d : D) {v : V}, VR K Z ρ H d v → VR K Z ρ (upd H p o1) d v
  | .non, _, h => by simpa [VR] using h
  | .bl _, _, h => by simpa [VR] using h
  | .int _, _, h => by simpa [VR] using h
  | .str _, _, h => by simpa [VR] using h
  | .ty _, _, h => by simpa [VR] using h
  | .con _, _, h => by simpa [VR] using h
  | .obj i, _, h => by simpa [VR] using h
  | .tup ds, _, r => by
    simp only [VR] at r ⊢
    obtain ⟨a, vs, h1, h2, h3⟩ := r
    exact ⟨a, vs, h1, sqt_mod h ho h2, VRs.mod h ho hz ds h3⟩
  | .lst ds, _, r => by
    simp only [VR] at r ⊢
    obtain ⟨a, vs, h1, n, n2, h2, h3⟩ := r
    exact ⟨a, vs, h1, n, n2, by rw [upd_ne (fun e => n2 (by rw [e]; exact hz))]; exact h2, VRs.mod h ho hz ds h3⟩
  | .fls ds, _, r => by
    simp only [VR] at r ⊢
    obtain ⟨a, vs, o, h1, n, h2, h3⟩ := r
    exact ⟨a, vs, o, h1, n, by rw [upd_ne (fun e => by rw [e, h] at h2; exact ho.frz (Option.some.inj h2))]; exact h2, VRs.mod h ho hz ds h3⟩
  | .dic ks ds, _, r => by
    simp only [VR] at r ⊢
    obtain ⟨a, vs, h1, n, n2, h2, hl, h3⟩ := r
    exact ⟨a, vs, h1, n, n2, by rw [upd_ne (fun e => n2 (by rw [e]; exact hz))]; exact h2, hl, VRs.mod h ho hz ds h3⟩
theorem VRs.mod {p : Addr} {o0 o1 : HO} (h : H p = some o0) (ho : HidO o0) (hz : p ∈ Z) : ∀ (ds : List D) {vs : List V}, VRs K Z ρ H ds vs → VRs K Z ρ (upd H p o1) ds vs
  | [], _, h => by simpa [VRs] using h
  | d :: ds, _, r => by
    simp only [VRs] at r ⊢
    obtain ⟨v, r, h1, h2, h3⟩ := r
    exact ⟨v, r, h1, VR.mod h ho hz d h2, VRs.mod h ho hz ds h3⟩
end
theorem FR.mod {p : Addr} {o0 o1 : HO} (h : H p = some o0) (ho : HidO o0) (hz : p ∈ Z) : ∀ (ps : List (Str × D)) {fs : List (Str × V)}, FR K Z ρ H ps fs → FR K Z ρ (upd H p o1) ps fs
  | [], _, h => by simpa [FR] using h
  | q :: ps, _, r => by
    simp only [FR] at r ⊢
    obtain ⟨v, r, h1, h2, h3⟩ := r
    exact ⟨v, r, h1, VR.mod h ho hz _ h2, FR.mod h ho hz ps h3⟩
theorem Rel.mod {p : Addr} {o0 o1 : HO} (h : H p = some o0) (ho : HidO o0) (hz : p ∈ Z) (hn : p ∉ ρ) (R : Rel K Z ρ H T A) : Rel K Z ρ (upd H p o1) T A := by
  refine ⟨R.len, R.nd, fun i o a e1 e2 => ?_, tabs_upd R.tab (by rcases ho with ⟨ws, rfl⟩ | ⟨ks, rfl⟩; exact .inr (.inl ⟨ws, h⟩); exact .inr (.inr (.inr ⟨ks, h⟩))), hid_upd R.hid⟩
  have ne : a ≠ p := fun e => hn (by rw [← e]; exact List.mem_of_getElem? e2)
  have q := R.obj i o a e1 e2
  cases o with
  | lst ds =>
    obtain ⟨vs, h1, h2⟩ := q
    exact ⟨vs, by rw [upd_ne ne]; exact h1, VRs.mod h ho hz ds h2⟩
  | ins C fs =>
    obtain ⟨dx, gs, h1, h2⟩ := q
    exact ⟨dx, gs, by rw [upd_ne ne]; exact h1, FR.mod h ho hz fs h2⟩
theorem Fut.over {p : Addr} {o : HO} (hp : H p = none) (f : Fut ρ H ρ' H') : Fut ρ H ρ' (upd H' p o) where
  pre := f.pre
  new := f.new
  keep := fun a u e n t => by rw [upd_ne (ne_of_none e hp)]; exact f.keep a u e n t
  tbl := fun a ps e n => by rw [upd_ne (ne_of_none e hp)]; exact f.tbl a ps e n
theorem VRs.zmore1 {p : Addr} (np : H p = none) {ds : List D} {vs : List V} (h : VRs K Z ρ H ds vs) : VRs K (p :: Z) ρ H ds vs := VRs.zmore np ds h

/-! ### targets -/
def tgS (g : Ga) : Expr → List Nat
  | .Name x _ => (slotS g x).toList
  | .Tuple es _ _ => es.flatMap fun e => match e with
    | .Name x _ => (slotS g x).toList
    | _ => []
  | _ => []
/-- slots that only the places I may have changed -/
def SetsIn (I : List Nat) (σ σ1 : St) : Prop := ∀ vs : List Nat, (∀ i ∈ I, i ∈ vs) → wipe σ1 vs = wipe σ vs
theorem wipe_set (x : Option V) (i : Nat) (σ : St) : ∀ {vs : List Nat}, i ∈ vs → wipe (σ.set i x) vs = wipe σ vs
  | [], h => by cases h
  | v :: vs, h => by
    unfold wipe
    by_cases e : i ∈ vs
    · rw [wipe_set x i σ e]
    · have : i = v := by
        rcases List.mem_cons.mp h with h | h
        · exact h
        · exact absurd h e
      subst this
      have com : ∀ (σ : St) (vs : List Nat), i ∉ vs → wipe (σ.set i x) vs = (wipe σ vs).set i x := by
        intro σ vs
        induction vs with
        | nil => intro _; rfl
        | cons w ws ih =>
          intro hn
          unfold wipe
          rw [ih (fun m => hn (List.mem_cons_of_mem _ m)), List.set_comm]
          exact fun e => hn (by rw [e]; exact List.mem_cons_self)
      rw [com σ vs e, List.set_set]
def gM (K : PySem.W.Frag) (Z : List Addr) (I : List Nat) (f : D → M.Loc → Option M.Loc) : TG := fun v σ H Q =>
  ∃ d L L1 ρ, VR K Z ρ H d v ∧ LR K Z ρ H L σ ∧ f d L = some L1 ∧ ∀ σ1, LR K Z ρ H L1 σ1 → SetsIn I σ σ1 → Q σ1 H
theorem pg_weak {e : Expr} {t t' : TG} (h : PG X e t) (i : ∀ v σ H Q, t' v σ H Q → t v σ H Q) : PG X e t' := ⟨fun pins s σ H v u Q I r q => h.run pins s σ H v u Q I r (i v σ H Q q)⟩
theorem pgs_weak {e : List Expr} {t t' : TGs} (h : PGs X e t) (i : ∀ v σ H Q, t' v σ H Q → t v σ H Q) : PGs X e t' := ⟨fun pins s σ H v u Q I r q => h.run pins s σ H v u Q I r (i v σ H Q q)⟩
def gsM (K : PySem.W.Frag) (Z : List Addr) (I : List Nat) (f : List D → M.Loc → Option M.Loc) : TGs := fun vs σ H Q =>
  ∃ ds L L1 ρ, VRs K Z ρ H ds vs ∧ LR K Z ρ H L σ ∧ f ds L = some L1 ∧ ∀ σ1, LR K Z ρ H L1 σ1 → SetsIn I σ σ1 → Q σ1 H
theorem each_one {e : Expr} {es : List Expr} {env : Env} (h : noStar e = true) : assignEach (e :: es) env = (false, assign e env) :: assignEach es env := by
  cases e <;> first | rfl | simp [noStar] at h
theorem pgs_M (xo : XOk g X) : ∀ es : List Expr, PGs X es (gsM X.K Z (es.flatMap fun e => match e with
    | .Name x _ => (slotS g x).toList
    | _ => []) (tgNames g es)) ∧ (es.all noStar = true → (assignEach es X.env).length = es.length ∧ (assignEach es X.env).findIdx? (·.1) = none)
  | [] => ⟨pgs_weak pgs_nil fun vs σ H Q h => by
      obtain ⟨ds, L, L1, ρ, hv, lr, e, q⟩ := h
      cases ds with
      | nil =>
        simp only [VRs] at hv
        simp only [tgNames, Option.some.injEq] at e
        subst e
        exact ⟨hv, q σ lr fun _ _ => rfl⟩
      | cons d ds => simp [tgNames] at e, fun _ => ⟨rfl, rfl⟩⟩
  | e :: es => by
    have ih := pgs_M xo es
    refine ⟨?_, fun h => ?_⟩
    · by_cases hn : ∃ x p, e = .Name x p
      · obtain ⟨x, p, rfl⟩ := hn
        cases hsl : slotS g x with
        | none =>
          refine ⟨fun pins s σ H vs u Q I r h => ?_⟩
          obtain ⟨ds, L, L1, ρ, hv, lr, e, q⟩ := h
          cases ds with
          | nil => simp [tgNames] at e
          | cons d ds => simp [tgNames, hsl] at e
        | some i =>
          obtain ⟨h1, h2, h3⟩ := slotS_ok xo.toXOk0 hsl
          refine pgs_weak (pgs_cons (pg_name (by rw [xo.N]; exact xo.nd) h1 h2 h3) ih.1 rfl) fun vs σ H Q h => ?_
          obtain ⟨ds, L, L1, ρ, hv, lr, e, q⟩ := h
          cases ds with
          | nil => simp [tgNames] at e
          | cons d ds =>
            simp only [VRs] at hv
            obtain ⟨v, r, rfl, hv1, hv2⟩ := hv
            simp only [tgNames, hsl] at e
            refine ⟨v, r, rfl, ⟨ds, L.set i (some d), L1, ρ, hv2, LR.set i lr hv1, e, fun σ1 lr1 si => q σ1 lr1 fun vs hI => ?_⟩⟩
            rw [si vs (fun j hj => hI j (by simp only [List.flatMap_cons, List.mem_append]; exact .inr hj))]
            exact wipe_set _ _ _ (hI i (by simp [hsl]))
      · refine ⟨fun pins s σ H vs u Q I r h => ?_⟩
        obtain ⟨ds, L, L1, ρ, hv, lr, e1, q⟩ := h
        exfalso
        cases ds with
        | nil => simp [tgNames] at e1
        | cons d ds =>
          cases e <;> first | (exact hn ⟨_, _, rfl⟩) | simp [tgNames] at e1
    · rw [List.all_cons, Bool.and_eq_true] at h
      obtain ⟨i1, i2⟩ := ih.2 h.2
      rw [each_one h.1]
      refine ⟨by simp [i1], ?_⟩
      rw [List.findIdx?_cons]
      simp [i2]
theorem tgNames_star : ∀ {es : List Expr} {ds : List D} {L L1 : M.Loc}, tgNames g es ds L = some L1 → es.all noStar = true ∧ es.length = ds.length
  | [], [], L, L1, h => ⟨rfl, rfl⟩
  | [], d :: ds, L, L1, h => by simp [tgNames] at h
  | e :: es, [], L, L1, h => by cases e <;> simp [tgNames] at h
  | e :: es, d :: ds, L, L1, h => by
    cases e <;> try (simp [tgNames] at h)
    rename_i x p
    split at h
    · obtain ⟨h1, h2⟩ := tgNames_star h
      exact ⟨by rw [List.all_cons, h1]; rfl, by simp [h2]⟩
    · cases h
theorem pg_M (xo : XOk g X) (e : Expr) : PG X e (gM X.K Z (tgS g e) (tgM g e)) := by
  by_cases hn : ∃ x p, e = .Name x p
  · obtain ⟨x, p, rfl⟩ := hn
    cases hsl : slotS g x with
    | none =>
      refine ⟨fun pins s σ H vs u Q I r h => ?_⟩
      obtain ⟨d, L, L1, ρ, hv, lr, e, q⟩ := h
      simp [tgM, hsl] at e
    | some i =>
      obtain ⟨h1, h2, h3⟩ := slotS_ok xo.toXOk0 hsl
      refine pg_weak (pg_name (by rw [xo.N]; exact xo.nd) h1 h2 h3) fun v σ H Q h => ?_
      obtain ⟨d, L, L1, ρ, hv, lr, e, q⟩ := h
      simp only [tgM, hsl, Option.some.injEq] at e
      subst e
      exact q _ (LR.set i lr hv) fun vs hI => wipe_set _ _ _ (hI i (by simp [tgS, hsl]))
  · by_cases ht : ∃ es k p, e = .Tuple es k p
    · obtain ⟨es, k, p, rfl⟩ := ht
      obtain ⟨i1, i2⟩ := pgs_M (Z := Z) xo es
      by_cases hs : es.all noStar = true
      · obtain ⟨j1, j2⟩ := i2 hs
        refine pg_weak (pg_tup (n := es.length) xo.calm i1 j1 j2) fun v σ H Q h => ?_
        obtain ⟨d, L, L1, ρ, hv, lr, e, q⟩ := h
        cases d <;> try (simp [tgM] at e)
        simp only [VR] at hv
        obtain ⟨p, us, rfl, p1, p2⟩ := hv
        exact ⟨p, us, rfl, p1, by rw [VRs.length p2, (tgNames_star e).2], ⟨_, L, L1, ρ, p2, lr, e, q⟩⟩
      · refine ⟨fun pins s σ H vs u Q I r h => ?_⟩
        obtain ⟨d, L, L1, ρ, hv, lr, e, q⟩ := h
        exfalso
        cases d <;> try (simp [tgM] at e)
        exact hs (tgNames_star e).1
    · refine ⟨fun pins s σ H vs u Q I r h => ?_⟩
      obtain ⟨d, L, L1, ρ, hv, lr, e1, q⟩ := h
      exfalso
      cases e <;> first | (exact hn ⟨_, _, rfl⟩) | (exact ht ⟨_, _, _, rfl⟩) | (cases d <;> simp [tgM] at e1)

/-! ### what is walked -/
def ItOk (K : PySem.W.Frag) (Z : List Addr) (J : It) (ds : List D) (ρ : List Addr) (H : Hp) : Prop :=
  ∃ vs, VRs K Z ρ H ds vs ∧ ∀ ρ' H', Fut ρ H ρ' H' → ∀ i, (i < ds.length → J.go i H') ∧ (∀ x H'', J.yld i H' x H'' → i < ds.length → H'' = H' ∧ vs[i]? = some x) ∧ (ds.length ≤ i → J.stop i H')
def iM (K : PySem.W.Frag) (T : List (Addr × Str)) (Z : List Addr) (E : XK) (m : M.Loc → AH → Res (List D)) : TI := fun σ H P =>
  ∃ L A ρ, LR K Z ρ H L σ ∧ Rel K Z ρ H T A ∧ RG K T Z ρ H (fun ds A' ρ' H' => ∀ J, ItOk K Z J ds ρ' H' → P J H') (EXK K Z E) (m L A)
theorem pi_weak {tg e : Expr} {t t' : TI} (h : PI X tg e t) (i : ∀ σ H Q, t' σ H Q → t σ H Q) : PI X tg e t' := ⟨fun pins s σ H Q I r => h.run pins s σ H Q I (i σ H Q r)⟩
theorem pi_either {tg e : Expr} {t u : TI} (h : PI X tg e t) (g : PI X tg e u) : PI X tg e (fun σ H Q => t σ H Q ∨ u σ H Q) := ⟨fun pins s σ H Q I r => r.elim (h.run pins s σ H Q I) (g.run pins s σ H Q I)⟩
end
end M
end
/-! ## M10 -/
section
set_option linter.all false
set_option maxRecDepth 100000
set_option maxHeartbeats 4000000
/-! Layer M, part 10: what is walked; comprehensions. -/
namespace M
open PySem L2
section
variable {X : Cx} {T : List (Addr × Str)} {Z Z' : List Addr} {ρ ρ' : List Addr} {H H' : Hp} {A A' : AH} {d a b : D} {v : V} {E : XK} {g : Ga} {σ : St} {Q : VK} {K : PySem.W.Frag}
theorem rd_lt {vs : List V} {i : Nat} {n : Nat} (h : vs.length = n) (hi : i < n) : ∃ x, vs[i]? = some x := ⟨vs[i], List.getElem?_eq_getElem (by omega)⟩
theorem it_tup {ds : List D} {vs : List V} {p : Addr} (R : Rel K Z ρ H T A) (hv : VRs K Z ρ H ds vs) (hp : SqT K H p vs) : ItOk K Z (Itt K p) ds ρ H :=
  ⟨vs, hv, fun ρ' H' f i => by
    have s := sqt_fut R f hp
    refine ⟨fun hi => ?_, fun x H'' h _ => ⟨h.1, h.2 vs s⟩, fun hi => ⟨vs, s, by rw [VRs.length hv]; exact hi⟩⟩
    obtain ⟨x, e⟩ := rd_lt (VRs.length hv) hi
    exact ⟨vs, x, s, e⟩⟩
theorem it_lst {ds : List D} {vs : List V} {p : Addr} (hv : VRs K Z ρ H ds vs) (hp : Rd H p (.lst vs)) (hn : p ∉ ρ) : ItOk K Z (Itl K p) ds ρ H :=
  ⟨vs, hv, fun ρ' H' f i => by
    have s : SqL K H' p vs := by
      rcases hp with hp | ⟨o, hp⟩
      · exact .inl (.inl (f.keep p _ hp hn (fun ps q => by cases q)))
      · exact .inl (.inr ⟨o, f.keep p _ hp hn (fun ps q => by cases q)⟩)
    refine ⟨fun hi => ?_, fun x H'' h _ => ⟨h.1, h.2 vs s⟩, fun hi => ⟨vs, s, by rw [VRs.length hv]; exact hi⟩⟩
    obtain ⟨x, e⟩ := rd_lt (VRs.length hv) hi
    exact ⟨vs, x, s, e⟩⟩
theorem VRs_map {α : Type} (f : α → D) (h : α → V) (hf : ∀ x, VR K Z ρ H (f x) (h x)) : ∀ l : List α, VRs K Z ρ H (l.map f) (l.map h)
  | [] => VRs.nil
  | x :: l => VRs.cons (hf x) (VRs_map f h hf l)
theorem it_str {z : Str} : ItOk K Z (Its z) (z.cps.toList.map fun c => D.str ⟨#[c]⟩) ρ H :=
  ⟨z.cps.toList.map fun c => V.str ⟨#[c]⟩, VRs_map _ _ (fun c => by simp only [VR]) _, fun ρ' H' f i => by
    refine ⟨fun hi => (by simpa using hi : i < z.cps.size), fun x H'' h hi => ⟨h.1, ?_⟩, fun hi => (by simpa using hi : z.cps.size ≤ i)⟩
    obtain ⟨c, e1, e2⟩ := h.2
    subst e2
    rw [List.getElem?_map, Array.getElem?_toList, e1]
    rfl⟩
theorem it_rng {lo : Int} {n : Nat} : ItOk K Z (Itr lo n) (rangeL lo n) ρ H :=
  ⟨(List.range n).map fun i => V.int (lo + (i : Nat)), VRs_map _ _ (fun c => by simp only [VR]) _, fun ρ' H' f i => by
    have hl : (rangeL lo n).length = n := by simp [rangeL]
    rw [hl]
    refine ⟨fun hi => hi, fun x H'' h hi => ⟨h.1, ?_⟩, fun hi => hi⟩
    rw [List.getElem?_map, List.getElem?_range hi, h.2]
    rfl⟩
theorem pi_gen_M {tg e : Expr} {m : ME} (h : PE X e (eM X.K T Z E m)) : PI X tg e (iM X.K T Z E fun L A => (m L A).bind itemsM) := by
  refine pi_weak (pi_either (pi_either (pi_tup h) (pi_list h)) (pi_str h)) fun σ H P q => ?_
  obtain ⟨L, A, ρ, lr, R, q⟩ := q
  dsimp only at q
  cases r : m L A with
  | stuck => rw [r] at q; exact absurd q id
  | exc e B =>
    rw [r] at q
    exact .inl (.inl ⟨L, A, ρ, lr, R, by rw [r]; exact q⟩)
  | ok x A1 =>
    rw [r] at q
    simp only [Res.bind_ok] at q
    unfold itemsM at q
    split at q
    · refine .inl (.inl ⟨L, A, ρ, lr, R, ?_⟩)
      rw [r]
      intro ρ1 H1 f1 R1 v hv
      simp only [VR] at hv
      obtain ⟨p, us, rfl, p1, p2⟩ := hv
      exact ⟨p, rfl, ⟨us, p1⟩, q ρ1 H1 f1 R1 _ (it_tup R1 p2 p1)⟩
    · refine .inl (.inr ⟨L, A, ρ, lr, R, ?_⟩)
      rw [r]
      intro ρ1 H1 f1 R1 v hv
      simp only [VR] at hv
      obtain ⟨p, us, rfl, n, _, p1, p2⟩ := hv
      exact ⟨p, rfl, ⟨us, SqL.of p1⟩, q ρ1 H1 f1 R1 _ (it_lst p2 (.inl p1) n)⟩
    · refine .inl (.inr ⟨L, A, ρ, lr, R, ?_⟩)
      rw [r]
      intro ρ1 H1 f1 R1 v hv
      simp only [VR] at hv
      obtain ⟨p, us, o, rfl, n, p1, p2⟩ := hv
      exact ⟨p, rfl, ⟨us, .inl (.inr ⟨o, p1⟩)⟩, q ρ1 H1 f1 R1 _ (it_lst p2 (.inr ⟨o, p1⟩) n)⟩
    · refine .inr ⟨L, A, ρ, lr, R, ?_⟩
      rw [r]
      intro ρ1 H1 f1 R1 v hv
      simp only [VR] at hv
      exact ⟨_, hv, q ρ1 H1 f1 R1 _ it_str⟩
    · exact absurd q id
theorem pi_rng1_M {tg a : Expr} {ma : ME} {p pos : Pos} (hg : Gl X "range") (hm : X.mg "range" = none) (hs : noStar a = true) (ha : PE X a (eM X.K T Z E ma)) : PI X tg (.Call (.Name "range" p) [a] [] pos) (iM X.K T Z E fun L A => (ma L A).bind rng1) := by
  refine pi_weak (pi_range1 hg hm (pa_cons ha pa_nil (star_one hs)) (star_one hs)) fun σ H P q => ?_
  obtain ⟨L, A, ρ, lr, R, q⟩ := q
  refine ⟨L, A, ρ, lr, R, RG.bind q fun x A1 ρ1 H1 f1 R1 h1 v hv => ?_⟩
  show ∃ j : Int, [v] = [.int j] ∧ _
  unfold rng1 at h1
  split at h1
  · simp only [VR] at hv
    split at h1
    · rename_i c
      exact ⟨_, by rw [hv], c.1, c.2, RG.ok R1 h1 _ it_rng⟩
    · exact absurd h1 id
  · exact absurd h1 id
theorem pi_rng2_M {tg a b : Expr} {ma mb : ME} {p pos : Pos} (hg : Gl X "range") (hm : X.mg "range" = none) (hs : noStar a = true) (hs2 : noStar b = true) (ha : PE X a (eM X.K T Z E ma)) (hb : PE X b (eM X.K T Z E mb)) : PI X tg (.Call (.Name "range" p) [a, b] [] pos) (iM X.K T Z E fun L A => (ma L A).bind fun x A1 => (mb L A1).bind fun y A2 => rng2 x y A2) := by
  refine pi_weak (pi_range2 hg hm (pa_cons ha (pa_cons hb pa_nil (star_one hs2)) (star_one hs)) (by rw [star_one hs, star_one hs2]; rfl) (by rw [star_one hs2]; rfl)) fun σ H P q => ?_
  obtain ⟨L, A, ρ, lr, R, q⟩ := q
  refine ⟨L, A, ρ, lr, R, RG.bind q fun x A1 ρ1 H1 f1 R1 h1 v hv => ?_⟩
  refine ⟨L, A1, ρ1, lr.fut R f1, R1, RG.bind h1 fun y A2 ρ2 H2 f2 R2 h2 w hw => ?_⟩
  show ∃ i j : Int, [v, w] = [.int i, .int j] ∧ _
  have hv := VR.fut R1 f2 _ hv
  unfold rng2 at h2
  split at h2
  · simp only [VR] at hv hw
    split at h2
    · rename_i c
      exact ⟨_, _, by rw [hv, hw], ⟨c.1, c.2.1, c.2.2.1, c.2.2.2⟩, RG.ok R2 h2 _ it_rng⟩
    · exact absurd h2 id
  · exact absurd h2 id

/-! ### comprehensions -/
theorem LR.wipe {L : M.Loc} {σ : St} (h : LR K Z ρ H L σ) : ∀ vs : List Nat, LR K Z ρ H (wipeL L vs) (L2.wipe σ vs)
  | [] => h
  | v :: vs => by
    unfold wipeL L2.wipe
    exact LR.unset v none (LR.wipe h vs)
theorem ptsM_nil {f : Expr → MT} : PTs X [] (tM X.K T Z E (allT f [])) := ⟨fun pins s σ H Q I r => pts_nil.run pins s σ H Q I (by
  obtain ⟨L, A, ρ, lr, R, h⟩ := r
  exact RG.ok R h)⟩
theorem ptsM {f : Expr → MT} (hf : ∀ e, PT X e (tM X.K T Z E (f e))) : ∀ ifs, PTs X ifs (tM X.K T Z E (allT f ifs))
  | [] => ptsM_nil
  | [e] => pts_one (hf e)
  | _ :: _ :: _ => ⟨fun pins s σ H Q I r => absurd r tM_stuck⟩
theorem lc_walk {J : It} {x0 : Bool} {ds : List D} {tg : D → M.Loc → Option M.Loc} {I own : List Nat} {tt : MT} {te : ME} {L : M.Loc} (lr : LR K Z ρ H L σ) (R : Rel K Z ρ H T A) (j : ItOk K Z J ds ρ H) (hI : ∀ i ∈ I, i ∈ own)
    (h : RG K T Z ρ H (PQ K Z Q) (EXK K Z E) (lcGo x0 tg tt te (wipeL L own) ds [] A)) (p : Addr) (hp : H p = none) :
    ∃ W : Nat → Nat → Hp → Prop, (∃ m, W 0 m (upd H p (.lst []))) ∧ ∀ i m H1, W i m H1 → (J.stop i H1 ∧ Q (.ref p) H1) ∨ (J.go i H1 ∧ ∃ Nx : Hp → Prop, (∀ H', Nx H' → ∃ m', m' < m ∧ W (i + 1) m' H') ∧
      ∀ x H2, J.yld i H1 x H2 → gM K (p :: Z) I tg x (L2.wipe σ own) H2 fun σ2 H3 => L2.wipe σ2 own = L2.wipe σ own ∧ tM K T (p :: Z) (fun _ _ _ => False) tt σ2 H3 fun b H4 =>
        if b = true then eM K T (p :: Z) (if x0 = true then E else fun _ _ _ => False) te σ2 H4 fun y H5 => ∃ acc, H5 p = some (.lst acc) ∧ acc.length < sizeLine ∧ Nx (upd H5 p (.lst (acc ++ [y]))) else Nx H4) := by
  obtain ⟨vs, hvs, j⟩ := j
  have hlen := VRs.length hvs
  have zin : ∀ a ∈ Z, a ∈ p :: Z := fun a m => List.mem_cons_of_mem _ m
  refine ⟨fun i m H1 => ∃ acc av A1 ρ1, m = ds.length - i ∧ i ≤ ds.length ∧ Rel K (p :: Z) ρ1 H1 T A1 ∧ Fut ρ H ρ1 H1 ∧ p ∉ ρ1 ∧ H1 p = some (.lst av) ∧ VRs K (p :: Z) ρ1 H1 acc av ∧ acc.length = av.length ∧ RG K T Z ρ H (PQ K Z Q) (EXK K Z E) (lcGo x0 tg tt te (wipeL L own) (ds.drop i) acc A1), ?_, ?_⟩
  · exact ⟨_, [], [], A, ρ, rfl, Nat.zero_le _, R.hide hp, Fut.new1 hp, R.out hp, upd_same, VRs.nil, rfl, h⟩
  · rintro i m H1 ⟨acc, av, A1, ρ1, hm, hi, R1, f1, np, ep, hacc, hal, q⟩
    obtain ⟨jgo, jy, jst⟩ := j ρ1 H1 f1 i
    by_cases hlt : i < ds.length
    · refine .inr ⟨jgo hlt, fun H' => ∃ m', m' < m ∧ ∃ acc av A1 ρ1, m' = ds.length - (i + 1) ∧ i + 1 ≤ ds.length ∧ Rel K (p :: Z) ρ1 H' T A1 ∧ Fut ρ H ρ1 H' ∧ p ∉ ρ1 ∧ H' p = some (.lst av) ∧ VRs K (p :: Z) ρ1 H' acc av ∧ acc.length = av.length ∧ RG K T Z ρ H (PQ K Z Q) (EXK K Z E) (lcGo x0 tg tt te (wipeL L own) (ds.drop (i + 1)) acc A1), fun H' h => h, fun x H2 hy => ?_⟩
      obtain ⟨rfl, hx⟩ := jy x H2 hy hlt
      have hd : ds.drop i = ds[i] :: ds.drop (i + 1) := List.drop_eq_getElem_cons hlt
      rw [hd] at q
      simp only [lcGo] at q
      obtain ⟨x', hx', hvx⟩ := VRs.get (VRs.zmore hp ds hvs) (List.getElem?_eq_getElem hlt)
      rw [hx] at hx'
      cases hx'
      have hvx1 : VR K (p :: Z) ρ1 H2 ds[i] x := VR.fut R f1 _ hvx
      have lr1 : LR K (p :: Z) ρ1 H2 (wipeL L own) (L2.wipe σ own) := (LR.fut R f1 (LR.zmore hp lr)).wipe own
      cases et : tg ds[i] (wipeL L own) with
      | none => rw [et] at q; exact absurd q id
      | some L1 =>
        rw [et] at q
        dsimp only at q
        refine ⟨ds[i], wipeL L own, L1, ρ1, hvx1, lr1, et, fun σ2 lr2 si => ⟨?_, ⟨L1, A1, ρ1, lr2, R1, ?_⟩⟩⟩
        · rw [si own hI]
          have ww : ∀ vs' : List Nat, (∀ i ∈ vs', i ∈ own) → L2.wipe (L2.wipe σ vs') own = L2.wipe σ own := by
            intro vs'
            induction vs' with
            | nil => intro _; rfl
            | cons w ws ih =>
              intro hw
              show L2.wipe ((L2.wipe σ ws).set w none) own = _
              rw [wipe_set _ _ _ (hw w List.mem_cons_self), ih fun i hi => hw i (List.mem_cons_of_mem _ hi)]
          exact ww own fun i hi => hi
        · cases ett : tt L1 A1 with
          | stuck => rw [ett] at q; exact absurd q id
          | exc e B => rw [ett] at q; exact absurd q id
          | ok k A2 =>
            rw [ett] at q
            intro ρ2 H3 f2 R2
            have f12 := f1.trans f2
            have np2 : p ∉ ρ2 := f2.out np (by rw [ep]; exact fun z => by cases z)
            have ep2 : H3 p = some (.lst av) := f2.keep p _ ep np (fun ps z => by cases z)
            cases k with
            | false =>
              dsimp only at q
              exact ⟨_, by omega, acc, av, A2, ρ2, rfl, hlt, R2, f12, np2, ep2, VRs.fut R1 f2 _ hacc, hal, q⟩
            | true =>
              dsimp only at q
              refine ⟨L1, A2, ρ2, LR.fut R1 f2 lr2, R2, ?_⟩
              cases ete : te L1 A2 with
              | stuck => rw [ete] at q; exact absurd q id
              | exc e B =>
                rw [ete] at q
                dsimp only at q
                cases x0 with
                | false => exact absurd q id
                | true => exact fun ρ' H' f' R' v dd hv hdd => q ρ' H' (f12.trans f') (R'.zless zin) v dd (VR.zless zin _ hv) hdd
              | ok y A3 =>
                rw [ete] at q
                dsimp only at q
                intro ρ3 H4 f3 R3 w hw
                have np3 : p ∉ ρ3 := f3.out np2 (by rw [ep2]; exact fun z => by cases z)
                have ep3 : H4 p = some (.lst av) := f3.keep p _ ep2 np2 (fun ps z => by cases z)
                split at q
                · rename_i hsz
                  refine ⟨av, ep3, by rw [← hal]; exact hsz, _, by omega, acc ++ [y], av ++ [w], A3, ρ3, rfl, hlt, R3.mod ep3 (.inl ⟨_, rfl⟩) List.mem_cons_self np3, (f12.trans f3).over hp, np3, upd_same, ?_, by simp [hal], q⟩
                  exact VRs.append (VRs.mod ep3 (.inl ⟨_, rfl⟩) List.mem_cons_self _ (VRs.fut R2 f3 _ (VRs.fut R1 f2 _ hacc))) (VRs.cons (VR.mod ep3 (.inl ⟨_, rfl⟩) List.mem_cons_self _ hw) VRs.nil)
                · exact absurd q id
    · have : i = ds.length := by omega
      subst this
      refine .inl ⟨jst (Nat.le_refl _), ?_⟩
      rw [List.drop_length] at q
      refine q ρ1 H1 f1 (R1.zless zin) _ ?_
      simp only [VR]
      exact ⟨p, av, rfl, np, fun m => R.hid p m hp, ep, VRs.zless zin _ hacc⟩
end
end M
end
/-! ## MT -/
section
set_option linter.all false
set_option maxRecDepth 100000
set_option maxHeartbeats 4000000
/-! Layer M: the texts of _law_heard, _law_classes, _law_tells, _law_refuses, and what the head tells of them. -/
namespace M
open PySem PySem.Spec PyProof.Rows L2
/-- slot i holds the thing at a: then x -/
def conIs (i : Nat) (a : Addr) (x : M.D) : ME := fun L A => (eVar i L A).bind fun d A1 => match d with
  | .con a' => if a' = a then .ok x A1 else .stuck
  | _ => .stuck
/-- a part of a row of _law_classes: a name, or whether the exception at a is of the class named z -/
def clsCell (nk : List (Str × NameKind)) (a : Addr) (ans : Str → Option Bool) : Expr → ME
  | .Constant (.str x) _ _ => eK (.str x)
  | .Call (.Name f _) [.Name y _, .Name z _] [] _ =>
    if f = "isinstance" ∧ y = "refused_one" ∧ isGl ⟨[], nk, false, false⟩ z = true ∧ plainName z = true then
      (match ans z with
      | some b => conIs 0 a (.bl b)
      | none => eStuck)
    else eStuck
  | _ => eStuck
def clsRow (nk : List (Str × NameKind)) (a : Addr) (ans : Str → Option Bool) : Expr → ME
  | .Tuple es _ _ => aR (aE (clsCell nk a ans) es) tupR
  | _ => eStuck
/-- the words of the rows that are true -/
def rowsD (rs : List (Str × Bool)) : List M.D := rs.map fun r => .tup [.str r.1, .bl r.2]
def wordsOf (rs : List (Str × Bool)) : List Str := (rs.filter (·.2)).map (·.1)
def lcSc : Scope := { kind := .function, names := [(PySem.Str.ofString ".0", .local), (PySem.Str.ofString "line", .local)], isGenerator := false, isCoroutine := false, more := [] }
def heardSuite (q : Nat → Pos) (j : Nat → Nat) : Stmt := .Return (some (.Tuple [.Call (.Attribute (.Constant (.str " ") (j 0) (q 0)) "join" (q 1)) [.ListComp (.Subscript (.Name "line" (q 7)) (.Constant (.int 0) (j 1) (q 8)) (q 9)) [⟨.Name "line" (q 10), .Call (.Name "_law_classes" (q 11)) [.Name "refused_one" (q 12)] [] (q 13), [.Subscript (.Name "line" (q 14)) (.Constant (.int 1) (j 2) (q 15)) (q 16)], 0⟩] lcSc (q 17)] [] (q 2),
  .Attribute (.Name "refused_one" (q 3)) "what" (q 4)] (j 3) (q 5))) (q 6)
def heardBody (q : Nat → Pos) (j : Nat → Nat) : List Stmt := [.Try [.Return (some (.Tuple [.Constant (.str "told") (j 4) (q 18), .Call (.Name "deed" (q 19)) [] [] (q 20)] (j 5) (q 21))) (q 22)] [.ExceptHandler (some (.Name "Refused" (q 23))) (some "refused_one") [heardSuite q j] (q 24)] [] [] (q 25)]
def tellsBody (q : Nat → Pos) (j : Nat → Nat) : List Stmt := [.Return (some (.Call (.Name "_law_same" (q 0)) [.Call (.Name "_law_heard" (q 1)) [.Name "deed" (q 2)] [] (q 3), .Tuple [.Constant (.str "told") (j 0) (q 4), .Name "owed" (q 5)] (j 1) (q 6)] [] (q 7))) (q 8)]
def refusesBody (q : Nat → Pos) (j : Nat → Nat) : List Stmt := [.Return (some (.Call (.Name "_law_same" (q 0)) [.Call (.Name "_law_heard" (q 1)) [.Name "deed" (q 2)] [] (q 3), .Tuple [.Name "name" (q 4), .Name "what" (q 5)] (j 1) (q 6)] [] (q 7))) (q 8)]
/-- a def as the head tells it: all its parameters are given -/
structure DefTxt (K : PySem.W.Frag) (mg : Str → Option Value) (x : Str) (N ps : List Str) (gA : Addr) (pg : Arguments) (body : List Stmt) (sg : Scope) : Prop where
  g : mg x = some (.ref gA)
  kp : PySem.W.keepIn K (.ref gA) = true
  lk : ∃ (oc : Value) (od : Option Addr) (dV kV doc pm cdv ct : Value) (an : Option Addr) (osl : Array (Option Value)), K.lookup gA = some ⟨oc, od, .func (PySem.W.fnOf x x pg body sg dV kV doc pm an cdv ct), osl⟩ ∧ PySem.W.codeIn K cdv x = true ∧
    L2.Binds K (PySem.W.fnOf x x pg body sg dV kV doc pm an cdv ct) ps []
  sc : FnScope N ps sg
/-- what the head tells of _law_classes -/
structure ClsTxt (K : PySem.W.Frag) (mg : Str → Option Value) (gK : Addr) (pg : Arguments) (es : List Expr) (sg : Scope) (p1 p2 : Pos) : Prop extends DefTxt K mg "_law_classes" ["refused_one"] ["refused_one"] gK pg [.Return (some (.List es p1)) p2] sg where
  gi : sg.names.lookup ("isinstance" : Str) = some .globalImplicit
  mi : mg "isinstance" = none
/-- what the head tells of an exception class at D, named nm -/
structure ExnTxt (K : PySem.W.Frag) (mg : Str → Option Value) (Rc : Addr) (sgK : Scope) (es : List Expr) (D : Addr) (nm : Str) : Prop where
  exc : ExcC K D
  xf : XfC K D
  nw : PySem.W.findIn K (.ref D) "what" = some none
  isR : PySem.W.exmOne K (.ref D) (.ref Rc) = some true
  short : nm.length < 1000
  rows : ∃ (rs : List (Str × Bool)) (ans : Str → Option Bool), rs.length < 1000 ∧ wordsOf rs = [nm] ∧ (∀ z b, ans z = some b → ∃ C', mg z = some (.ref C') ∧ PySem.W.kitOne K (.ref D) (.ref C') = some b) ∧
    ∀ (a : Addr) (A : AH), aR (aE (clsRow sgK.names a ans) es) lstR [some (.con a)] A = .ok (.lst (rowsD rs)) A
/-- what the head tells of _law_heard -/
structure HeardTxt (t : Tab) (K : PySem.W.Frag) (mg : Str → Option Value) : Prop where
  ex : ∃ (gH gK Rc : Addr) (pg pgK : Arguments) (sg sgK : Scope) (es : List Expr) (p1 p2 : Pos) (q : Nat → Pos) (j : Nat → Nat),
    DefTxt K mg "_law_heard" ["deed", "refused_one", "line"] ["deed"] gH pg (heardBody q j) sg ∧ ClsTxt K mg gK pgK es sgK p1 p2 ∧ ((q 1).endLine == (q 2).line) = true ∧
    mg "Refused" = some (.ref Rc) ∧ sg.names.lookup ("Refused" : Str) = some .globalImplicit ∧ sg.names.lookup ("refused_one" : Str) = some .local ∧ sg.names.lookup ("deed" : Str) = some .local ∧ sg.names.lookup ("_law_classes" : Str) = some .globalImplicit ∧
    blkC ["deed", "refused_one", "line"] ⟨.function, sg.names, false, false, []⟩ lcSc (ownOf ⟨["deed", "refused_one", "line"], sg.names, false, false⟩ lcSc) = true ∧
    ∀ D nm, t.xn.lookup D = some nm → ExnTxt K mg Rc sgK es D nm
/-- what the head tells of the defs that get a lambda -/
structure LamTxt (t : Tab) (K : PySem.W.Frag) (mg : Str → Option Value) (x : Str) (kd : LK) : Prop where
  hd : HeardTxt t K mg
  kd : match kd with
    | .heard => x = "_law_heard"
    | .tells => t.gs.lookup ("_law_same" : Str) = some (.fn 2 []) ∧ ∃ (g : Addr) (pg : Arguments) (sg : Scope) (q : Nat → Pos) (j : Nat → Nat), DefTxt K mg x ["deed", "owed"] ["deed", "owed"] g pg (tellsBody q j) sg ∧ sg.names.lookup ("_law_same" : Str) = some .globalImplicit ∧ sg.names.lookup ("_law_heard" : Str) = some .globalImplicit ∧ sg.names.lookup ("deed" : Str) = some .local ∧ sg.names.lookup ("owed" : Str) = some .local
    | .refuses => t.gs.lookup ("_law_same" : Str) = some (.fn 2 []) ∧ ∃ (g : Addr) (pg : Arguments) (sg : Scope) (q : Nat → Pos) (j : Nat → Nat), DefTxt K mg x ["deed", "name", "what"] ["deed", "name", "what"] g pg (refusesBody q j) sg ∧ sg.names.lookup ("_law_same" : Str) = some .globalImplicit ∧ sg.names.lookup ("_law_heard" : Str) = some .globalImplicit ∧ sg.names.lookup ("deed" : Str) = some .local ∧ sg.names.lookup ("name" : Str) = some .local ∧ sg.names.lookup ("what" : Str) = some .local
end M
end
/-! ## M11 -/
section
set_option linter.all false
set_option maxRecDepth 100000
set_option maxHeartbeats 4000000
/-! Layer M, part 11: calls, fields, displays of dicts, comprehensions as expressions. -/
namespace M
open PySem L2
/-- defaults are what the table says -/
def PadOk (K : PySem.W.Frag) (fd : FuncData) (ps : List Str) (np : Nat) (dl : List D) : Prop :=
  ps.length = np ∧ ∀ n ds, padN np dl n = some ds → ∃ us vs, L2.Binds K fd ps us ∧ Vals vs us ∧ svs ds = some vs
def biNames : List Str := ["int", "bool", "str", "tuple", "list", "dict", "len", "isinstance", "max", "min", "all", "any", "range"]
/-- what the making of an exception of this program asks -/
def tMkX (C : Addr) (w : Str) (ta : TA) : St → Hp → XK → Prop := fun σ H Q => ta σ H fun vs H1 => ∃ v, vs = [v] ∧ ∀ d, H1 d = none → Q (.ref C) (some d) (upd H1 d (.xd (xfs v w)))
/-- the table t, with the plain functions Φ, is true of the top; calls of level k -/
structure TOk (t : Tab) (Φ : Fns) (k : Nat) (P : Program) (w : World) (K : PySem.W.Frag) (mg : Str → Option Value) (base : Heap) (T : List (Addr × Str)) : Prop where
  dat : ∀ x d, t.gs.lookup x = some (.dat d) → ∃ u v, mg x = some u ∧ RelV v u ∧ sv d = some v
  fn : ∀ x np dl, t.gs.lookup x = some (.fn np dl) → ∃ f fd ps, mg x = some (.ref f) ∧ PySem.W.keepIn K (.ref f) = true ∧ PadOk K fd ps np dl ∧ FnOk P w K mg base (L2N.CX P w) k f fd ps (spM K T np (Φ x))
  cls : ∀ x C init np dl, t.gs.lookup x = some (.cls C init np dl) → mg x = some (.ref C) ∧ ∃ f fd ps, Mk K C f ∧ PadOk K fd ps np dl ∧ FnOk P w K mg base (L2N.CX P w) k f fd ps (spM K T np (Φ init))
  ms : ∀ m l, t.ms.lookup m = some l → ∀ i ∈ l, Cls K i.C ∧ ∃ f fd ps, Meth K i.C m f ∧ PadOk K fd ps i.np i.dl ∧ FnOk P w K mg base (L2N.CX P w) k f fd ps (spM K T i.np (Φ i.key))
  cs : ∀ C names, t.cs.lookup C = some names → Cls K C ∧ ∀ f ∈ names, NoAttr K C f
  bi : ∀ x, t.gs.lookup x = none → x ∈ biNames → mg x = none
  S : SOk t.S K w
  lam : ∀ x kd, t.lm.lookup x = some kd → LamTxt t K mg x kd
  rs : ∀ x C wd, t.gs.lookup x = some (.exc C wd) → ∀ X : Cx, X.prog = P → X.w = w → X.K = K → X.mg = mg → X.base = base → Room (k + 2) X.A → X.calm = true → Gl X x → plainName x = true → ∀ (e : Expr) (p pos : Pos) (ta : TA), noStar e = true → PA X [e] ta → L2N.PMk X (.Call (.Name x p) [e] [] pos) (tMkX C wd ta)
/-- X is a def that makes lambdas, as the table t says -/
def LmOk (t : Tab) (T : List (Addr × Str)) (X : Cx) : Prop := ∀ c P q, t.la = some (c, P, q) → X.env.code = .ref c ∧ LamX.TabB X.base X.mg c P ∧ X.env.qual ++ "<lambda>" = q ∧ (P, q) ∈ T ∧ ∀ p ∈ T, p.1 = P → p.2 = q
section
variable {X : Cx} {T : List (Addr × Str)} {Z Z' : List Addr} {ρ ρ' : List Addr} {H H' : Hp} {A A' : AH} {d a b : D} {v : V} {E : XK} {g : Ga} {σ : St} {Q : VK} {K : PySem.W.Frag} {t : Tab} {Φ : Fns} {k : Nat}
theorem pe_by {e : Expr} {t' : TE} (i : ∀ σ H Q, t' σ H Q → ∃ t, PE X e t ∧ t σ H Q) : PE X e t' := ⟨fun pins s σ H Q I r => by
  obtain ⟨t, h, q⟩ := i σ H Q r
  exact h.run pins s σ H Q I q⟩
abbrev Tk (X : Cx) (E : XK) : Prop := L2N.Takes X (fun c d _ H => E c d H)
abbrev Pz (X : Cx) (E : XK) : Prop := Passes (L2N.CX X.prog X.w) X E
theorem tk_pass (tk : Pz X E) (σ : St) : PassesAt (L2N.CX X.prog X.w) X σ E := fun pins H s e s' I c => tk pins σ H s e s' I c
theorem tk_passes (tk : Pz X E) : Passes (L2N.CX X.prog X.w) X E := tk
theorem tk_pz (tk : Tk X E) : Pz X E := fun pins σ H s e s' I c => L2N.passAt tk σ pins H s e s' I c
theorem tk_false : Pz X (fun _ _ _ => False) := tk_pz fun _ _ x => by
  obtain ⟨_, _, _, _, _, _, _, _, _, _, _, _, _, _, _, _, z⟩ := x
  exact z.elim
abbrev TOkX (t : Tab) (Φ : Fns) (k : Nat) (T : List (Addr × Str)) (X : Cx) : Prop := TOk t Φ k X.prog X.w X.K X.mg X.base T
theorem padN_len {np : Nat} {dl : List D} {n : Nat} {ds : List D} (h : padN np dl n = some ds) : n + ds.length = np := by
  unfold padN at h
  split at h
  · simp only [Option.some.injEq] at h
    rw [← h, List.length_drop]
    omega
  · cases h
theorem sp_of {np : Nat} {F : List D → AH → Res D} {ds : List D} {vs : List V} (hv : VRs K Z ρ H ds vs) (R : Rel K Z ρ H T A) (h : RG K T Z ρ H (PQ K Z Q) (EXK K Z E) (callF np F ds A)) : spM K T np F vs H Q E := by
  unfold callF at h
  split at h
  · exact ⟨Z, ds, A, ρ, ‹_›, hv, R, h⟩
  · exact absurd h id
theorem args_star {es : List Expr} (h : argsOk es = true) : es.all noStar = true ∧ es.length < 25 := by
  unfold argsOk at h
  rw [Bool.and_eq_true, decide_eq_true_eq] at h
  exact h
theorem sp_cons {np : Nat} {F : List D → AH → Res D} {d : D} {ds : List D} {v : V} {vs : List V} (hv : VR K Z ρ H d v) (hvs : VRs K Z ρ H ds vs) (R : Rel K Z ρ H T A) (h : RG K T Z ρ H (PQ K Z Q) (EXK K Z E) (callF np F (d :: ds) A)) : spM K T np F (v :: vs) H Q E := sp_of (VRs.cons hv hvs) R h
theorem pe_callN_fn {x : Str} {p pos : Pos} {es : List Expr} {np : Nat} {dl dvs : List D} {f : Expr → ME} (to : TOkX t Φ k T X) (hr : Room k X.A) (tk : Pz X E) (hg : Gl X x) (hd : plainName x = true) (ha : argsOk es = true) (hl : t.gs.lookup x = some (.fn np dl)) (hp : padN np dl es.length = some dvs)
    (hf : ∀ e, PE X e (eM X.K T Z E (f e))) : PE X (.Call (.Name x p) es [] pos) (eM X.K T Z E (aR (aE f es) fun ds A => callF np (Φ x) (ds ++ dvs) A)) := by
  obtain ⟨f, fd, ps, e1, e2, e3, F⟩ := to.fn x np dl hl
  obtain ⟨us, vs, b1, b2, b3⟩ := e3.2 _ _ hp
  obtain ⟨s1, s2⟩ := args_star ha
  cases es with
  | nil =>
    refine pe_weak (pe_call0 F hr hg e1 e2 b1 b2 (tk_passes tk) (plain_ok hd).1) fun σ H Q h => ?_
    obtain ⟨L, A, ρ, lr, R, h⟩ := h
    exact sp_of (VRs.append VRs.nil (svs_VRs b3)) R h
  | cons e es =>
    have hm := pa_M hf (e :: es)
    rw [List.all_cons, Bool.and_eq_true] at s1
    refine pe_weak (pe_callSD F hr hg e1 e2 b1 b2 (fun σ => tk_pass tk σ) hm (plain_ok hd).1 (star_one s1.1) (star_none s1.2)) fun σ H Q h => ?_
    obtain ⟨L, A, ρ, lr, R, h⟩ := h
    exact ⟨L, A, ρ, lr, R, RG.bind h fun ds A1 ρ1 H1 f1 R1 h1 ws hws => sp_of (VRs.append hws (svs_VRs b3)) R1 h1⟩
/-- a new instance -/
theorem rel_ins {C x dx : Addr} (R : Rel K Z ρ H T A) (hx : H x = none) (hdx : H dx = none) (ne : dx ≠ x) : Fut ρ H (ρ ++ [x]) (upd (upd H dx (.own x)) x (.ins C dx [])) ∧ Rel K Z (ρ ++ [x]) (upd (upd H dx (.own x)) x (.ins C dx [])) T (A ++ [.ins C []]) := by
  have f1 : Fut ρ H ρ (upd H dx (.own x)) := Fut.new1 hdx
  have R1 : Rel K Z ρ (upd H dx (.own x)) T A := R.new1 hdx
  have hx1 : upd H dx (.own x) x = none := by rw [upd_ne (Ne.symm ne)]; exact hx
  refine ⟨f1.trans (Fut.push hx1), R1.push hx1 ⟨dx, [], upd_same, ?_⟩⟩
  simp only [FR]
theorem obj_at {x : Addr} (R : Rel K Z ρ H T A) {o : HO} : VR K Z (ρ ++ [x]) (upd H x o) (.obj A.length) (.ref x) := by
  simp only [VR]
  exact ⟨x, by rw [← R.len]; simp, rfl⟩
theorem pe_callN_cls {x : Str} {p pos : Pos} {es : List Expr} {C : Addr} {init : Str} {np : Nat} {dl dvs : List D} {f : Expr → ME} (to : TOkX t Φ k T X) (hr : Room (k + 1) X.A) (tk : Pz X E) (hg : Gl X x) (hd : plainName x = true) (ha : argsOk es = true) (hl : t.gs.lookup x = some (.cls C init np dl)) (hp : padN np dl (es.length + 1) = some dvs)
    (hf : ∀ e, PE X e (eM X.K T Z E (f e))) : PE X (.Call (.Name x p) es [] pos) (eM X.K T Z E (aR (aE f es) fun ds A => (callF np (Φ init) (.obj A.length :: (ds ++ dvs)) (A ++ [.ins C []])).bind fun r A1 => match r with
        | .non => .ok (.obj A.length) A1
        | _ => .stuck)) := by
  obtain ⟨e1, f0, fd, ps, Mm, e3, F⟩ := to.cls x C init np dl hl
  obtain ⟨us, vs, b1, b2, b3⟩ := e3.2 _ _ hp
  obtain ⟨s1, s2⟩ := args_star ha
  have body : ∀ {L : M.Loc} {A A1 : AH} {ρ ρ1 : List Addr} {H H1 : Hp} {ds : List D} {ws : List V} {Q : VK}, Rel X.K Z ρ1 H1 T A1 → VRs X.K Z ρ1 H1 ds ws →
      RG X.K T Z ρ1 H1 (PQ X.K Z Q) (EXK X.K Z E) ((callF np (Φ init) (.obj A1.length :: (ds ++ dvs)) (A1 ++ [.ins C []])).bind fun r A1' => match r with
        | .non => .ok (.obj A1.length) A1'
        | _ => .stuck) →
      ∀ (y dx : Addr), H1 y = none → H1 dx = none → dx ≠ y → spM X.K T np (Φ init) (.ref y :: (ws ++ vs)) (upd (upd H1 dx (.own y)) y (.ins C dx [])) (fun v H2 => v = .non ∧ Q (.ref y) H2) E := by
    intro L A A1 ρ ρ1 H H1 ds ws Q R1 hws h1 y dx hy hdx ne
    obtain ⟨f2, R2⟩ := rel_ins (C := C) R1 hy hdx ne
    have hobj : VR X.K Z (ρ1 ++ [y]) (upd (upd H1 dx (.own y)) y (.ins C dx [])) (.obj A1.length) (.ref y) := by
      simp only [VR]
      exact ⟨y, by rw [← R1.len]; simp, rfl⟩
    refine sp_cons hobj (VRs.fut R1 f2 _ (VRs.append hws (svs_VRs b3))) R2 ?_
    refine RG.bind (RG.fut f2 h1) fun r A2 ρ2 H2 f3 R3 h2 v hv => ?_
    split at h2
    · simp only [VR] at hv
      exact ⟨hv, RG.ok R3 h2 _ (VR.fut R2 f3 _ hobj)⟩
    · exact absurd h2 id
  cases es with
  | nil =>
    refine pe_weak (pe_make0 Mm F hr hg e1 b1 b2 (tk_passes tk) (plain_ok hd).1) fun σ H Q h => ?_
    obtain ⟨L, A, ρ, lr, R, h⟩ := h
    exact fun y dx hy hdx ne => body (L := L) (A := A) (ρ := ρ) (H := H) R VRs.nil h y dx hy hdx ne
  | cons e es =>
    have hm := pa_M hf (e :: es)
    rw [List.all_cons, Bool.and_eq_true] at s1
    refine pe_weak (pe_make Mm F hr hg e1 b1 b2 (tk_passes tk) hm (plain_ok hd).1 (star_one s1.1) (star_none s1.2)) fun σ H Q h => ?_
    obtain ⟨L, A, ρ, lr, R, h⟩ := h
    exact ⟨L, A, ρ, lr, R, RG.bind h fun ds A1 ρ1 H1 f1 R1 h1 ws hws y dx hy hdx ne => body (L := L) (A := A) (ρ := ρ) (H := H) R1 hws h1 y dx hy hdx ne⟩
/-- built-in functions by their names -/
theorem bi_M (b : B) (hc : X.calm = true) : (∃ id, CallR X (.builtin id) (rDL X.K T Z (biM b)) ∧ ∀ x, bNames.lookup x = some b → bootBuiltins x = some (.builtin id) ∧ x ∈ biNames ∧ x ≠ "__name__") ∨ (∃ id, CallR X (.type id) (rDL X.K T Z (biM b)) ∧ ∀ x, bNames.lookup x = some b → bootBuiltins x = some (.type id) ∧ x ∈ biNames ∧ x ≠ "__name__") := by
  have inv : ∀ x b, bNames.lookup x = some b → (x, b) ∈ bNames := by
    intro x b h
    have gen : ∀ l : List (Str × B), l.lookup x = some b → (x, b) ∈ l := by
      intro l
      induction l with
      | nil => intro h; cases h
      | cons p l ih =>
        intro h
        rw [List.lookup_cons] at h
        split at h
        · rename_i e
          simp only [Option.some.injEq] at h
          have : x = p.1 := by simpa using e
          rw [this, ← h]
          exact List.mem_cons_self
        · exact List.mem_cons_of_mem _ (ih h)
    exact gen _ h
  cases b
  case len => exact .inl ⟨_, bi_len, fun x h => by have := inv x _ h; simp [bNames] at this; subst this; exact ⟨PySem.boot_len, by decide +kernel, by decide +kernel⟩⟩
  case isi => exact .inl ⟨_, bi_isi, fun x h => by have := inv x _ h; simp [bNames] at this; subst this; exact ⟨by decide +kernel, by decide +kernel, by decide +kernel⟩⟩
  case max => exact .inl ⟨_, bi_max hc, fun x h => by have := inv x _ h; simp [bNames] at this; subst this; exact ⟨by decide +kernel, by decide +kernel, by decide +kernel⟩⟩
  case min => exact .inl ⟨_, bi_min hc, fun x h => by have := inv x _ h; simp [bNames] at this; subst this; exact ⟨by decide +kernel, by decide +kernel, by decide +kernel⟩⟩
  case all => exact .inl ⟨_, bi_all hc, fun x h => by have := inv x _ h; simp [bNames] at this; subst this; exact ⟨by decide +kernel, by decide +kernel, by decide +kernel⟩⟩
  case any => exact .inl ⟨_, bi_any hc, fun x h => by have := inv x _ h; simp [bNames] at this; subst this; exact ⟨by decide +kernel, by decide +kernel, by decide +kernel⟩⟩
  case int => exact .inr ⟨_, bi_int, fun x h => by have := inv x _ h; simp [bNames] at this; subst this; exact ⟨by decide +kernel, by decide +kernel, by decide +kernel⟩⟩
  case str => exact .inr ⟨_, bi_str, fun x h => by have := inv x _ h; simp [bNames] at this; subst this; exact ⟨by decide +kernel, by decide +kernel, by decide +kernel⟩⟩
  case tuple => exact .inr ⟨_, bi_tuple, fun x h => by have := inv x _ h; simp [bNames] at this; subst this; exact ⟨by decide +kernel, by decide +kernel, by decide +kernel⟩⟩
  case list => exact .inr ⟨_, bi_list, fun x h => by have := inv x _ h; simp [bNames] at this; subst this; exact ⟨by decide +kernel, by decide +kernel, by decide +kernel⟩⟩
theorem lookup_memB {x : Str} (h : bNames.lookup x = some .tuple) : x = "tuple" := by
  have gen : ∀ l : List (Str × B), l.lookup x = some .tuple → (x, B.tuple) ∈ l := by
    intro l
    induction l with
    | nil => intro h; cases h
    | cons p l ih =>
      intro h
      rw [List.lookup_cons] at h
      split at h
      · rename_i e
        simp only [Option.some.injEq] at h
        have : x = p.1 := by simpa using e
        rw [this, ← h]
        exact List.mem_cons_self
      · exact List.mem_cons_of_mem _ (ih h)
  have := gen _ h
  simpa [bNames] using this
theorem boot_tupleB : bootBuiltins ("tuple" : Str) = some (.type "tuple") := by decide +kernel
/-- a rule, or one of many -/
theorem CallR.weak2 {ι κ : Type} {p : ι → κ → Prop} {f : Value} {r r' : List V → Hp → VK → Prop} {q : ι → κ → List V → Hp → VK → Prop} (h : CallR X f r) (g : ∀ i j, p i j → CallR X f (q i j)) (i : ∀ xs H Q, r' xs H Q → r xs H Q ∨ ∃ i j, p i j ∧ q i j xs H Q) : CallR X f r' :=
  fun pins s σ H xs us Q I rv z => by
    rcases i xs H Q z with z | ⟨a, b, c, z⟩
    · exact h pins s σ H xs us Q I rv z
    · exact g a b c pins s σ H xs us Q I rv z
theorem pe_callN_M {x : Str} {p pos : Pos} {es : List Expr} {f : Expr → ME} (xo : XOk g X) (to : TOkX t Φ k T X) (hr : Room (k + 1) X.A) (tk : Pz X E) (hf : ∀ e, PE X e (eM X.K T Z E (f e))) : PE X (.Call (.Name x p) es [] pos) (eM X.K T Z E (callN t g Φ f x es)) := by
  unfold callN
  split
  · rename_i c
    rw [Bool.and_eq_true, Bool.and_eq_true] at c
    obtain ⟨⟨c1, c2⟩, c3⟩ := c
    have hg := isGl_ok xo.toXOk0 c1
    split
    · rename_i np dl hl
      split
      · exact pe_callN_fn to (hr.mono (Nat.le_succ _)) tk hg c2 c3 hl ‹_› hf
      · exact pe_stuck_M
    · rename_i C init np dl hl
      split
      · exact pe_callN_cls to hr tk hg c2 c3 hl ‹_› hf
      · exact pe_stuck_M
    · exact pe_stuck_M
    · rename_i hl
      split
      · rename_i b hb
        cases es with
        | nil => exact pe_stuck_M
        | cons e es =>
          have hm := pa_M hf (e :: es)
          have s1 := (args_star c3).1
          rw [List.all_cons, Bool.and_eq_true] at s1
          have rule : (∃ id, CallR X (.builtin id) (rDL X.K T Z (biS t.S b)) ∧ bootBuiltins x = some (.builtin id) ∧ x ∈ biNames ∧ x ≠ "__name__") ∨ (∃ id, CallR X (.type id) (rDL X.K T Z (biS t.S b)) ∧ bootBuiltins x = some (.type id) ∧ x ∈ biNames ∧ x ≠ "__name__") := by
            by_cases htp : b = .tuple
            · subst htp
              rcases bi_M (T := T) (Z := Z) .tuple xo.calm with ⟨id, r, hx⟩ | ⟨id, r, hx⟩
              · have h1 := (hx x hb).1
                have hm := lookup_memB hb
                rw [hm] at h1
                rw [boot_tupleB] at h1
                cases h1
              · obtain ⟨h1, h2, h3⟩ := hx x hb
                have hm := lookup_memB hb
                have hid : id = "tuple" := by
                  have h1' := h1
                  rw [hm, boot_tupleB] at h1'
                  cases h1'
                  rfl
                subst hid
                refine .inr ⟨_, ?_, h1, h2, h3⟩
                refine CallR.weak2 r (fun d l e => to.S.tp d l e X rfl rfl xo.calm) ?_
                rintro xs H Q ⟨ds, A, ρ, F, rs, R, h⟩
                unfold biS at h
                split at h
                · rename_i d _
                  split at h
                  · rename_i l hl
                    obtain ⟨v, rfl, hv⟩ := rs.one
                    simp only [VR] at hv
                    subst hv
                    exact .inr ⟨d, l, hl, rfl, fun p hp => rg_tup R h (VRs_map _ _ (fun _ => by simp only [VR]) l) hp⟩
                  · exact absurd h id
                · rename_i b' ds' hne hb' hds'
                  exact .inl ⟨_, A, ρ, F, rs, R, h⟩
            · have hE : biS t.S b = biM b := by
                funext ds A
                unfold biS
                split
                · exact absurd rfl htp
                · rfl
              rw [hE]
              rcases bi_M (T := T) (Z := Z) b xo.calm with ⟨id, r, hx⟩ | ⟨id, r, hx⟩
              · obtain ⟨h1, h2, h3⟩ := hx x hb
                exact .inl ⟨id, r, h1, h2, h3⟩
              · obtain ⟨h1, h2, h3⟩ := hx x hb
                exact .inr ⟨id, r, h1, h2, h3⟩
          have fin : ∀ σ H Q, eM X.K T Z E (aR (aE f (e :: es)) (biS t.S b)) σ H Q → tCB (rDL X.K T Z (biS t.S b)) (aM X.K T Z E (aE f (e :: es))) σ H Q := by
            intro σ H Q h
            obtain ⟨L, A, ρ, lr, R, h⟩ := h
            exact ⟨L, A, ρ, lr, R, RG.bind h fun ds A1 ρ1 H1 f1 R1 h1 ws hws => ⟨ds, A1, ρ1, _, hws, R1, h1⟩⟩
          rcases rule with ⟨id, r, h1, h2, h3⟩ | ⟨id, r, h1, h2, h3⟩
          · exact pe_weak (pe_callB r hg (to.bi x hl h2) h1 hm h3 (plain_ok c2).1 (star_one s1.1) (star_none s1.2)) fin
          · exact pe_weak (pe_callTy r hg (to.bi x hl h2) h1 hm h3 (plain_ok c2).1 (star_one s1.1) (star_none s1.2)) fin
      · exact pe_stuck_M
  · exact pe_stuck_M
end
end M
end
/-! ## LX -/
section
set_option linter.all false
set_option maxRecDepth 100000
set_option maxHeartbeats 4000000
/-! A list comprehension whose element may raise. -/
namespace LX
open PySem PySem.Spec PyProof.Rows L2
section
variable {X : Cx}
/-- an exception held at its frame leaves the block of names -/
theorem fails_held {M : Model} {A : Around} {F : Value → Shared → Prop} {s : Shared} {B : Heap} {ce : Env} {l : List Env} {a L : Addr} {Zp : Obj → Prop} {m : Str → Option Value}
    (hf : ce.frame = some L) (hB : B.get? ce.locals = none) (hn : s.heap.Ns ce.locals m) (hh : HandSPX.HeldZ B l a Zp L s.heap)
    (q : ∀ h', HandSPX.HeldZ B l a Zp L h' → (∀ b o, b ≠ ce.locals → s.heap.get? b = some o → (∀ vs, o.data ≠ .fields vs) → ∃ sl, h'.get? b = some { o with slots := sl }) → F (.ref a) { s with heap := h' }) : CompFails M A F ce (.ref a) s := by
  refine ⟨m, hn, fun h2 m2 hn2 sb => ?_⟩
  obtain ⟨k1, k2, k3, oe, vs, Tb, oT, ts, t1, t2, t3, t4, t5, t6, t7, t8, t9⟩ := hh
  -- the namespace is no record
  obtain ⟨oN, esN, epN, eN, dN, _⟩ := hn
  have nrec : ∀ b o vs, s.heap.get? b = some o → o.data = .fields vs → b ≠ ce.locals := fun b o vs e d z => by
    rw [z, eN] at e
    cases e
    rw [dN] at d
    cases d
  have at2 : ∀ b, b ≠ ce.locals → h2.get? b = s.heap.get? b := sb.2
  have kB : B.StaysIn h2 := fun b o e => (at2 b fun z => by rw [z, hB] at e; cases e).trans (k1 b o e)
  have fr2 : h2.FunFrames B l := Heap.FunFrames.sameBut sb hn2 k3
  have tr2 : HandSPX.TracedZ h2 B a Zp (rawInt L) := ⟨oe, vs, Tb, oT, ts, (at2 a (nrec a oe vs t1 t3)).trans t1, t2, t3, t4, t5, t6, (at2 Tb (nrec Tb oT ts t7 t8)).trans t7, t8, t9⟩
  unfold PySem.passOn
  refine wpAny_bind (wpAny_field ((at2 a (nrec a oe vs t1 t3)).trans t1) t3 t4 ?_)
  rw [if_neg (show ¬ ((Value.ref Tb == Value.none) = true) by simp), hf]
  refine wpAny_bind (HandSPX.setFlight_anyZ kB fr2 tr2 fun h3 j1 j2 j3 j4 => wpAny_throw (q h3 ⟨j1, k2, j2, j3⟩ fun b o nb e nf => ?_))
  exact j4 b o ((at2 b nb).trans e) nf
/-- what the block lets out is what the def lets out -/
theorem out_of_block {s3 sI : Shared} {H3 HI : Hp} {sc : Scope} {ce : Env} {fp : List Addr} {pins pb : List (Addr × Obj)} {σ σI : L2.St} {E : XK} {u : Value} {s' : Shared} {xe' : Value → Shared → Prop}
    (hs : X.stack = X.env :: X.outer) (hf : X.env.frame = some X.env.locals) (tk : L2N.Takes X (fun c d _ H => E c d H))
    (I3 : Inv X pins σ H3 s3) (hce : ce.frame = X.env.frame) (hloc : s3.heap.objs.size ≤ ce.locals)
    (hfp : ∀ b ∈ fp, FpOk X pins H3 b ∧ b < s3.heap.objs.size)
    (II : Inv ((X.blk s3 H3 sc ce fp).tr [] xe') pb σI HI sI)
    (c : L2N.CX X.prog X.w X.stack HI sI E u s') : notedBy (model X.prog X.w) X.A ce (CompFails (model X.prog X.w) X.A X.xe ce) u s' := by
  obtain ⟨a, B, H', cls, d, rfl, fl, hok, ub, na, os, ag, hE⟩ := c
  have hfr : X.A.frames = some (X.env :: X.outer) := by rw [I3.ok.frames, hs]
  have hC3 : s3.heap.get? ce.locals = none := by
    cases e : s3.heap.get? ce.locals with
    | none => rfl
    | some o => exact absurd (Heap.lt_size e) (Nat.not_lt.mpr hloc)
  -- the block's names, where the call began
  obtain ⟨m, ⟨oN, esN, epN, eN, dN, rN⟩, _⟩ := II.loc
  have eN : sI.heap.get? ce.locals = some oN := eN
  have nC : HI ce.locals = none := II.free
  have nC' : H' ce.locals = none := ub.free _ _ eN nC
  have stk : ∀ {b}, b ∈ frs X.stack → B.get? b = none ∧ ∃ o, s'.heap.get? b = some o ∧ ∀ vs, o.data ≠ .fields vs := fun {b} hb => fl.2.2.1.mem hb
  have oldst : ∀ b ∈ frs X.stack, b ≠ ce.locals := fun b hb z => by
    rcases List.mem_cons.mp (I3.stkSub b hb) with e | e
    · have := I3.lt
      rw [← e, z] at this
      exact absurd this (Nat.not_lt.mpr hloc)
    · exact I3.nofs hloc (z ▸ e)
  have eB : B.get? ce.locals = some oN := ub.keep _ _ eN nC fun hb => oldst _ hb rfl
  -- the ground without the block of names
  obtain ⟨G, g1, g2⟩ := restrict B fun b => !decide (b = ce.locals)
  have gB : ∀ b o, G.get? b = some o → B.get? b = some o ∧ b ≠ ce.locals := fun b o e => by
    by_cases hb : b = ce.locals
    · rw [g2 b (by simp [hb])] at e
      cases e
    · rw [g1 b (by simp [hb])] at e
      exact ⟨e, hb⟩
  have gof : ∀ b, b ≠ ce.locals → G.get? b = B.get? b := fun b hb => g1 b (by simp [hb])
  have gnone : ∀ b, B.get? b = none → G.get? b = none := fun b e => by
    cases q : G.get? b with
    | none => rfl
    | some o => rw [(gB b o q).1] at e; cases e
  have gC : G.get? ce.locals = none := g2 _ (by simp)
  have lessF : ∀ {h : Heap} {l : List Env}, h.FunFrames B l → h.FunFrames G l := fun {h l} => by
    induction l with
    | nil => exact fun _ => trivial
    | cons e l ih => exact fun ⟨k1, ⟨L, o, k2, k3, k4, k5⟩, k6⟩ => ⟨k1, ⟨L, o, k2, gnone L k3, k4, k5⟩, ih k6⟩
  show wpAny _ _ (noteFrame (.ref a) ce) _ _ s'
  rw [noteFrame_env _ hce]
  rw [hs] at fl
  refine PXN.looks_onZ L2N.Zn.steady hfr hf fl fun h1 hh up => ?_
  obtain ⟨k1, k2, k3, oe, vs, Tb, oT, ts, t1, t2, t3, t4, t5, t6⟩ := hh
  have hhG : HandSPX.HeldZ G (X.env :: X.outer) a (L2N.Zn cls d) X.env.locals h1 := ⟨fun b o e => k1 b o (gB b o e).1, gnone _ k2, lessF k3, oe, vs, Tb, oT, ts, t1, t2, t3, t4, gnone _ t5, t6⟩
  refine fails_held (m := m) (hce.trans hf) gC ⟨oN, esN, epN, k1 _ _ eB, dN, rN⟩ hhG fun h2 hh2 sl2 => tk _ _ ?_
  -- the state without the exception
  obtain ⟨G2, p1, p2⟩ := restrict h2 fun b => (G.get? b).isSome || decide (b ∈ frs X.stack)
  have st2 : G.StaysIn h2 := hh2.1
  have inG : ∀ b o, G.get? b = some o → G2.get? b = some o := fun b o e => by
    rw [p1 b (by simp [e])]
    exact st2 b o e
  have inF : ∀ b, b ∈ frs X.stack → G2.get? b = h2.get? b := fun b hb => p1 b (by simp [hb])
  have outG : ∀ b o, G2.get? b = some o → h2.get? b = some o ∧ ((G.get? b).isSome = true ∨ b ∈ frs X.stack) := fun b o e => by
    cases q : ((G.get? b).isSome || decide (b ∈ frs X.stack)) with
    | false => rw [p2 b q] at e; cases e
    | true =>
      rw [p1 b q] at e
      exact ⟨e, by simpa [Bool.or_eq_true] using q⟩
  have ne3 : ∀ {b o}, s3.heap.get? b = some o → b ≠ ce.locals := fun {b o} e z => by rw [z, hC3] at e; cases e
  have frame2 : ∀ b o, sI.heap.get? b = some o → b ∈ frs X.stack → ∃ sl, G2.get? b = some { o with slots := sl } := fun b o e hb => by
    obtain ⟨sl, e1⟩ := ub.slot b o e hb
    have hnf : ∀ vs, o.data ≠ .fields vs := fun vs z => by
      obtain ⟨_, o', e', n'⟩ := stk hb
      rw [e1] at e'
      cases e'
      exact n' vs z
    obtain ⟨sl', e2⟩ := up b _ e1 hnf
    obtain ⟨sl'', e3⟩ := sl2 b _ (oldst b hb) e2 hnf
    exact ⟨sl'', by rw [inF b hb]; exact e3⟩
  have base : Un (frs X.stack) fp H3 HI s3.heap sI.heap := II.base
  have un : Un (frs X.stack) fp H3 H' s3.heap G2 := {
    keep := fun b o e n hb hx => inG b o (by rw [gof b (ne3 e)]; exact ub.keep b o (base.keep b o e n hb hx) (base.free b o e n hx) hb)
    slot := fun b o e n hb hx => by
      obtain ⟨sl, e1⟩ := base.slot b o e n hb hx
      obtain ⟨sl', e2⟩ := frame2 b { o with slots := sl } e1 hb
      exact ⟨sl', e2⟩
    free := fun b o e n hx => by
      obtain ⟨o', e1⟩ := base.there b o e hx
      exact ub.free b o' e1 (base.free b o e n hx)
    there := fun b o e hx => by
      obtain ⟨o', e1⟩ := base.there b o e hx
      by_cases hb : b ∈ frs X.stack
      · obtain ⟨sl, e2⟩ := frame2 b o' e1 hb
        exact ⟨_, e2⟩
      · obtain ⟨o2, e2⟩ := ub.there b o' e1 hb
        exact ⟨o2, inG b o2 (by rw [gof b (ne3 e)]; exact e2)⟩
    tups := fun b xs e => ub.tups b xs (base.tups b xs e)
    frzs := fun b o xs e => ub.frzs b o xs (base.frzs b o xs e)
    tbls := fun b ps e => by
      obtain ⟨m1, e1⟩ := base.tbls b ps e
      obtain ⟨m2, e2⟩ := ub.tbls b _ e1
      exact ⟨m1 ++ m2, by rw [e2, Array.append_assoc]⟩ }
  have hok2 : HOk X.prog X.w H' G2 := fun b o e => (hok b o e).stay (fun c u hc eu => by
    have hcl : c ≠ ce.locals := fun z => by
      rcases hc with hc | hc
      · rw [← hc, z, nC'] at e
        cases e
      · rw [z, nC'] at hc
        cases hc
    exact inG c u (by rw [gof c hcl]; exact eu)) (fun _ q => q) fun _ _ q => q
  have J : Inv X pins σ H' { sI with heap := G2, gens := s'.gens, os := s'.os } := I3.call' (ch := fp) (by show s'.os = s3.os; rw [os]; exact II.os) un hok2 ag fun b hb => ⟨(hfp b hb).1.2.2.2.1, (hfp b hb).1.2.1, (hfp b hb).1.2.2.2.2.1, (hfp b hb).1.2.2.2.2.2⟩
  refine ⟨a, G, { sI with heap := G2, gens := s'.gens, os := s'.os }, pins, σ, H', cls, d, rfl, J, fun b o e hb => ?_, Heap.UpToSlots.of_keeps fun b o e => (outG b o e).1, .inr (.inr (by rw [hs]; exact hh2)), na, rfl, ag, hE⟩
  rcases (outG b o e).2 with z | z
  · obtain ⟨o', e'⟩ := Option.isSome_iff_exists.mp z
    have := inG b o' e'
    rw [e] at this
    cases this
    exact e'
  · exact absurd z hb
/-- the block of a comprehension, from which an exception goes on -/
abbrev blkX (X : Cx) (s : Shared) (H : Hp) (sc : Scope) (C : Addr) (cl : List (Str × Addr)) (fp : List Addr) : Cx :=
  (X.blk s H sc (compEnvC sc cl C X.env) fp).tr [] (notedBy (model X.prog X.w) X.A (compEnvC sc cl C X.env) (CompFails (model X.prog X.w) X.A X.xe (compEnvC sc cl C X.env)))
/-- the heart of a list comprehension, its element with a wish of what it raises -/
theorem lcx {pins : List (Addr × Obj)} {s : Shared} {σ : L2.St} {H : Hp} {Q : VK} {E : XK} {elt tg iter : Expr} {ifs : List Expr} {sc : Scope} {own : List (Str × Nat)} {pos pos' : Pos} {wi : L2.TI} {g : TG} {tt : TT} {te : TE} {use : Option (Value → Sem Unit)} {Qf : Value → Shared → Prop}
    (hs : X.stack = X.env :: X.outer) (hf : X.env.frame = some X.env.locals) (tk : L2N.Takes X (fun c d _ H => E c d H)) (hc : X.calm = true) (hN : X.N.Nodup) (I : Inv X pins σ H s) (hi : L2.PI X tg iter wi) (ok : BlkOk X.N X.env.scope sc own)
    (hg : ∀ (s : Shared) (H : Hp) (C : Addr) (cl : List (Str × Addr)) (fp : List Addr), PG (blkX X s H sc C cl fp) tg g)
    (ht : ∀ (s : Shared) (H : Hp) (C : Addr) (cl : List (Str × Addr)) (fp : List Addr), PTs (blkX X s H sc C cl fp) ifs tt)
    (he : ∀ (s : Shared) (H : Hp) (C : Addr) (cl : List (Str × Addr)) (fp : List Addr), Passes (L2N.CX X.prog X.w) (blkX X s H sc C cl fp) E → PE (blkX X s H sc C cl fp) elt te)
    (hz : ∀ x, foldedSetIterable iter X.env x = pure x) (h : tLc wi g tt te (own.map (·.2)) σ H Q)
    (fin : ∀ D C s' m H', Inv X pins σ H' s' → Q (.ref D) H' → s'.heap.Ns C m → FpOk X pins H' C → ∀ ce : Env, ce.locals = C → compEnds (model X.prog X.w) X.A X.xe use Qf (.ref D) ce (.ok .next) s') :
    wpAny (model X.prog X.w) X.A (comprehension (.ListComp elt [⟨tg, iter, ifs, 0⟩] sc pos) sc X.env pos' (newList []) false (eval iter X.env) use) Qf X.xe s := by
  have clo : ∀ y ∈ sc.names, y.2 = .free → ∃ c, X.env.cells.lookup y.1 = some c := fun y hy e => (ok.free y hy e).elim (fun k => I.ok.has _ (.inl k)) fun k => I.ok.has _ (.inr k)
  refine comprehension_at (use := use) rfl hz (closure_ok clo) ok.kind (fun y hy e => (ok.uniq y hy).trans (by rw [e])) (thn (hi.run pins s σ H _ I h) fun xv s1 hx => thn hx fun itv s2 h2 => ?_)
  obtain ⟨it, fp, tn, J, H2, rfl, I2, Tn, st2, f2, q⟩ := h2
  refine wpAny_newObj_type (newEnv_comp ?_) (by show 0 ≤ sizeLine; decide)
  -- D: the list; C: the block's names
  obtain ⟨D, hD⟩ : ∃ D, s2.heap.objs.size = D := ⟨_, rfl⟩
  have freshD : H2 D = none := I2.hok.fresh (Nat.le_of_eq hD)
  obtain ⟨W, ⟨m0, w0⟩, turn⟩ := q D freshD
  obtain ⟨s3, hs3⟩ : ∃ s3 : Shared, ({ s2 with heap := s2.heap.push { cls := .type "list", data := .seq ([] : List Value).toArray } } : Shared) = s3 := ⟨_, rfl⟩
  have heap3 : s3.heap = s2.heap.push { cls := .type "list", data := .seq ([] : List Value).toArray } := congrArg (·.heap) hs3.symm
  have I3 : Inv X pins σ (upd H2 D (.lst [])) s3 := hs3 ▸ I2.laid (t' := s2.toks) (fun b o e => Heap.get?_push_of_some _ e) (Nat.le_of_eq hD) ⟨Nat.zero_le _, [], 0, .nil, hD ▸ Heap.get?_push_size _ rfl⟩
  have low : ∀ b ∈ fp, b < s2.heap.objs.size := fun b hb => let ⟨o, e, _⟩ := Tn.obj _ _ st2 b hb; Heap.lt_size e
  have f3 : ∀ b ∈ fp, FpOk X pins (upd H2 D (.lst [])) b ∧ b < s3.heap.objs.size := fun b hb =>
    ⟨⟨(upd_ne (hD ▸ Nat.ne_of_lt (low b hb))).trans (f2 b hb).1, (f2 b hb).2⟩, by rw [heap3, Heap.size_push]; exact Nat.lt_succ_of_lt (low b hb)⟩
  have st3 : tn 0 s3.heap := Tn.keep _ _ _ st2 fun b _ o e => by rw [heap3]; exact Heap.get?_push_of_some _ e
  obtain ⟨H3, hH3⟩ : ∃ H3, upd H2 D (.lst []) = H3 := ⟨_, rfl⟩
  rw [hH3] at I3 f3 w0
  obtain ⟨cl, hcl⟩ : ∃ cl, cellsFrom (s3.heap.objs.size + 1) sc.names (cloFrom X.env.cells sc.names []) = cl := ⟨_, rfl⟩
  obtain ⟨C, hC⟩ : ∃ C, s3.heap.objs.size = C := ⟨_, rfl⟩
  have B0 := block_start I3 ok hN f3
  rw [hcl, hC] at B0
  -- the block where its exceptions go on
  have B1 : Inv (blkX X s3 H3 sc C cl fp) [] (wipe σ (own.map (·.2))) H3 { s3 with heap := pushCells (s3.heap.push { cls := .type "dict", data := .dict #[] }) sc.names } := B0.toTry _
  have ps : Passes (L2N.CX X.prog X.w) (blkX X s3 H3 sc C cl fp) E := fun pb σb Hb sb e s' Ib c => out_of_block hs hf tk I3 rfl (Nat.le_of_eq hC) f3 Ib c
  have pg := hg s3 H3 C cl fp
  have pt := ht s3 H3 C cl fp
  have pe := he s3 H3 C cl fp ps
  obtain ⟨s4, hs4⟩ : ∃ s4 : Shared, ({ s3 with heap := pushCells (s3.heap.push { cls := .type "dict", data := .dict #[] }) sc.names } : Shared) = s4 := ⟨_, rfl⟩
  rw [hs4] at B1
  have st4 : tn 0 s4.heap := Tn.keep _ _ _ st3 fun b _ o e => by rw [← hs4]; exact pushCells_keeps _ _ _ _ (Heap.get?_push_of_some _ e)
  have go : codeAny (model X.prog X.w) X.A (.compStart (.ListComp elt [⟨tg, iter, ifs, 0⟩] sc pos) 0 (.ref it) (.ref D) (compEnvC sc cl C X.env)) (compEnds (model X.prog X.w) X.A X.xe use Qf (.ref D) (compEnvC sc cl C X.env)) s4 := by
    have iterOk : ∀ {σ' : L2.St} {H' : Hp} {s' : Shared}, Inv (blkX X s3 H3 sc C cl fp) [] σ' H' s' → (∀ b ∈ fp, H' b = none) → ∀ b ∈ fp, FpOk (blkX X s3 H3 sc C cl fp) [] H' b := fun {σ' H' s'} I' hn b hb =>
      ⟨hn b hb, (I'.ok.exf b hb).1, I'.ok.exfs b hb, .inl hb, fun x c e => (I'.ok.exf b hb).2 x c e, fun p hp => nomatch (show p ∈ ([] : List (Addr × Obj)) ++ [] from hp)⟩
    refine codeAny_compStart_list ?_ (Tn.self X.A 0 _ _ _ st4 ?_) <;>
    · refine compLoop_any (fun n s' => ∃ i H', Inv (blkX X s3 H3 sc C cl fp) [] (wipe σ (own.map (·.2))) H' s' ∧ tn i s'.heap ∧ (∀ b ∈ fp, H' b = none) ∧ W i n H') ?_ m0 ⟨0, H3, B1, st4, fun b hb => (f3 b hb).1.1, w0⟩
      rintro n s5 ⟨i, H5, I5, st5, n5, w5⟩
      rcases turn i n H5 w5 with ⟨stop, qq⟩ | ⟨hgo, Nx, hNx, step⟩
      · refine thn (Tn.done (blkX X s3 H3 sc C cl fp) rfl rfl rfl hc i [] s5 _ H5 _ I5 (iterOk I5 n5) st5 stop) fun r s6 ⟨hr, I6⟩ => ?_
        subst hr
        have nC : H5 C = none := I6.free
        obtain ⟨m, hn, _⟩ := I6.loc
        exact fin D C s6 m H5 (I3.call' (ch := fp) I6.os I6.base I6.hok I6.bare fun b hb => ⟨(f3 b hb).1.2.2.2.1, (f3 b hb).1.2.1, (f3 b hb).1.2.2.2.2.1, (f3 b hb).1.2.2.2.2.2⟩) qq hn (I3.fpOk (Nat.le_of_eq hC) nC) _ rfl
      · refine thn (Tn.item (blkX X s3 H3 sc C cl fp) rfl rfl rfl hc i [] s5 _ H5 _ I5 (iterOk I5 n5) st5 hgo) fun r s6 ⟨u, hr, h6⟩ => ?_
        subst hr
        refine thn h6 fun _ s7 ⟨x, H7, I7, r7, y7, st7, n7⟩ => ?_
        refine thn (pg.run _ s7 _ H7 x u _ (I7.pinned (iterOk I7 n7) (Tn.obj _ _ st7)) r7 (step x H7 y7)) fun _ s8 ⟨σ8, H8, I8, hw8, q8⟩ => ?_
        refine thn (pt.run _ s8 σ8 H8 _ I8 q8) fun b s9 ⟨H9, I9, q9⟩ => ?_
        have next : ∀ {s' : Shared} {H' : Hp}, Inv (blkX X s3 H3 sc C cl fp) ([] ++ pinsAt fp s7.heap) σ8 H' s' → Nx H' → ∃ m, m < n ∧ ∃ i H', Inv (blkX X s3 H3 sc C cl fp) [] (wipe σ (own.map (·.2))) H' s' ∧ tn i s'.heap ∧ (∀ b ∈ fp, H' b = none) ∧ W i m H' := fun {s' H'} I' nx => by
          obtain ⟨m', hm, w'⟩ := hNx H' nx
          have kept : ∀ b ∈ fp, ∀ o, s7.heap.get? b = some o → s'.heap.get? b = some o ∧ H' b = none := fun b hb o e => by
            have z := I'.pin (b, o) (List.mem_append_right _ (List.mem_append_right _ (mem_pinsAt hb e)))
            exact ⟨z.1, z.2.1⟩
          refine ⟨m', hm, i + 1, H', (I'.unpinned (pins := [])).weak (by rw [← hw8, wipe_length]) (fun j v e => (wipe_some (hw8 ▸ e)).1), Tn.keep _ _ _ st7 fun b hb o e => (kept b hb o e).1, fun b hb => ?_, w'⟩
          obtain ⟨o, e, _⟩ := Tn.obj _ _ st7 b hb
          exact (kept b hb o e).2
        cases b with
        | false =>
          rw [if_neg (by decide)] at q9 ⊢
          exact next I9 q9
        | true =>
          rw [if_pos rfl] at q9 ⊢
          refine thn (pe.run _ s9 σ8 H9 _ I9 q9) fun z s10 ⟨yv, H10, I10, r10, acc, hD10, hz10, nx⟩ => ?_
          exact app_ok (X := blkX X s3 H3 sc C cl fp) I10 hD10 hz10 r10 fun s11 I11 => next I11 nx
  subst hs4 hC hcl hs3 hD
  exact go
/-- as a value -/
theorem pe_lcx {E : XK} {elt tg iter : Expr} {ifs : List Expr} {sc : Scope} {own : List (Str × Nat)} {pos : Pos} {wi : L2.TI} {g : TG} {tt : TT} {te : TE}
    (hs : X.stack = X.env :: X.outer) (hf : X.env.frame = some X.env.locals) (tk : L2N.Takes X (fun c d _ H => E c d H)) (hc : X.calm = true) (hN : X.N.Nodup) (hi : L2.PI X tg iter wi) (ok : BlkOk X.N X.env.scope sc own)
    (hg : ∀ (s : Shared) (H : Hp) (C : Addr) (cl : List (Str × Addr)) (fp : List Addr), PG (blkX X s H sc C cl fp) tg g)
    (ht : ∀ (s : Shared) (H : Hp) (C : Addr) (cl : List (Str × Addr)) (fp : List Addr), PTs (blkX X s H sc C cl fp) ifs tt)
    (he : ∀ (s : Shared) (H : Hp) (C : Addr) (cl : List (Str × Addr)) (fp : List Addr), Passes (L2N.CX X.prog X.w) (blkX X s H sc C cl fp) E → PE (blkX X s H sc C cl fp) elt te)
    (hz : ∀ x, foldedSetIterable iter X.env x = pure x) : PE X (.ListComp elt [⟨tg, iter, ifs, 0⟩] sc pos) (tLc wi g tt te (own.map (·.2))) := ⟨fun pins s σ H Q I h => by
  rw [eval_ListComp]
  refine lcx hs hf tk hc hN I hi ok hg ht he hz h fun D C s' m H' I' q hn f ce hce => ⟨m, by rw [hce]; exact hn, fun h'' sb => ?_⟩
  rw [hce] at sb
  exact ⟨.ref D, H', I'.turned (t' := s'.toks) (fun b o hb e => (sb.2 b hb).trans e) f.1 f.2.1 f.2.2.2.1 f.2.2.2.2.1 f.2.2.2.2.2, rfl, q⟩⟩
/-- name = [..] where the list takes the name's place -/
theorem ps_setLcx {E : XK} {i : Nat} {y : Str} {py : Pos} {elt tg iter : Expr} {ifs : List Expr} {sc : Scope} {own : List (Str × Nat)} {pos spos : Pos} {wi : L2.TI} {g : TG} {tt : TT} {te : TE}
    (hs : X.stack = X.env :: X.outer) (hf : X.env.frame = some X.env.locals) (tk : L2N.Takes X (fun c d _ H => E c d H)) (hc : X.calm = true) (hN : X.N.Nodup) (hy : X.N[i]? = some y) (hyl : X.env.scope.names.lookup y = some .local)
    (hsw : swapsWith (.ListComp elt [⟨tg, iter, ifs, 0⟩] sc pos) (some (.Name y py)) spos.line X.env = pure true) (hi : L2.PI X tg iter wi) (ok : BlkOk X.N X.env.scope sc own)
    (hg : ∀ (s : Shared) (H : Hp) (C : Addr) (cl : List (Str × Addr)) (fp : List Addr), PG (blkX X s H sc C cl fp) tg g)
    (ht : ∀ (s : Shared) (H : Hp) (C : Addr) (cl : List (Str × Addr)) (fp : List Addr), PTs (blkX X s H sc C cl fp) ifs tt)
    (he : ∀ (s : Shared) (H : Hp) (C : Addr) (cl : List (Str × Addr)) (fp : List Addr), Passes (L2N.CX X.prog X.w) (blkX X s H sc C cl fp) E → PE (blkX X s H sc C cl fp) elt te)
    (hz : ∀ x, foldedSetIterable iter X.env x = pure x) : PS X (.Assign [.Name y py] (.ListComp elt [⟨tg, iter, ifs, 0⟩] sc pos) spos) (tAsg (tLc wi g tt te (own.map (·.2))) (gName i)) := ⟨fun pins s σ H D I h => by
  rw [exec_Assign_Name_used _ _ _ _ hsw]
  refine wpAny_bind (wpAny_standAt (wpAny_bind (wpAny_bind ?_)))
  have h : tLc wi g tt te (own.map (·.2)) σ H (fun x H1 => gName i x σ H1 D.nx) := h
  refine thn (lcx (pos' := firstIterPos [⟨tg, iter, ifs, 0⟩] pos) (use := some (assign (.Name y py) X.env)) (Qf := fun _ s' => SP X pins D .next s') hs hf tk hc hN I hi ok hg ht he hz h fun L C s' m H' I' q hn f ce hce => ?_) fun _ s' hq => wpAny_pure (wpAny_pure hq)
  show wpAny _ _ (assign (.Name y py) X.env (.ref L)) _ _ _
  refine wpAny_assign_Name (store_ok2 (v := V.ref L) I' hN hy (.inl hyl) rfl (fun s2 I2 ⟨a, sb, ha⟩ => ?_) (.inr hyl))
  have haC : C ≠ a := ha.elim (fun z => by rw [z]; exact f.2.1) fun z e => f.2.2.2.2.1 y a z e.symm
  refine ⟨m, by rw [hce]; exact hn.sameBut sb haC, fun h3 sb3 => ?_⟩
  rw [hce] at sb3
  exact ⟨_, H', I2.turned (t' := s2.toks) (fun b o hb e => (sb3.2 b hb).trans e) f.1 f.2.1 f.2.2.2.1 f.2.2.2.2.1 f.2.2.2.2.2, q⟩⟩
end
end LX
end
/-! ## M12 -/
section
set_option linter.all false
set_option maxRecDepth 100000
set_option maxHeartbeats 4000000
/-! Layer M, part 12: fields, methods, displays of dicts, comprehensions. -/
namespace M
open PySem L2
section
variable {X : Cx} {T : List (Addr × Str)} {Z Z' : List Addr} {ρ ρ' : List Addr} {H H' : Hp} {A A' : AH} {d a b : D} {v : V} {E : XK} {g : Ga} {σ : St} {Q : VK} {K : PySem.W.Frag} {t : Tab} {Φ : Fns} {k : Nat}
theorem base_plain {o : Expr} {m : Str} {env : Env} {w : Sem Value} (h : plainO o = true) : attributeBase o m env w = w := by
  unfold attributeBase
  split
  · simp [plainO] at h
  · rfl
theorem few_ok {es : List Expr} {env : Env} {pos : Pos} (h : argsOk es = true) : methodCallForm (es.length + ([] : List Keyword).length) (backTo pos (starEach es env)) (backToKw pos (keywordEach [] env)) = true := by
  obtain ⟨h1, h2⟩ := args_star h
  have h3 := star_none (env := env) (pos := pos) h1
  unfold methodCallForm
  have e1 : (backTo pos (starEach es env)).all (!·.1) = true := by
    rw [List.any_eq_false] at h3
    rw [List.all_eq_true]
    intro x hx
    have := h3 x hx
    simpa using this
  have e2 : backToKw pos (keywordEach [] env) = [] := rfl
  rw [e1, e2]
  simp
  omega
theorem meth_eval {o : Expr} {m : Str} {apos pos : Pos} {es : List Expr} {env : Env} (h1 : plainO o = true) (h2 : argsOk es = true) (h3 : (apos.endLine == pos.line) = true) :
    eval (.Call (.Attribute o m apos) es [] pos) env = (do
      let ov ← eval o env
      standAt apos.atName
      let (f, first) ← holding [ov] (getMethod ov m (do return (← importBound o env).getD true))
      callWith pos f first (backTo pos (starEach es env)) (backToKw pos (keywordEach [] env))) := by
  show (do
    let ov ← attributeBase o m env (eval o env)
    standAt apos.atName
    methodCall o m apos pos env ov (es.length + ([] : List Keyword).length) (backTo pos (starEach es env)) (backToKw pos (keywordEach [] env))) = _
  rw [base_plain h1]
  congr 1
  funext ov
  congr 1
  funext _
  unfold methodCall
  rw [few_ok h2]
  unfold calleeOf methodCallPos
  rw [h3]
  simp
theorem FR.look {f : Str} : ∀ {ps : List (Str × D)} {fs : List (Str × V)}, FR K Z ρ H ps fs → (∀ d, lookF ps f = some d → ∃ v, fs.lookup f = some v ∧ VR K Z ρ H d v) ∧ (lookF ps f = none → fs.lookup f = none)
  | [], fs, h => by
    simp only [FR] at h
    subst h
    exact ⟨fun d h => by simp [lookF] at h, fun _ => rfl⟩
  | p :: ps, fs, h => by
    simp only [FR] at h
    obtain ⟨v, r, rfl, h2, h3⟩ := h
    have ih := FR.look (f := f) h3
    simp only [lookF, List.lookup_cons]
    by_cases e : f = p.1
    · rw [if_pos e]
      have : (f == p.1) = true := by simpa using e
      rw [this]
      exact ⟨fun d hd => by cases hd; exact ⟨v, rfl, h2⟩, fun h => by cases h⟩
    · rw [if_neg e]
      have : (f == p.1) = false := by simpa using e
      rw [this]
      exact ih
theorem pe_fld_M {o : Expr} {f : Str} {m : ME} {pos : Pos} (to : TOkX t Φ k T X) (hp : plainO o = true) (ho : PE X o (eM X.K T Z E m)) : PE X (.Attribute o f pos) (eM X.K T Z E (e1 m (fldM t f))) :=
  pe_weak (pe_fld ho (base_plain hp)) fun σ H Q h => eM_1 h fun L x A1 ρ1 H1 v lr R1 hv h1 => by
    unfold fldM at h1
    split at h1
    · rename_i kk
      simp only [VR] at hv
      obtain ⟨p, e1, rfl⟩ := hv
      split at h1
      · rename_i C fs hA
        obtain ⟨p', e2, dx, gs, e3, e4⟩ := R1.get hA
        have : p' = p := Option.some.inj (e2.symm.trans e1)
        subst this
        split at h1
        · rename_i names hc
          split at h1
          · rename_i hn
            obtain ⟨d, e5, q⟩ := optR_some R1 h1
            obtain ⟨w, e6, e7⟩ := (FR.look e4).1 d e5
            obtain ⟨c1, c2⟩ := to.cs C names hc
            rw [List.any_eq_true] at hn
            obtain ⟨y, hy, hyf⟩ := hn
            have : y = f := by simpa using hyf
            exact ⟨p', C, dx, gs, w, rfl, e3, c1, this ▸ c2 y hy, e6, q w e7⟩
          · exact absurd h1 id
        · exact absurd h1 id
      · exact absurd h1 id
    · exact absurd h1 id
theorem lookup_mem {α : Type} {x : Str} {b : α} : ∀ {l : List (Str × α)}, l.lookup x = some b → (x, b) ∈ l
  | [], h => by cases h
  | p :: l, h => by
    rw [List.lookup_cons] at h
    split at h
    · rename_i e
      simp only [Option.some.injEq] at h
      have : x = p.1 := by simpa using e
      rw [this, ← h]
      exact List.mem_cons_self
    · exact List.mem_cons_of_mem _ (lookup_mem h)
/-- the rule of a built-in type's method -/
theorem mt_M (hu : X.A.units + 1 < cLine) (b : Mth) (m : Str) (h : mNames.lookup m = some b) : ∃ id, PlainAttrs b.ty ∧ Slot b.ty m id ∧ typeOf (.builtin id) = pure (.type "method_descriptor") ∧ MtR X id (rDM X.K T Z (mtM b)) := by
  have hm := lookup_mem h
  cases b <;> simp [mNames] at hm <;> subst hm
  · exact ⟨_, PySem.F.plainAttrs_str, PySem.F.slot_str_split, PySem.F.type_str_split, mt_split_M⟩
  · exact ⟨_, PySem.F.plainAttrs_str, PySem.F.slot_str_join, PySem.F.type_str_join, mt_join_M⟩
  · exact ⟨_, PySem.F.plainAttrs_str, PySem.F.slot_str_upper, PySem.F.type_str_upper, mt_upper_M⟩
  · exact ⟨_, PySem.F.plainAttrs_dict, PySem.F.slot_dict_get, PySem.F.type_dict_get, mt_get_M hu⟩
theorem methGo_ok {m : Str} {C : Addr} {fs : List (Str × D)} {n : Nat} {dvs : List D} {i : MI} (h : methGo t m C fs n = some (dvs, i)) : ∃ l, t.ms.lookup m = some l ∧ i ∈ l ∧ i.C = C ∧ lookF fs m = none ∧ padN i.np i.dl (n + 1) = some dvs := by
  unfold methGo at h
  split at h
  · cases h
  · rename_i l hl
    split at h
    · cases h
    · rename_i j hj
      split at h
      · cases h
      · rename_i hf
        split at h
        · cases h
        · rename_i ds hp
          simp only [Option.some.injEq, Prod.mk.injEq] at h
          obtain ⟨rfl, rfl⟩ := h
          have h1 := List.mem_of_find?_eq_some hj
          have h2 := List.find?_some hj
          refine ⟨l, hl, h1, by simpa using h2, ?_, hp⟩
          cases q : lookF fs m with
          | none => rfl
          | some d => rw [q] at hf; exact absurd rfl hf
theorem pe_recv {o : Expr} {m : Str} {apos pos : Pos} {es : List Expr} {to : TE} (h1 : plainO o = true) (h2 : argsOk es = true) (h3 : (apos.endLine == pos.line) = true) (ho : PE X o to) : PE X (.Call (.Attribute o m apos) es [] pos) (fun σ H Q => to σ H fun _ _ => False) := ⟨fun pins s σ H Q I h => by
  rw [meth_eval h1 h2 h3]
  exact wpAny_bind (wpAny_mono (ho.run pins s σ H _ I h) (fun u s' ⟨_, _, _, _, z⟩ => z.elim) fun _ _ z => z)⟩
theorem pe_callM_M {o : Expr} {m : Str} {apos pos : Pos} {es : List Expr} {f : Expr → ME} (hu : X.A.units + 1 < cLine) (to : TOkX t Φ k T X) (hr : Room k X.A) (tk : Pz X E) (hf : ∀ e, PE X e (eM X.K T Z E (f e))) : PE X (.Call (.Attribute o m apos) es [] pos) (eM X.K T Z E (callM t g Φ f o m apos pos es)) := by
  unfold callM
  split
  · rename_i c
    rw [Bool.and_eq_true, Bool.and_eq_true] at c
    obtain ⟨⟨c1, c2⟩, c3⟩ := c
    obtain ⟨s1, s2⟩ := args_star c2
    refine pe_by fun σ H Q h => ?_
    obtain ⟨L, A, ρ, lr, R, h⟩ := h
    dsimp only at h
    cases r : f o L A with
    | stuck => rw [r] at h; exact absurd h id
    | exc e B =>
      rw [r] at h
      exact ⟨_, pe_recv c1 c2 c3 (hf o), ⟨L, A, ρ, lr, R, by rw [r]; exact h⟩⟩
    | ok x A1 =>
      rw [r] at h
      simp only [Res.bind_ok] at h
      split at h
      · rename_i kk
        split at h
        · rename_i C fs hA
          split at h
          · rename_i dvs i hgo
            obtain ⟨l, g1, g2, g3, g4, g5⟩ := methGo_ok hgo
            obtain ⟨cl, f0, fd, ps, hm, e3, F⟩ := to.ms m l g1 i g2
            obtain ⟨us, vs, b1, b2, b3⟩ := e3.2 _ _ g5
            rw [g3] at cl hm
            have fin : ∀ {ta : TA}, (∀ ρ1 H1 p, Fut ρ H ρ1 H1 → Rel X.K Z ρ1 H1 T A1 → VR X.K Z ρ1 H1 (.obj kk) (.ref p) → ta σ H1 fun ws H2 => spM X.K T i.np (Φ i.key) (.ref p :: (ws ++ vs)) H2 Q E) → tMeth C m (spM X.K T i.np (Φ i.key)) vs E (eM X.K T Z E (f o)) ta σ H Q := by
              intro ta hta
              refine ⟨L, A, ρ, lr, R, ?_⟩
              rw [r]
              intro ρ1 H1 f1 R1 v hv
              have hv0 := hv
              simp only [VR] at hv
              obtain ⟨p, e1, rfl⟩ := hv
              obtain ⟨p', e2, dx, gs, e3', e4⟩ := R1.get hA
              have : p' = p := Option.some.inj (e2.symm.trans e1)
              subst this
              exact ⟨p', dx, gs, rfl, e3', (FR.look e4).2 g4, hta ρ1 H1 p' f1 R1 hv0⟩
            cases es with
            | nil =>
              refine ⟨_, pe_meth0 (hf o) cl hm F hr b1 b2 (tk_passes tk) (meth_eval c1 c2 c3), fin fun ρ1 H1 p f1 R1 hv => ?_⟩
              exact sp_cons hv (VRs.append VRs.nil (svs_VRs b3)) R1 (RG.fut f1 h)
            | cons e es =>
              have hm' := pa_M hf (e :: es)
              rw [List.all_cons, Bool.and_eq_true] at s1
              refine ⟨_, pe_meth (hf o) cl hm F hr b1 b2 (tk_passes tk) hm' (star_one s1.1) (star_none s1.2) (meth_eval c1 c2 c3), fin fun ρ1 H1 p f1 R1 hv => ?_⟩
              refine ⟨L, A1, ρ1, lr.fut R f1, R1, RG.bind (RG.fut f1 h) fun ds A2 ρ2 H2 f2 R2 h2 ws hws => ?_⟩
              exact sp_cons (VR.fut R1 f2 _ hv) (VRs.append hws (svs_VRs b3)) R2 h2
          · exact absurd h id
        · exact absurd h id
      · split at h
        · rename_i b hb
          split at h
          · rename_i hrc
            obtain ⟨id, q1, q2, q3, q4⟩ := mt_M (T := T) (Z := Z) hu b m hb
            cases es with
            | nil =>
              refine ⟨_, pe_bm0 q1 q2 q3 q4 (hf o) (base_plain c1) c3, ⟨L, A, ρ, lr, R, ?_⟩⟩
              rw [r]
              intro ρ1 H1 f1 R1 v hv
              exact ⟨rcv_ok hrc hv, x, [], A1, ρ1, _, hv, VRs.nil, R1, RG.fut f1 h⟩
            | cons e es =>
              have hm' := pa_M hf (e :: es)
              have s1' := s1
              rw [List.all_cons, Bool.and_eq_true] at s1
              refine ⟨_, pe_bm q1 q2 q3 q4 (hf o) hm' (base_plain c1) (few_ok c2) c3 (star_one s1.1) (star_none s1.2), ⟨L, A, ρ, lr, R, ?_⟩⟩
              rw [r]
              intro ρ1 H1 f1 R1 v hv
              refine ⟨rcv_ok hrc hv, L, A1, ρ1, lr.fut R f1, R1, RG.bind (RG.fut f1 h) fun ds A2 ρ2 H2 f2 R2 h2 ws hws => ?_⟩
              exact ⟨x, ds, A2, ρ2, _, VR.fut R1 f2 _ hv, hws, R2, h2⟩
          · exact absurd h id
        · exact absurd h id
  · exact pe_stuck_M
/-! ### displays of dicts -/
theorem putK_new {k : Key} {v : V} {kvs : List (Key × V)} (h : ∀ p ∈ kvs, p.1 ≠ k) : putK kvs k v = kvs ++ [(k, v)] := by
  unfold putK
  rw [if_neg]
  rw [Bool.not_eq_true, List.any_eq_false]
  intro p hp
  simpa using h p hp
theorem merge_nd : ∀ {more kvs : List (Key × V)}, (more.map (·.1)).Nodup → (∀ p ∈ kvs, ∀ q ∈ more, p.1 ≠ q.1) → mergeK kvs more = kvs ++ more
  | [], kvs, _, _ => by simp [mergeK]
  | p :: more, kvs, h, g => by
    rw [List.map_cons, List.nodup_cons] at h
    have e : mergeK kvs (p :: more) = mergeK (putK kvs p.1 p.2) more := rfl
    rw [e, putK_new fun q hq => g q hq p List.mem_cons_self]
    rw [merge_nd h.2 ?_]
    · simp
    · intro q hq r hr
      rcases List.mem_append.mp hq with hq | hq
      · exact g q hq r (List.mem_cons_of_mem _ hr)
      · simp at hq
        subst hq
        exact fun e => h.1 (List.mem_map.mpr ⟨r, hr, e.symm⟩)
/-- the same, whatever is hidden -/
def eX (K : PySem.W.Frag) (T : List (Addr × Str)) (E : XK) (m : ME) : TE := fun σ H Q => ∃ Z, eM K T Z E m σ H Q
theorem pe_X {e : Expr} {m : ME} (h : ∀ Z, PE X e (eM X.K T Z E m)) : PE X e (eX X.K T E m) := ⟨fun pins s σ H Q I ⟨Z, r⟩ => (h Z).run pins s σ H Q I r⟩
def trsM (K : PySem.W.Frag) (T : List (Addr × Str)) (E : XK) (f : Expr → ME) : List (Option Expr) → List Expr → List (TE × TE)
  | some (.Constant (.str x) _ _) :: ks, v :: vs => (tC (.str x), eX K T E (f v)) :: trsM K T E f ks vs
  | _, _ => []
theorem pps_M {f : Expr → ME} {pos : Pos} (hf : ∀ Z e, PE X e (eM X.K T Z E (f e))) : ∀ {keys : List (Option Expr)} {values : List Expr} {ks : List Str}, constStrs keys = some ks → keys.length = values.length → PPs X pos keys values (trsM X.K T E f keys values)
  | [], [], ks, _, _ => pps_nil
  | [], _ :: _, ks, _, h => by simp at h
  | _ :: _, [], ks, _, h => by simp at h
  | k :: keys, v :: values, ks, h, hl => by
    simp only [constStrs] at h
    cases e1 : constStr k with
    | none => rw [e1] at h; simp at h
    | some x =>
      cases e2 : constStrs keys with
      | none => rw [e1, e2] at h; simp at h
      | some xs =>
        unfold constStr at e1
        split at e1
        · exact pps_cons pe_str (pe_X fun Z => hf Z v) (pps_M hf e2 (by simpa using hl))
        · cases e1
theorem pairs_M {f : Expr → ME} {L : M.Loc} {P : List D → AH → List Addr → Hp → Prop} {F : List (V × V) → Hp → Prop} : ∀ {keys : List (Option Expr)} {values : List Expr} {ks : List Str} {A : AH} {ρ : List Addr} {H : Hp}, constStrs keys = some ks → keys.length = values.length → values.all noStar = true → LR K Z ρ H L σ → Rel K Z ρ H T A →
    RG K T Z ρ H P (EXK K Z E) (aE f values L A) →
    (∀ ds A2 ρ2 H2 vs, Fut ρ H ρ2 H2 → Rel K Z ρ2 H2 T A2 → P ds A2 ρ2 H2 → VRs K Z ρ2 H2 ds vs → vs.length = ks.length → F ((ks.zip vs).map fun kv => (V.str kv.1, kv.2)) H2) → tPairs (trsM K T E f keys values) σ H F
  | [], [], ks, A, ρ, H, h, hl, hs, lr, R, q, i => by
    simp only [constStrs, Option.some.injEq] at h
    subst h
    exact i [] A ρ H [] (Fut.refl ρ H) R (RG.ok R q) VRs.nil rfl
  | [], _ :: _, ks, A, ρ, H, _, h, hs, lr, R, q, i => by simp at h
  | _ :: _, [], ks, A, ρ, H, _, h, hs, lr, R, q, i => by simp at h
  | k :: keys, v :: values, ks, A, ρ, H, h, hl, hs, lr, R, q, i => by
    rw [List.all_cons, Bool.and_eq_true] at hs
    simp only [constStrs] at h
    cases e1 : constStr k with
    | none => rw [e1] at h; simp at h
    | some x =>
      cases e2 : constStrs keys with
      | none => rw [e1, e2] at h; simp at h
      | some xs =>
        rw [e1, e2] at h
        simp only [Option.some.injEq] at h
        subst h
        unfold constStr at e1
        split at e1
        · simp only [Option.some.injEq] at e1
          subst e1
          have hE : aE f (v :: values) L A = (f v L A).bind fun x A1 => (aE f values L A1).bind fun ys A2 => .ok (x :: ys) A2 := by cases v <;> first | rfl | simp [noStar] at hs
          rw [hE] at q
          refine ⟨Z, L, A, ρ, lr, R, RG.bind q fun d A1 ρ1 H1 f1 R1 h1 w hw => ?_⟩
          refine pairs_M (P := fun ds A2 ρ2 H2 => P (d :: ds) A2 ρ2 H2) e2 (by simpa using hl) hs.2 (lr.fut R f1) R1 (RG.bind h1 fun ds A2 ρ2 H2 f2 R2 h2 => RG.ok R2 h2) ?_
          intro ds A2 ρ2 H2 vs f2 R2 p hv hlen
          exact i (d :: ds) A2 ρ2 H2 (w :: vs) (f1.trans f2) R2 p (VRs.cons (VR.fut R1 f2 _ hw) hv) (by simp [hlen])
        · cases e1
theorem pe_dict_M {keys : List (Option Expr)} {values : List Expr} {ks : List Str} {pos : Pos} {f : Expr → ME} (hf : ∀ Z e, PE X e (eM X.K T Z E (f e))) (hk : constStrs keys = some ks) (hc : ks.Nodup ∧ ks.length = values.length ∧ ks ≠ [] ∧ ks.length ≤ 15 ∧ values.all noStar = true) :
    PE X (.Dict keys values pos) (eM X.K T Z E (aR (aE f values) fun ds A => .ok (.dic (ks.map .inr) ds) A)) := by
  have len : ∀ {keys : List (Option Expr)} {ks : List Str}, constStrs keys = some ks → keys.length = ks.length ∧ keys.all (·.isSome) = true := by
    intro keys
    induction keys with
    | nil => intro ks h; simp only [constStrs, Option.some.injEq] at h; subst h; exact ⟨rfl, rfl⟩
    | cons k keys ih =>
      intro ks h
      simp only [constStrs] at h
      cases e1 : constStr k with
      | none => rw [e1] at h; simp at h
      | some x =>
        cases e2 : constStrs keys with
        | none => rw [e1, e2] at h; simp at h
        | some xs =>
          rw [e1, e2] at h
          simp only [Option.some.injEq] at h
          subst h
          have hk : k.isSome = true := by cases k <;> first | rfl | simp [constStr] at e1
          exact ⟨by simp [(ih e2).1], by rw [List.all_cons, hk, (ih e2).2]; rfl⟩
  obtain ⟨l1, l2⟩ := len hk
  obtain ⟨c1, c2, c3, c4, c5⟩ := hc
  have hn : keys ≠ [] := fun e => c3 (by rw [e] at l1; exact List.eq_nil_of_length_eq_zero l1.symm)
  refine pe_weak (pe_disp (pps_M (T := T) (E := E) hf hk (by omega)) l2 (by omega) hn (by omega)) fun σ H Q h => ?_
  obtain ⟨L, A, ρ, lr, R, h⟩ := h
  intro p hp
  have zin : ∀ a ∈ Z, a ∈ p :: Z := fun a m => List.mem_cons_of_mem _ m
  have R1 := R.hide (u := .dK []) hp
  have f1 : Fut ρ H ρ (upd H p (.dK [])) := Fut.new1 hp
  have lr1 : LR X.K (p :: Z) ρ (upd H p (.dK [])) L σ := LR.fut R f1 (LR.zmore hp lr)
  -- what the values leave
  cases r : aE f values L A with
  | stuck => dsimp only [aR] at h; rw [r] at h; exact absurd h id
  | exc e B =>
    dsimp only [aR] at h
    rw [r] at h
    refine pairs_M (Z := p :: Z) (P := fun _ _ _ _ => False) hk (by omega) c5 lr1 R1 ?_ (fun _ _ _ _ _ _ _ z => z.elim)
    rw [r]
    intro ρ' H' f R' v dd hv hdd
    exact h ρ' H' (f1.trans f) (R'.zless zin) v dd (VR.zless zin _ hv) hdd
  | ok ds A2 =>
    dsimp only [aR] at h
    rw [r] at h
    refine pairs_M (Z := p :: Z) (P := fun ds' A' ρ' H' => ds' = ds ∧ A' = A2) hk (by omega) c5 lr1 R1 (by rw [r]; exact fun ρ' H' _ _ => ⟨rfl, rfl⟩) ?_
    rintro _ _ ρ2 H2 vs f2 R2 ⟨rfl, rfl⟩ hvs hlen
    have np : p ∉ ρ2 := f2.out (R.out hp) (by rw [upd_same]; exact fun z => by cases z)
    have ep : H2 p = some (.dK []) := f2.keep p _ upd_same (R.out hp) (fun ps z => by cases z)
    refine ⟨ep, (ks.zip vs).map (fun kv => (Sum.inr kv.1, kv.2)), by rw [List.map_map]; rfl, by simp; omega, ?_⟩
    have hnd : (((ks.zip vs).map (fun kv => ((Sum.inr kv.1 : Key), kv.2))).map (·.1)).Nodup := by
      rw [List.map_map]
      have : (ks.zip vs).map ((fun x : Key × V => x.1) ∘ fun kv => ((Sum.inr kv.1 : Key), kv.2)) = ks.map (Sum.inr : Str → Key) := by
        have e : ((fun x : Key × V => x.1) ∘ fun kv : Str × V => ((Sum.inr kv.1 : Key), kv.2)) = (Sum.inr : Str → Key) ∘ Prod.fst := rfl
        rw [e, ← List.map_map, List.map_fst_zip (by omega)]
      rw [this]
      exact List.pairwise_map.mpr (c1.imp fun h e => h (Sum.inr.inj e))
    rw [merge_nd hnd (fun p hp => by cases hp)]
    refine h ρ2 _ ((f1.trans f2).over hp) (Rel.zless zin (R2.mod ep (.inr ⟨_, rfl⟩) List.mem_cons_self np)) _ ?_
    simp only [VR]
    refine ⟨p, vs, rfl, np, fun m => R.hid p m hp, ?_, by simp [hlen], VRs.zless zin _ (VRs.mod ep (.inr ⟨_, rfl⟩) List.mem_cons_self _ hvs)⟩
    rw [upd_same, List.zip_map_left]
    rfl
/-! ### comprehensions -/
structure LcParts (X : Cx) (T : List (Addr × Str)) (E : XK) (elt tg iter : Expr) (ifs : List Expr) (sc : Scope) (m : ME) where
  own : List (Str × Nat)
  wi : TI
  g : TG
  tt : TT
  te : TE
  pe : ∀ pos, PE X (.ListComp elt [⟨tg, iter, ifs, 0⟩] sc pos) (tLc wi g tt te (own.map (·.2)))
  set : ∀ (i : Nat) (y : Str) (py pos spos : Pos), X.N[i]? = some y → X.env.scope.names.lookup y = some .local → swapsWith (.ListComp elt [⟨tg, iter, ifs, 0⟩] sc pos) (some (.Name y py)) spos.line X.env = pure true →
    PS X (.Assign [.Name y py] (.ListComp elt [⟨tg, iter, ifs, 0⟩] sc pos) spos) (tAsg (tLc wi g tt te (own.map (·.2))) (gName i))
  ok : ∀ Z σ H Q, eM X.K T Z E m σ H Q → tLc wi g tt te (own.map (·.2)) σ H Q
theorem lookup_map_kind {f : Str × NameKind → Str × NameKind} (hf : ∀ p, (f p).1 = p.1) (x : Str) : ∀ l : List (Str × NameKind), (∀ k, l.lookup x = some k → (l.map f).lookup x = some (f (x, k)).2) ∧ (l.lookup x = none → (l.map f).lookup x = none)
  | [] => ⟨fun k h => by (cases h), fun _ => rfl⟩
  | p :: l => by
    have ih := lookup_map_kind hf x l
    rw [List.map_cons, List.lookup_cons, List.lookup_cons, hf p]
    cases e : x == p.1 with
    | true =>
      have : x = p.1 := by simpa using e
      subst this
      exact ⟨fun k h => by simp only [Option.some.injEq] at h; rw [← h], fun h => by cases h⟩
    | false => exact ih
theorem relabel_lookup (sc : Scope) (env : Env) (x : Str) (k : NameKind) (h : sc.names.lookup x = some k) : (PySem.relabel sc env).names.lookup x = some k ∨ (k = .free ∧ (PySem.relabel sc env).names.lookup x = some .cell) := by
  unfold PySem.relabel
  have := (lookup_map_kind (f := fun p : Str × NameKind => if (p.2 == .free && env.scope.kind == .function && env.kindOf p.1 == some .cell) then (p.1, .cell) else (p.1, p.2)) (fun p => by split <;> rfl) x sc.names).1 k h
  dsimp only at this ⊢
  rw [this]
  split
  · rename_i c
    simp only [Bool.and_eq_true, beq_iff_eq] at c
    exact .inr ⟨c.1.1, rfl⟩
  · exact .inl rfl
theorem xo_blk0 (xo : XOk0 g X) {sc : Scope} {s : Shared} {H : Hp} {C : Addr} {cl : List (Str × Addr)} {fp : List Addr} : XOk0 ⟨g.N, sc.names, g.mu, true⟩ (X.blk s H sc (compEnvC sc cl C X.env) fp) where
  N := xo.N
  nd := xo.nd
  gl := fun x h => by
    rcases relabel_lookup sc X.env x _ h with h | ⟨h, _⟩
    · exact h
    · cases h
  loc := fun x h => by
    rcases h with h | h
    · rcases relabel_lookup sc X.env x _ h with q | ⟨q, _⟩
      · exact ⟨.inl q, .inr q⟩
      · cases q
    · rcases relabel_lookup sc X.env x _ h with q | ⟨q, _⟩
      · refine ⟨.inr q, .inl ?_⟩
        show (sc.names.lookup x == some .cell) = true
        rw [h]; rfl
      · cases q
  free := fun x h => by
    rcases relabel_lookup sc X.env x _ h with q | ⟨_, q⟩
    · exact .inr (.inr q)
    · exact .inr (.inl q)
  cf := fun x h => by
    rcases h with h | h
    · rcases relabel_lookup sc X.env x _ h with q | ⟨q, _⟩
      · exact .inl q
      · cases q
    · rcases relabel_lookup sc X.env x _ h with q | ⟨_, q⟩
      · exact .inr q
      · exact .inl q
  stk := fun h => by cases h
theorem xo_blk (xo : XOk g X) {sc : Scope} {s : Shared} {H : Hp} {C : Addr} {cl : List (Str × Addr)} {fp : List Addr} : XOk ⟨g.N, sc.names, g.mu, true⟩ (X.blk s H sc (compEnvC sc cl C X.env) fp) := ⟨xo_blk0 xo.toXOk0, xo.calm⟩
theorem XOk.tr {pn : List (Addr × Obj)} {xe : Value → Shared → Prop} (xo : XOk g X) : XOk g (X.tr pn xe) := ⟨⟨xo.N, xo.nd, xo.gl, xo.loc, xo.free, xo.cf, xo.stk⟩, xo.calm⟩
theorem blk_ok (xo : XOk0 g X) {sc : Scope} {own : List (Str × Nat)} (h : blkC g.N ⟨.function, g.nk, false, false, []⟩ sc own = true) : BlkOk X.N X.env.scope sc own := by
  have b := blkOk_by h
  rw [xo.N]
  exact ⟨b.kind, b.uniq, b.ix, fun y hy e => xo.cf _ (b.free y hy e), b.own⟩
theorem own_has {g : Ga} {sc : Scope} (hu : ∀ y ∈ sc.names, sc.names.lookup y.1 = some y.2) {x : Str} {i : Nat} (h : slotS ⟨g.N, sc.names, g.mu, true⟩ x = some i) : i ∈ (ownOf g sc).map (·.2) := by
  unfold slotS at h
  have gen : ∀ k, sc.names.lookup x = some k → (k = .local ∨ k = .cell) → g.N.findIdx? (fun y => decide (y = x)) = some i → i ∈ (ownOf g sc).map (·.2) := by
    intro k hk ho hi
    have hm := lookup_mem hk
    refine List.mem_map.mpr ⟨(x, i), ?_, rfl⟩
    unfold ownOf
    refine List.mem_filterMap.mpr ⟨(x, k), hm, ?_⟩
    rcases ho with rfl | rfl <;> simp [hi]
  split at h
  · exact gen _ ‹_› (.inl rfl) h
  · exact gen _ ‹_› (.inr rfl) h
  · cases h
theorem tgS_own {g : Ga} {sc : Scope} (hu : ∀ y ∈ sc.names, sc.names.lookup y.1 = some y.2) (tg : Expr) : ∀ i ∈ tgS ⟨g.N, sc.names, g.mu, true⟩ tg, i ∈ (ownOf g sc).map (·.2) := by
  intro i hi
  unfold tgS at hi
  split at hi
  · simp at hi
    exact own_has hu hi
  · rw [List.mem_flatMap] at hi
    obtain ⟨e, _, hi⟩ := hi
    split at hi
    · simp at hi
      exact own_has hu hi
    · cases hi
  · cases hi
/-- from the readings with something hidden to those of the rules -/
theorem lc_read {own : List (Str × Nat)} {x0 : Bool} {ifs : List Expr} {tg : Expr} {sc : Scope} {mi : M.Loc → AH → Res (List D)} {mt : Expr → MT} {me : ME} (hb : blkC g.N ⟨.function, g.nk, false, false, []⟩ sc (ownOf g sc) = true) (Z : List Addr) (σ : St) (H : Hp) (Q : VK)
    (h : eM X.K T Z E (fun L A => (mi L A).bind fun ds A1 => lcGo x0 (tgM ⟨g.N, sc.names, g.mu, true⟩ tg) (allT mt ifs) me (wipeL L ((ownOf g sc).map (·.2))) ds [] A1) σ H Q) :
    tLc (fun σ H P => ∃ Z, iM X.K T Z E mi σ H P) (fun v σ H Q => ∃ Z, gM X.K Z (tgS ⟨g.N, sc.names, g.mu, true⟩ tg) (tgM ⟨g.N, sc.names, g.mu, true⟩ tg) v σ H Q) (fun σ H Q => ∃ Z, tM X.K T Z (fun _ _ _ => False) (allT mt ifs) σ H Q) (eX X.K T (if x0 = true then E else fun _ _ _ => False) me) ((ownOf g sc).map (·.2)) σ H Q := by
  obtain ⟨L, A, ρ, lr, R, h⟩ := h
  refine ⟨Z, L, A, ρ, lr, R, RG.bind h fun ds A1 ρ1 H1 f1 R1 h1 J hJ p hp => ?_⟩
  obtain ⟨W, w1, w2⟩ := lc_walk (lr.fut R f1) R1 hJ (tgS_own (blkOk_by hb).uniq tg) h1 p hp
  refine ⟨W, w1, fun i m H hw => ?_⟩
  rcases w2 i m H hw with w | ⟨w3, Nx, w4, w5⟩
  · exact .inl w
  · refine .inr ⟨w3, Nx, w4, fun x H' hy => ?_⟩
    obtain ⟨d, L', L1, ρ', q1, q2, q3, q4⟩ := w5 x H' hy
    refine ⟨p :: Z, d, L', L1, ρ', q1, q2, q3, fun σ1 l1 s1 => ?_⟩
    obtain ⟨e1, L2', A2, ρ2, r1, r2, r3⟩ := q4 σ1 l1 s1
    refine ⟨e1, p :: Z, L2', A2, ρ2, r1, r2, r3.mono ?_ (fun _ _ _ _ _ _ z => z)⟩
    intro b A3 ρ3 H3 f3 R3 q
    cases b with
    | false => exact q
    | true => exact ⟨p :: Z, q⟩
/-- within another block: the element raises nothing -/
def lcParts (xo : XOk g X) {elt tg iter : Expr} {ifs : List Expr} {sc : Scope} {mi : M.Loc → AH → Res (List D)} {mt : Expr → MT} {me : ME} (hz : ∀ x, foldedSetIterable iter X.env x = pure x) (hb : blkC g.N ⟨.function, g.nk, false, false, []⟩ sc (ownOf g sc) = true)
    (hi : ∀ Z, PI X tg iter (iM X.K T Z E mi))
    (ht : ∀ (Z : List Addr) (s : Shared) (H : Hp) (C : Addr) (cl : List (Str × Addr)) (fp : List Addr) (e : Expr), PT (X.blk s H sc (compEnvC sc cl C X.env) fp) e (tM X.K T Z (fun _ _ _ => False) (mt e)))
    (he : ∀ (Z : List Addr) (s : Shared) (H : Hp) (C : Addr) (cl : List (Str × Addr)) (fp : List Addr), PE (X.blk s H sc (compEnvC sc cl C X.env) fp) elt (eM X.K T Z (fun _ _ _ => False) me)) :
    LcParts X T E elt tg iter ifs sc (fun L A => (mi L A).bind fun ds A1 => lcGo false (tgM ⟨g.N, sc.names, g.mu, true⟩ tg) (allT mt ifs) me (wipeL L ((ownOf g sc).map (·.2))) ds [] A1) where
  own := ownOf g sc
  wi := fun σ H P => ∃ Z, iM X.K T Z E mi σ H P
  g := fun v σ H Q => ∃ Z, gM X.K Z (tgS ⟨g.N, sc.names, g.mu, true⟩ tg) (tgM ⟨g.N, sc.names, g.mu, true⟩ tg) v σ H Q
  tt := fun σ H Q => ∃ Z, tM X.K T Z (fun _ _ _ => False) (allT mt ifs) σ H Q
  te := eX X.K T (if false = true then E else fun _ _ _ => False) me
  pe := fun pos => pe_lc xo.calm (by rw [xo.N]; exact xo.nd) ⟨fun pins s σ H P I ⟨Z, r⟩ => (hi Z).run pins s σ H P I r⟩ (blk_ok xo.toXOk0 hb)
    (fun s H C cl fp => ⟨fun pins s' σ H v u Q I r ⟨Z, q⟩ => (pg_M (Z := Z) (xo_blk xo) tg).run pins s' σ H v u Q I r q⟩)
    (fun s H C cl fp => ⟨fun pins s' σ H' Q I ⟨Z, q⟩ => (ptsM (Z := Z) (T := T) (E := fun _ _ _ => False) (fun e => ht Z s H C cl fp e) ifs).run pins s' σ H' Q I q⟩)
    (fun s H C cl fp => pe_X fun Z => he Z s H C cl fp) hz
  set := fun i y py pos spos hi' hl hw => ps_setLc xo.calm (by rw [xo.N]; exact xo.nd) hi' hl hw ⟨fun pins s σ H P I ⟨Z, r⟩ => (hi Z).run pins s σ H P I r⟩ (blk_ok xo.toXOk0 hb)
    (fun s H C cl fp => ⟨fun pins s' σ H v u Q I r ⟨Z, q⟩ => (pg_M (Z := Z) (xo_blk xo) tg).run pins s' σ H v u Q I r q⟩)
    (fun s H C cl fp => ⟨fun pins s' σ H' Q I ⟨Z, q⟩ => (ptsM (Z := Z) (T := T) (E := fun _ _ _ => False) (fun e => ht Z s H C cl fp e) ifs).run pins s' σ H' Q I q⟩)
    (fun s H C cl fp => pe_X fun Z => he Z s H C cl fp) hz
  ok := fun Z σ H Q h => lc_read (own := ownOf g sc) (x0 := false) hb Z σ H Q h
/-- in a def: the element may raise -/
def lcPartsX (xo : XOk g X) (hbk : g.blk = false) (tk : Tk X E) {elt tg iter : Expr} {ifs : List Expr} {sc : Scope} {mi : M.Loc → AH → Res (List D)} {mt : Expr → MT} {me : ME} (hz : ∀ x, foldedSetIterable iter X.env x = pure x) (hb : blkC g.N ⟨.function, g.nk, false, false, []⟩ sc (ownOf g sc) = true)
    (hi : ∀ Z, PI X tg iter (iM X.K T Z E mi))
    (ht : ∀ (Z : List Addr) (s : Shared) (H : Hp) (C : Addr) (cl : List (Str × Addr)) (fp : List Addr) (e : Expr), PT (LX.blkX X s H sc C cl fp) e (tM X.K T Z (fun _ _ _ => False) (mt e)))
    (he : ∀ (Z : List Addr) (s : Shared) (H : Hp) (C : Addr) (cl : List (Str × Addr)) (fp : List Addr), Pz (LX.blkX X s H sc C cl fp) E → PE (LX.blkX X s H sc C cl fp) elt (eM X.K T Z E me)) :
    LcParts X T E elt tg iter ifs sc (fun L A => (mi L A).bind fun ds A1 => lcGo true (tgM ⟨g.N, sc.names, g.mu, true⟩ tg) (allT mt ifs) me (wipeL L ((ownOf g sc).map (·.2))) ds [] A1) where
  own := ownOf g sc
  wi := fun σ H P => ∃ Z, iM X.K T Z E mi σ H P
  g := fun v σ H Q => ∃ Z, gM X.K Z (tgS ⟨g.N, sc.names, g.mu, true⟩ tg) (tgM ⟨g.N, sc.names, g.mu, true⟩ tg) v σ H Q
  tt := fun σ H Q => ∃ Z, tM X.K T Z (fun _ _ _ => False) (allT mt ifs) σ H Q
  te := eX X.K T (if true = true then E else fun _ _ _ => False) me
  pe := fun pos => LX.pe_lcx (xo.stk hbk).1 (xo.stk hbk).2 tk xo.calm (by rw [xo.N]; exact xo.nd) ⟨fun pins s σ H P I ⟨Z, r⟩ => (hi Z).run pins s σ H P I r⟩ (blk_ok xo.toXOk0 hb)
    (fun s H C cl fp => ⟨fun pins s' σ H v u Q I r ⟨Z, q⟩ => (pg_M (Z := Z) (xo_blk xo).tr tg).run pins s' σ H v u Q I r q⟩)
    (fun s H C cl fp => ⟨fun pins s' σ H' Q I ⟨Z, q⟩ => (ptsM (Z := Z) (T := T) (E := fun _ _ _ => False) (fun e => ht Z s H C cl fp e) ifs).run pins s' σ H' Q I q⟩)
    (fun s H C cl fp ps => pe_X fun Z => he Z s H C cl fp ps) hz
  set := fun i y py pos spos hi' hl hw => LX.ps_setLcx (xo.stk hbk).1 (xo.stk hbk).2 tk xo.calm (by rw [xo.N]; exact xo.nd) hi' hl hw ⟨fun pins s σ H P I ⟨Z, r⟩ => (hi Z).run pins s σ H P I r⟩ (blk_ok xo.toXOk0 hb)
    (fun s H C cl fp => ⟨fun pins s' σ H v u Q I r ⟨Z, q⟩ => (pg_M (Z := Z) (xo_blk xo).tr tg).run pins s' σ H v u Q I r q⟩)
    (fun s H C cl fp => ⟨fun pins s' σ H' Q I ⟨Z, q⟩ => (ptsM (Z := Z) (T := T) (E := fun _ _ _ => False) (fun e => ht Z s H C cl fp e) ifs).run pins s' σ H' Q I q⟩)
    (fun s H C cl fp ps => pe_X fun Z => he Z s H C cl fp ps) hz
  ok := fun Z σ H Q h => lc_read (own := ownOf g sc) (x0 := true) hb Z σ H Q h
theorem pe_lc_M {elt tg iter : Expr} {ifs : List Expr} {sc : Scope} {pos : Pos} {m : ME} (P : LcParts X T E elt tg iter ifs sc m) : PE X (.ListComp elt [⟨tg, iter, ifs, 0⟩] sc pos) (eM X.K T Z E m) :=
  pe_weak (P.pe pos) fun σ H Q h => P.ok Z σ H Q h
end
end M
end
/-! ## M14 -/
section
set_option linter.all false
set_option maxRecDepth 100000
set_option maxHeartbeats 4000000
/-! Layer M, part 14: statements. -/
namespace M
open PySem L2
/-- what a statement leaves -/
inductive SR where
  | nx (L : M.Loc) (A : AH)
  | rt (d : D) (A : AH)
  | bk (L : M.Loc) (A : AH)
  | ct (L : M.Loc) (A : AH)
  | exc (e : Exn) (A : AH)
  | stuck
abbrev MS := M.Loc → AH → SR
def onR {α : Type} : Res α → (α → AH → SR) → SR
  | .ok a A, k => k a A
  | .exc e A, _ => .exc e A
  | .stuck, _ => .stuck
def sSeq (a b : MS) : MS := fun L A => match a L A with
  | .nx L1 A1 => b L1 A1
  | r => r
def sBlock (f : Stmt → MS) : List Stmt → MS
  | [] => fun L A => .nx L A
  | [s] => f s
  | s :: ss => sSeq (f s) (sBlock f ss)
def sFor (tg : D → M.Loc → Option M.Loc) (b : MS) : List D → MS
  | [] => fun L A => .nx L A
  | x :: xs => fun L A => match tg x L with
    | none => .stuck
    | some L1 => match b L1 A with
      | .nx L2 A2 => sFor tg b xs L2 A2
      | .ct L2 A2 => sFor tg b xs L2 A2
      | .bk L2 A2 => .nx L2 A2
      | r => r
def sWhile (c : MT) (b : MS) : Nat → MS
  | 0 => fun _ _ => .stuck
  | n + 1 => fun L A => onR (c L A) fun k A1 => if k then (match b L A1 with
      | .nx L2 A2 => sWhile c b n L2 A2
      | .ct L2 A2 => sWhile c b n L2 A2
      | .bk L2 A2 => .nx L2 A2
      | r => r) else .nx L A1
def putD (f : Str) (d : D) : List (Str × D) → List (Str × D)
  | [] => [(f, d)]
  | p :: ps => if p.1 = f then (p.1, d) :: ps else p :: putD f d ps
/-- o.f = d -/
def setFld (t : Tab) (f : Str) (o d : D) (L : M.Loc) (A : AH) : SR := match o with
  | .obj k => (match A[k]? with
    | some (.ins C fs) => (match t.cs.lookup C with
      | some names => if names.any (fun n => decide (n = f)) && decide (fs.length < 1000) then .nx L (A.set k (.ins C (putD f d fs))) else .stuck
      | none => .stuck)
    | _ => .stuck)
  | _ => .stuck
def clsOf (x : D) (A : AH) : Option Addr := match x with
  | .obj k => (match A[k]? with
    | some (.ins C _) => some C
    | _ => none)
  | _ => none
/-- o[i] = d -/
def setIx (o i d : D) (L : M.Loc) (A : AH) : SR := match o, i with
  | .obj k, .int i => (match A[k]? with
    | some (.lst ds) => (match ixN ds.length i with
      | some j => .nx L (A.set k (.lst (ds.set j d)))
      | none => .stuck)
    | _ => .stuck)
  | _, _ => .stuck
def notComp : Expr → Bool
  | .ListComp .. => false
  | .SetComp .. => false
  | .DictComp .. => false
  | _ => true
/-- the two values of a, b = x, y -/
def twoVals (f : Expr → ME) (a b : Expr) : M.Loc → AH → Res (D × D) := fun L A => (f a L A).bind fun x A1 => (f b L A1).bind fun y A2 => .ok (x, y) A2
def incM : D → D → Option D
  | .int i, .int j => some (.int (i + j))
  | _, _ => none
/-- a value that is returned or named: in the marked defs a written list is a thing that changes -/
def eTop (t : Tab) (Φ : Fns) (g : Ga) : Expr → ME
  | .List es p => if g.mu then aR (aE (cE t Φ 60 g) es) objR else cE t Φ 60 g (.List es p)
  | e => cE t Φ 60 g e
/-- statements, to a depth; wf: how often a while may turn -/
def cS (t : Tab) (Φ : Fns) (wf : Nat) (g : Ga) : Nat → Stmt → MS
  | 0, _ => fun _ _ => .stuck
  | n + 1, s =>
    match s with
    | .Pass _ => fun L A => .nx L A
    | .Break _ => fun L A => .bk L A
    | .Continue _ => fun L A => .ct L A
    | .Expr (.Constant (.str _) _ _) _ => fun L A => .nx L A
    | .Expr e _ => if notComp e then fun L A => onR (cE t Φ 60 g e L A) fun _ A1 => .nx L A1 else fun _ _ => .stuck
    | .Return none _ => fun _ A => .rt .non A
    | .Return (some e) _ => fun L A => onR (eTop t Φ g e L A) fun d A1 => .rt d A1
    | .If c a b _ => fun L A => onR (cT t Φ 60 g c L A) fun k A1 => if k then sBlock (cS t Φ wf g n) a L A1 else sBlock (cS t Φ wf g n) b L A1
    | .For tg iter body [] _ => (match iter with
      | .Set .. => fun _ _ => .stuck
      | _ => fun L A => onR (iE t g (cE t Φ 60 g) iter L A) fun ds A1 => sFor (tgM g tg) (sBlock (cS t Φ wf g n) body) ds L A1)
    | .While c body [] _ => sWhile (cT t Φ 60 g c) (sBlock (cS t Φ wf g n) body) wf
    | .Assign [.Name x _] e _ => (match slotS g x with
      | some i => fun L A => onR (eTop t Φ g e L A) fun d A1 => .nx (L.set i (some d)) A1
      | none => fun _ _ => .stuck)
    | .Assign [.Tuple [.Name x _, .Name y _] _ _] (.Tuple [a, b] _ _) _ => (match slotS g x, slotS g y with
      | some i, some j => if i ≠ j ∧ noStar a && noStar b && !([a, b].all (foldedForSure 8)) && !([a, b].all (constantsAlone 8)) then fun L A => onR (twoVals (cE t Φ 60 g) a b L A) fun p A1 => .nx ((L.set i (some p.1)).set j (some p.2)) A1 else fun _ _ => .stuck
      | _, _ => fun _ _ => .stuck)
    | .Assign [.Tuple ts k p] e _ => (match e with
      | .Tuple .. => fun _ _ => .stuck
      | _ => if notComp e then fun L A => onR (cE t Φ 60 g e L A) fun d A1 => match tgM g (.Tuple ts k p) d L with
          | some L1 => .nx L1 A1
          | none => .stuck
        else fun _ _ => .stuck)
    | .Assign [.Attribute o f _] e _ => if notComp e && plainO o then fun L A => onR (cE t Φ 60 g e L A) fun d A1 => onR (cE t Φ 60 g o L A1) fun x A2 => setFld t f x d L A2 else fun _ _ => .stuck
    | .Assign [.Subscript o i _] e _ => if notComp e && !isSlice i then fun L A => onR (cE t Φ 60 g e L A) fun d A1 => onR (cE t Φ 60 g o L A1) fun x A2 => onR (cE t Φ 60 g i L A2) fun y A3 => setIx x y d L A3 else fun _ _ => .stuck
    | .AugAssign (.Attribute o f _) .Add e _ => if plainO o then fun L A => onR (cE t Φ 60 g o L A) fun x A1 => onR (fldM t f x A1) fun y A2 => onR (cE t Φ 60 g e L A2) fun z A3 => match incM y z with
        | some w => if clsOf x A1 = clsOf x A3 then setFld t f x w L A3 else .stuck
        | none => .stuck
      else fun _ _ => .stuck
    | .Raise (some (.Call (.Name x _) [e] [] _)) none _ => if isGl g x && plainName x && noStar e then (match t.gs.lookup x with
        | some (.exc C w) => fun L A => onR (cE t Φ 60 g e L A) fun d A1 => .exc ⟨C, d, w⟩ A1
        | _ => fun _ _ => .stuck) else fun _ _ => .stuck
    | _ => fun _ _ => .stuck
/-- what a def's body tells -/
def toRes : SR → Res D
  | .nx _ A => .ok .non A
  | .rt d A => .ok d A
  | .exc e A => .exc e A
  | _ => .stuck

section
variable {X : Cx} {T : List (Addr × Str)} {Z Z' : List Addr} {ρ ρ' : List Addr} {H H' : Hp} {A A' : AH} {d a b : D} {v : V} {E : XK} {g : Ga} {σ : St} {Q : VK} {K : PySem.W.Frag} {t : Tab} {Φ : Fns} {k : Nat} {D : Ends}
def SG (K : PySem.W.Frag) (T : List (Addr × Str)) (Z ρ : List Addr) (H : Hp) (D : Ends) (E : XK) : SR → Prop
  | .nx L A => ∀ σ' ρ' H', Fut ρ H ρ' H' → Rel K Z ρ' H' T A → LR K Z ρ' H' L σ' → D.nx σ' H'
  | .bk L A => ∀ σ' ρ' H', Fut ρ H ρ' H' → Rel K Z ρ' H' T A → LR K Z ρ' H' L σ' → D.bk σ' H'
  | .ct L A => ∀ σ' ρ' H', Fut ρ H ρ' H' → Rel K Z ρ' H' T A → LR K Z ρ' H' L σ' → D.ct σ' H'
  | .rt d A => ∀ v ρ' H', Fut ρ H ρ' H' → Rel K Z ρ' H' T A → VR K Z ρ' H' d v → D.rt v H'
  | .exc e A => ∀ ρ' H', Fut ρ H ρ' H' → Rel K Z ρ' H' T A → EXK K Z E e A ρ' H'
  | .stuck => False
theorem SG.fut {r : SR} (f : Fut ρ H ρ' H') (h : SG K T Z ρ H D E r) : SG K T Z ρ' H' D E r := by
  cases r with
  | nx L A => exact fun σ ρ2 H2 f2 => h σ ρ2 H2 (f.trans f2)
  | bk L A => exact fun σ ρ2 H2 f2 => h σ ρ2 H2 (f.trans f2)
  | ct L A => exact fun σ ρ2 H2 f2 => h σ ρ2 H2 (f.trans f2)
  | rt d A => exact fun v ρ2 H2 f2 => h v ρ2 H2 (f.trans f2)
  | exc e A => exact fun ρ2 H2 f2 => h ρ2 H2 (f.trans f2)
  | stuck => exact h
def sM (K : PySem.W.Frag) (T : List (Addr × Str)) (Z : List Addr) (E : XK) (m : MS) : TS := fun D σ H => ∃ L A ρ, LR K Z ρ H L σ ∧ Rel K Z ρ H T A ∧ SG K T Z ρ H D E (m L A)
/-- from a result to what follows -/
theorem SG.on {α : Type} {r : Res α} {k : α → AH → SR} {P : α → AH → List Addr → Hp → Prop} (h : SG K T Z ρ H D E (onR r k)) (i : ∀ a A' ρ' H', Fut ρ H ρ' H' → Rel K Z ρ' H' T A' → SG K T Z ρ' H' D E (k a A') → P a A' ρ' H') : RG K T Z ρ H P (EXK K Z E) r := by
  cases r with
  | ok a A => exact fun ρ2 H2 f2 R2 => i _ _ _ _ f2 R2 (h.fut f2)
  | exc e A => exact h
  | stuck => exact h
theorem ps_stuck_M {s : Stmt} : PS X s (sM X.K T Z E fun _ _ => .stuck) := ps_no fun D σ H ⟨_, _, _, _, _, h⟩ => h
theorem pss_M {f : Stmt → MS} (hf : ∀ s, PS X s (sM X.K T Z E (f s))) : ∀ ss, PSs X ss (sM X.K T Z E (sBlock f ss))
  | [] => pss_weak pss_nil fun D σ H ⟨L, A, ρ, lr, R, h⟩ => h σ ρ H (Fut.refl ρ H) R lr
  | [s] => pss_one (hf s)
  | s :: s2 :: ss => by
    have ih := pss_M hf (s2 :: ss)
    refine pss_weak (pss_cons (hf s) ih) fun D σ H ⟨L, A, ρ, lr, R, h⟩ => ⟨L, A, ρ, lr, R, ?_⟩
    simp only [sBlock, sSeq] at h
    cases r : f s L A with
    | nx L1 A1 =>
      rw [r] at h
      exact fun σ' ρ' H' f' R' lr' => ⟨L1, A1, ρ', lr', R', h.fut f'⟩
    | bk L A => rw [r] at h; exact h
    | ct L A => rw [r] at h; exact h
    | rt d A => rw [r] at h; exact h
    | exc e A => rw [r] at h; exact h
    | stuck => rw [r] at h; exact h
theorem swaps_plain {e : Expr} {tgt : Option Expr} {n : Nat} {env : Env} (h : notComp e = true) : swapsWith e tgt n env = pure false := by
  cases e <;> first | rfl | simp [notComp] at h
theorem ps_ret_M {e : Expr} {m : ME} {pos : Pos} (he : PE X e (eM X.K T Z E m)) : PS X (.Return (some e) pos) (sM X.K T Z E fun L A => onR (m L A) fun d A1 => .rt d A1) :=
  ps_weak (ps_ret he) fun D σ H ⟨L, A, ρ, lr, R, h⟩ => ⟨L, A, ρ, lr, R, SG.on h fun d A1 ρ1 H1 f1 R1 h1 v hv => h1 v ρ1 H1 (Fut.refl _ _) R1 hv⟩
theorem ps_expr_M {e : Expr} {m : ME} {pos : Pos} (hn : notComp e = true) (he : PE X e (eM X.K T Z E m)) : PS X (.Expr e pos) (sM X.K T Z E fun L A => onR (m L A) fun d A1 => .nx L A1) :=
  ps_weak (ps_expr he (swaps_plain hn)) fun D σ H ⟨L, A, ρ, lr, R, h⟩ => ⟨L, A, ρ, lr, R, SG.on h fun d A1 ρ1 H1 f1 R1 h1 v hv => h1 σ ρ1 H1 (Fut.refl _ _) R1 (lr.fut R f1)⟩
theorem ps_if_M {c : Expr} {p q : List Stmt} {mc : MT} {ma mb : MS} {pos : Pos} (hc : PT X c (tM X.K T Z E mc)) (ha : PSs X p (sM X.K T Z E ma)) (hb : PSs X q (sM X.K T Z E mb)) : PS X (.If c p q pos) (sM X.K T Z E fun L A => onR (mc L A) fun k A1 => if k then ma L A1 else mb L A1) :=
  ps_weak (ps_if hc ha hb) fun D σ H ⟨L, A, ρ, lr, R, h⟩ => ⟨L, A, ρ, lr, R, SG.on h fun k A1 ρ1 H1 f1 R1 h1 => by
    cases k with
    | true => exact ⟨L, A1, ρ1, lr.fut R f1, R1, h1⟩
    | false => exact ⟨L, A1, ρ1, lr.fut R f1, R1, h1⟩⟩
theorem set_step {i : Nat} {m : ME} {L : M.Loc} (lr : LR K Z ρ H L σ) (R : Rel K Z ρ H T A) (h : SG K T Z ρ H D E (onR (m L A) fun d A1 => .nx (L.set i (some d)) A1)) : tAsg (eM K T Z E m) (gName i) D σ H :=
  ⟨L, A, ρ, lr, R, SG.on h fun d A1 ρ1 H1 f1 R1 h1 v hv => h1 _ ρ1 H1 (Fut.refl _ _) R1 (LR.set i (lr.fut R f1) hv)⟩
theorem ps_set_M {x : Str} {i : Nat} {e : Expr} {m : ME} {pos p : Pos} (xo : XOk g X) (hs : slotS g x = some i) (hn : notComp e = true) (he : PE X e (eM X.K T Z E m)) : PS X (.Assign [.Name x p] e pos) (sM X.K T Z E fun L A => onR (m L A) fun d A1 => .nx (L.set i (some d)) A1) := by
  obtain ⟨h1, h2, h3⟩ := slotS_ok xo.toXOk0 hs
  exact ps_weak (ps_set (by rw [xo.N]; exact xo.nd) h1 h2 he (swaps_plain hn) h3) fun D σ H ⟨L, A, ρ, lr, R, h⟩ => set_step lr R h
theorem ps_setLc_M {x : Str} {i : Nat} {elt tg iter : Expr} {ifs : List Expr} {sc : Scope} {m : ME} {pos p pos' : Pos} (xo : XOk g X) (hs : slotS g x = some i) (P : LcParts X T E elt tg iter ifs sc m) :
    PS X (.Assign [.Name x p] (.ListComp elt [⟨tg, iter, ifs, 0⟩] sc pos') pos) (sM X.K T Z E fun L A => onR (m L A) fun d A1 => .nx (L.set i (some d)) A1) := by
  obtain ⟨h1, h2, h3⟩ := slotS_ok xo.toXOk0 hs
  have nd : X.N.Nodup := by rw [xo.N]; exact xo.nd
  have hb : ∃ b, swapsWith (.ListComp elt [⟨tg, iter, ifs, 0⟩] sc pos') (some (.Name x p)) pos.line X.env = pure b ∧ (b = true → X.env.scope.names.lookup x = some .local) := by
    refine ⟨_, rfl, fun h => ?_⟩
    simp only [Bool.and_eq_true, beq_iff_eq] at h
    exact h.1.1.2
  obtain ⟨b, e1, e2⟩ := hb
  cases b with
  | true => exact ps_weak (P.set i x p pos' pos h1 (e2 rfl) e1) fun D σ H ⟨L, A, ρ, lr, R, h⟩ => P.ok Z σ H _ (set_step lr R h)
  | false => exact ps_weak (ps_set nd h1 h2 (P.pe pos') e1 h3) fun D σ H ⟨L, A, ρ, lr, R, h⟩ => P.ok Z σ H _ (set_step lr R h)
/-! ### loops -/
theorem for_walk {J : It} {ds : List M.D} {tg : M.D → M.Loc → Option M.Loc} {I : List Nat} {mb : MS} {L : M.Loc} (lr : LR K Z ρ H L σ) (R : Rel K Z ρ H T A) (j : ItOk K Z J ds ρ H) (h : SG K T Z ρ H D E (sFor tg mb ds L A)) :
    ∃ W : Nat → Nat → St → Hp → Prop, (∃ m, W 0 m σ H) ∧ ∀ i m σ H, W i m σ H → (J.stop i H ∧ D.nx σ H) ∨ (J.go i H ∧ ∃ N : St → Hp → Prop, (∀ σ' H', N σ' H' → ∃ m', m' < m ∧ W (i + 1) m' σ' H') ∧
      ∀ x H', J.yld i H x H' → gM K Z I tg x σ H' fun σ2 H2 => sM K T Z E mb { D with nx := N, ct := N, bk := D.nx } σ2 H2) := by
  obtain ⟨vs, hvs, j⟩ := j
  refine ⟨fun i m σ1 H1 => ∃ L1 A1 ρ1, m = ds.length - i ∧ i ≤ ds.length ∧ LR K Z ρ1 H1 L1 σ1 ∧ Rel K Z ρ1 H1 T A1 ∧ Fut ρ H ρ1 H1 ∧ SG K T Z ρ1 H1 D E (sFor tg mb (ds.drop i) L1 A1), ⟨_, L, A, ρ, rfl, Nat.zero_le _, lr, R, Fut.refl _ _, h⟩, ?_⟩
  rintro i m σ1 H1 ⟨L1, A1, ρ1, hm, hi, lr1, R1, f1, q⟩
  obtain ⟨jgo, jy, jst⟩ := j ρ1 H1 f1 i
  by_cases hlt : i < ds.length
  · refine .inr ⟨jgo hlt, fun σ' H' => ∃ m', m' < m ∧ ∃ L1 A1 ρ1, m' = ds.length - (i + 1) ∧ i + 1 ≤ ds.length ∧ LR K Z ρ1 H' L1 σ' ∧ Rel K Z ρ1 H' T A1 ∧ Fut ρ H ρ1 H' ∧ SG K T Z ρ1 H' D E (sFor tg mb (ds.drop (i + 1)) L1 A1), fun σ' H' h => h, fun x H2 hy => ?_⟩
    obtain ⟨rfl, hx⟩ := jy x H2 hy hlt
    rw [List.drop_eq_getElem_cons hlt] at q
    simp only [sFor] at q
    obtain ⟨x', hx', hvx⟩ := VRs.get hvs (List.getElem?_eq_getElem hlt)
    rw [hx] at hx'
    cases hx'
    cases et : tg ds[i] L1 with
    | none => rw [et] at q; exact absurd q id
    | some L2 =>
      rw [et] at q
      dsimp only at q
      refine ⟨ds[i], L1, L2, ρ1, VR.fut R f1 _ hvx, lr1, et, fun σ2 lr2 _ => ⟨L2, A1, ρ1, lr2, R1, ?_⟩⟩
      cases r : mb L2 A1 with
      | nx L3 A3 =>
        rw [r] at q
        exact fun σ' ρ' H' f' R' lr' => ⟨_, by omega, L3, A3, ρ', rfl, hlt, lr', R', f1.trans f', q.fut f'⟩
      | ct L3 A3 =>
        rw [r] at q
        exact fun σ' ρ' H' f' R' lr' => ⟨_, by omega, L3, A3, ρ', rfl, hlt, lr', R', f1.trans f', q.fut f'⟩
      | bk L3 A3 => rw [r] at q; exact q
      | rt d A3 => rw [r] at q; exact q
      | exc e A3 => rw [r] at q; exact q
      | stuck => rw [r] at q; exact q
  · have : i = ds.length := by omega
    subst this
    rw [List.drop_length] at q
    exact .inl ⟨jst (Nat.le_refl _), q σ1 ρ1 H1 (Fut.refl _ _) R1 lr1⟩
theorem ps_for_M {tg iter : Expr} {body : List Stmt} {mi : M.Loc → AH → Res (List M.D)} {mb : MS} {pos : Pos} (xo : XOk g X) (po : PassesOwn (model X.prog X.w) X.A X.env X.xe) (hset : ∀ x, foldedSetIterable iter X.env x = pure x) (hi : PI X tg iter (iM X.K T Z E mi)) (hb : PSs X body (sM X.K T Z E mb)) :
    PS X (.For tg iter body [] pos) (sM X.K T Z E fun L A => onR (mi L A) fun ds A1 => sFor (tgM g tg) mb ds L A1) :=
  ps_weak (ps_for po xo.calm hi (pg_M (Z := Z) xo tg) hb hset) fun D σ H ⟨L, A, ρ, lr, R, h⟩ => ⟨L, A, ρ, lr, R, SG.on h fun ds A1 ρ1 H1 f1 R1 h1 J hJ => for_walk (lr.fut R f1) R1 hJ h1⟩
theorem ps_while_M {c : Expr} {body : List Stmt} {mc : MT} {mb : MS} {wf : Nat} {pos : Pos} (po : PassesOwn (model X.prog X.w) X.A X.env X.xe) (hc : PT X c (tM X.K T Z E mc)) (hb : PSs X body (sM X.K T Z E mb)) : PS X (.While c body [] pos) (sM X.K T Z E (sWhile mc mb wf)) :=
  ps_weak (ps_while po hc hb) fun D σ H ⟨L, A, ρ, lr, R, h⟩ => by
    refine ⟨fun m σ H => ∃ L A ρ, LR X.K Z ρ H L σ ∧ Rel X.K Z ρ H T A ∧ SG X.K T Z ρ H D E (sWhile mc mb m L A), ⟨wf, L, A, ρ, lr, R, h⟩, ?_⟩
    rintro m σ H ⟨L, A, ρ, lr, R, h⟩
    cases m with
    | zero => exact absurd h id
    | succ m =>
      simp only [sWhile] at h
      refine ⟨L, A, ρ, lr, R, SG.on h fun k A1 ρ1 H1 f1 R1 h1 => ?_⟩
      cases k with
      | false => exact h1 σ ρ1 H1 (Fut.refl _ _) R1 (lr.fut R f1)
      | true =>
        refine ⟨fun σ' H' => ∃ m', m' < m + 1 ∧ ∃ L A ρ, LR X.K Z ρ H' L σ' ∧ Rel X.K Z ρ H' T A ∧ SG X.K T Z ρ H' D E (sWhile mc mb m' L A), fun _ _ h => h, ⟨L, A1, ρ1, lr.fut R f1, R1, ?_⟩⟩
        simp only [if_true] at h1
        cases r : mb L A1 with
        | nx L3 A3 =>
          rw [r] at h1
          exact fun σ' ρ' H' f' R' lr' => ⟨m, Nat.lt_succ_self _, L3, A3, ρ', lr', R', h1.fut f'⟩
        | ct L3 A3 =>
          rw [r] at h1
          exact fun σ' ρ' H' f' R' lr' => ⟨m, Nat.lt_succ_self _, L3, A3, ρ', lr', R', h1.fut f'⟩
        | bk L3 A3 => rw [r] at h1; exact h1
        | rt d A3 => rw [r] at h1; exact h1
        | exc e A3 => rw [r] at h1; exact h1
        | stuck => rw [r] at h1; exact h1
end
end M
end
/-! ## LH -/
section
set_option linter.all false
set_option maxRecDepth 100000
set_option maxHeartbeats 4000000
/-! A list comprehension over a list, within an except suite. -/
namespace LH
open PySem PySem.Spec PyProof.Rows L2 HotX
section
variable {prog : Program} {w : World} {A : Around} {E : Value → Shared → Prop} {s : Shared}
theorem pyNext_list_end_hot {it l x1 : Addr} {i : Nat} {items : Array Value} {Q : Option Value → Shared → Prop} (hot : HotAt A x1 s.heap) (hne : x1 ≠ it)
    (hit : s.heap.IsListIter it l i) (hl : s.heap.IsList l items) (hx : items[i]? = none)
    (hQ : ∀ h', Heap.ExtBut it s.heap h' → Q none { s with heap := h' }) : wpAny (model prog w) A (pyNext (.ref it)) Q E s := by
  obtain ⟨o, ho, hc, hd⟩ := id hit
  obtain ⟨ol, hol, _, nl, hdl⟩ := hl
  obtain ⟨hh, o1, vs1, h1, d1, c1⟩ := hot
  unfold pyNext
  refine wpAny_bind (wpAny_attempt (wpAny_callSpecial?_slot (name := Str.ofString "__next__") hit.typeIs slot_listiter_next
    (wpAny_call_entry slot_listiter_next hit.typeIs entry_listiter_next ?_ (args_listiter_next _))))
  show wpAny _ _ (field (.ref it) 0 >>= _) _ _ s
  refine wpAny_bind (wpAny_field ho hd (x := .ref l) rfl ?_)
  show wpAny _ _ (if (Value.ref l == Value.none) = true then _ else _) _ _ s
  rw [if_neg (show ¬ ((Value.ref l == Value.none) = true) from Bool.false_ne_true)]
  show wpAny _ _ (field (.ref it) 1 >>= _) _ _ s
  refine wpAny_bind (wpAny_field ho hd (x := .int i 0) rfl ?_)
  show wpAny _ _ (seqItems? (.ref l) >>= _) _ _ s
  refine wpAny_bind (wpAny_seqItems hol hdl ?_)
  simp only [Int.toNat_natCast, hx]
  refine wpAny_bind (wpAny_rule (wpAny_bind (wpAny_setField ho hd (by simp) ?_)))
  show wpAny _ _ (newExc (.type "StopIteration") [] >>= _) _ _ _
  refine wpAny_bind ?_
  simp only [newExc, newTuple]
  refine wpAny_bind (wpAny_newObj_type ?_ (by size_fits))
  refine wpAny_bind (m := firstArgMember _ _) (wpAny_of_eq (a := Value.none) (by first | rfl | (simp only [firstArgMember]; rfl)) ?_)
  refine wpAny_newObj_type ?_ (by size_fits)
  have h1u : (s.heap.update it (Obj.mapFields (·.setIfInBounds 0 Value.none))).get? x1 = some o1 := (Heap.get?_update_other _ _ (Ne.symm hne)).trans h1
  refine raiseNew_hot ⟨hh, o1, vs1, Heap.get?_push_of_some _ (Heap.get?_push_of_some _ h1u), d1, c1⟩ (Nat.ne_of_lt (Heap.lt_size (Heap.get?_push_of_some _ h1u))) (Heap.get?_push_size _ rfl) rfl (by first | (simp; done) | (simp; omega) | (simp only [Array.size_append]; simp; omega)) ?_
  refine wpAny_bind (wpAny_isInstance (T := "StopIteration") (b := true) ⟨_, Heap.get?_update_self _ (Heap.get?_push_size _ rfl) rfl, rfl⟩ isSubtype_stop ?_)
  refine wpAny_pure (hQ _ fun b o hb e => ?_)
  have e2 := (Heap.get?_update_other s.heap (Obj.mapFields (·.setIfInBounds 0 Value.none)) (Ne.symm hb)).trans e
  rw [Heap.get?_update_other _ _ (Nat.ne_of_gt (Heap.lt_size (Heap.get?_push_of_some _ e2)))]
  exact Heap.get?_push_of_some _ (Heap.get?_push_of_some _ e2)
end
section
variable {X : Cx}
/-- the heart of a list comprehension over a list, in an except suite: the exception a that it holds stands, its context None -/
theorem lcH {pins : List (Addr × Obj)} {s : Shared} {σ : L2.St} {H : Hp} {Q : VK} {elt tg iter : Expr} {ifs : List Expr} {sc : Scope} {own : List (Str × Nat)} {pos pos' : Pos} {tl : L2.TE} {g : TG} {tt : TT} {te : TE} {use : Option (Value → Sem Unit)} {Qf : Value → Shared → Prop} {pp : Addr × Obj} {pvs : Array Value}
    (hh : X.A.handled = some (.ref pp.1)) (hpp : pp ∈ X.pn) (hpd : pp.2.data = .fields pvs) (hp2 : pvs[2]? = some .none)
    (hN : X.N.Nodup) (I : Inv X pins σ H s) (hl : L2.PE X iter tl) (ok : BlkOk X.N X.env.scope sc own)
    (hg : ∀ (s : Shared) (H : Hp) (C : Addr) (cl : List (Str × Addr)) (fp : List Addr), PG (X.blk s H sc (compEnvC sc cl C X.env) fp) tg g)
    (ht : ∀ (s : Shared) (H : Hp) (C : Addr) (cl : List (Str × Addr)) (fp : List Addr), PTs (X.blk s H sc (compEnvC sc cl C X.env) fp) ifs tt)
    (he : ∀ (s : Shared) (H : Hp) (C : Addr) (cl : List (Str × Addr)) (fp : List Addr), PE (X.blk s H sc (compEnvC sc cl C X.env) fp) elt te)
    (hz : ∀ x, foldedSetIterable iter X.env x = pure x) (h : tLc (iList X.K tl) g tt te (own.map (·.2)) σ H Q)
    (fin : ∀ D C s' m H', Inv X pins σ H' s' → Q (.ref D) H' → s'.heap.Ns C m → FpOk X pins H' C → ∀ ce : Env, ce.locals = C → compEnds (model X.prog X.w) X.A X.xe use Qf (.ref D) ce (.ok .next) s') :
    wpAny (model X.prog X.w) X.A (comprehension (.ListComp elt [⟨tg, iter, ifs, 0⟩] sc pos) sc X.env pos' (newList []) false (eval iter X.env) use) Qf X.xe s := by
  have clo : ∀ y ∈ sc.names, y.2 = .free → ∃ c, X.env.cells.lookup y.1 = some c := fun y hy e => (ok.free y hy e).elim (fun k => I.ok.has _ (.inl k)) fun k => I.ok.has _ (.inr k)
  refine comprehension_at (use := use) rfl hz (closure_ok clo) ok.kind (fun y hy e => (ok.uniq y hy).trans (by rw [e])) (thn (hl.run pins s σ H _ I h) fun v s1 ⟨x, H1, I1, r1, a, e1, ⟨xs, hq⟩, q⟩ => ?_)
  subst e1
  cases r1
  obtain ⟨its0, rv0, p0, hz0⟩ := I1.list hq
  refine wpAny_pyIter_list p0.isList ?_
  obtain ⟨it, hit⟩ : ∃ it, s1.heap.objs.size = it := ⟨_, rfl⟩
  obtain ⟨s2, hs2⟩ : ∃ s2 : Shared, ({ s1 with heap := s1.heap.push { cls := .type "list_iterator", data := .fields #[.ref a, .int 0 0] } } : Shared) = s2 := ⟨_, rfl⟩
  have I2 : Inv X pins σ H1 s2 := hs2 ▸ I1.kept (t' := s1.toks) fun b o e => Heap.get?_push_of_some _ e
  have st2 : s2.heap.IsListIter it a 0 := by
    rw [← hs2, ← hit]
    exact ⟨_, Heap.get?_push_size _ rfl, rfl, rfl⟩
  have f2 : ∀ b ∈ [it], FpOk X pins H1 b := fun b hb => by
    have e : b = s1.heap.objs.size := by rw [hit]; simpa using hb
    subst e
    exact I1.fpOk (Nat.le_refl _) (I1.hok.fresh (Nat.le_refl _))
  have old2 : s1.heap.objs.size = it := hit
  show wpAny _ _ _ _ _ _
  rw [hs2, hit]
  refine wpAny_newObj_type (newEnv_comp ?_) (by show 0 ≤ sizeLine; decide)
  -- D: the list; C: the block's names
  obtain ⟨D, hD⟩ : ∃ D, s2.heap.objs.size = D := ⟨_, rfl⟩
  have freshD : H1 D = none := I2.hok.fresh (Nat.le_of_eq hD)
  obtain ⟨W, ⟨m0, w0⟩, turn⟩ := q D freshD
  obtain ⟨s3, hs3⟩ : ∃ s3 : Shared, ({ s2 with heap := s2.heap.push { cls := .type "list", data := .seq ([] : List Value).toArray } } : Shared) = s3 := ⟨_, rfl⟩
  have heap3 : s3.heap = s2.heap.push { cls := .type "list", data := .seq ([] : List Value).toArray } := congrArg (·.heap) hs3.symm
  have I3 : Inv X pins σ (upd H1 D (.lst [])) s3 := hs3 ▸ I2.laid (t' := s2.toks) (fun b o e => Heap.get?_push_of_some _ e) (Nat.le_of_eq hD) ⟨Nat.zero_le _, [], 0, .nil, hD ▸ Heap.get?_push_size _ rfl⟩
  have low : ∀ b ∈ [it], b < s2.heap.objs.size := fun b hb => by
    have e : b = it := by simpa using hb
    rw [e]
    obtain ⟨o, e, _⟩ := id st2
    exact Heap.lt_size e
  have f3 : ∀ b ∈ [it], FpOk X pins (upd H1 D (.lst [])) b ∧ b < s3.heap.objs.size := fun b hb =>
    ⟨⟨(upd_ne (hD ▸ Nat.ne_of_lt (low b hb))).trans (f2 b hb).1, (f2 b hb).2⟩, by rw [heap3, Heap.size_push]; exact Nat.lt_succ_of_lt (low b hb)⟩
  have st3 : s3.heap.IsListIter it a 0 := st2.at fun o e => by rw [heap3]; exact Heap.get?_push_of_some _ e
  obtain ⟨H3, hH3⟩ : ∃ H3, upd H1 D (.lst []) = H3 := ⟨_, rfl⟩
  rw [hH3] at I3 f3 w0
  obtain ⟨cl, hcl⟩ : ∃ cl, cellsFrom (s3.heap.objs.size + 1) sc.names (cloFrom X.env.cells sc.names []) = cl := ⟨_, rfl⟩
  obtain ⟨C, hC⟩ : ∃ C, s3.heap.objs.size = C := ⟨_, rfl⟩
  have B1 := block_start I3 ok hN f3
  rw [hcl, hC] at B1
  have pg := hg s3 H3 C cl [it]
  have pt := ht s3 H3 C cl [it]
  have pe := he s3 H3 C cl [it]
  -- the exception that is handled, where the block starts
  have P3 := I3.pin pp (List.mem_append_left _ hpp)
  have ppit : pp.1 ≠ it := fun z => by
    have y := (I1.pin pp (List.mem_append_left _ hpp)).1
    have lt := Heap.lt_size y
    rw [z, ← hit] at lt
    exact Nat.lt_irrefl _ lt
  have ppfr : pp.1 ∉ frs X.stack := fun hm => (List.mem_cons.mp (I3.stkSub pp.1 hm)).elim P3.2.2.1 P3.2.2.2.1
  obtain ⟨s4, hs4⟩ : ∃ s4 : Shared, ({ s3 with heap := pushCells (s3.heap.push { cls := .type "dict", data := .dict #[] }) sc.names } : Shared) = s4 := ⟨_, rfl⟩
  rw [hs4] at B1
  have st4 : s4.heap.IsListIter it a 0 := st3.at fun o e => by rw [← hs4]; exact pushCells_keeps _ _ _ _ (Heap.get?_push_of_some _ e)
  have go : codeAny (model X.prog X.w) X.A (.compStart (.ListComp elt [⟨tg, iter, ifs, 0⟩] sc pos) 0 (.ref it) (.ref D) (compEnvC sc cl C X.env)) (compEnds (model X.prog X.w) X.A X.xe use Qf (.ref D) (compEnvC sc cl C X.env)) s4 := by
    have iterOk : ∀ {σ' : L2.St} {H' : Hp} {s' : Shared}, Inv (X.blk s3 H3 sc (compEnvC sc cl C X.env) [it]) [] σ' H' s' → (∀ b ∈ [it], H' b = none) → ∀ b ∈ [it], FpOk (X.blk s3 H3 sc (compEnvC sc cl C X.env) [it]) [] H' b := fun {σ' H' s'} I' hn b hb =>
      ⟨hn b hb, (I'.ok.exf b hb).1, I'.ok.exfs b hb, .inl hb, fun x c e => (I'.ok.exf b hb).2 x c e, fun p hp => nomatch (show p ∈ ([] : List (Addr × Obj)) ++ [] from hp)⟩
    refine codeAny_compStart_list ?_ (wpAny_pyIter_listiter st4 ?_) <;>
    · refine compLoop_any (fun n s' => ∃ i H', Inv (X.blk s3 H3 sc (compEnvC sc cl C X.env) [it]) [] (wipe σ (own.map (·.2))) H' s' ∧ s'.heap.IsListIter it a i ∧ (∀ b ∈ [it], H' b = none) ∧ W i n H') ?_ m0 ⟨0, H3, B1, st4, fun b hb => (f3 b hb).1.1, w0⟩
      rintro n s5 ⟨i, H5, I5, st5, n5, w5⟩
      have fpi := iterOk I5 n5 it (by simp)
      rcases turn i n H5 w5 with ⟨stop, qq⟩ | ⟨hgo, Nx, hNx, step⟩
      · obtain ⟨ys, hy, hlen⟩ := stop
        obtain ⟨its, rv, p, hz5⟩ := I5.list hy
        obtain ⟨k0, k1, k2, k3, k4, k5⟩ := fpi
        have hl5 := rv.length
        have un5 : Un (frs X.stack) [it] H3 H5 s3.heap s5.heap := I5.base
        have at5 : s5.heap.get? pp.1 = some pp.2 := un5.keep pp.1 pp.2 P3.1 P3.2.1 ppfr (by simpa using ppit)
        refine pyNext_list_end_hot (x1 := pp.1) ⟨hh, pp.2, pvs, at5, hpd, hp2⟩ ppit st5 p.isList (by simp; omega) fun h' eb => ?_
        have I6 : Inv (X.blk s3 H3 sc (compEnvC sc cl C X.env) [it]) [] (wipe σ (own.map (·.2))) H5 { s5 with heap := h' } := I5.turned (t' := s5.toks) (fun b o hb e => eb b o hb e) k0 k1 k3 k4 k5
        have nC : H5 C = none := I6.free
        obtain ⟨m, hn, _⟩ := I6.loc
        exact fin D C { s5 with heap := h' } m H5 (I3.call' (ch := [it]) I6.os I6.base I6.hok I6.bare fun b hb => ⟨(f3 b hb).1.2.2.2.1, (f3 b hb).1.2.1, (f3 b hb).1.2.2.2.2.1, (f3 b hb).1.2.2.2.2.2⟩) qq hn (I3.fpOk (Nat.le_of_eq hC) nC) _ rfl
      · obtain ⟨ys, x, hy, hx⟩ := hgo
        obtain ⟨its, rv, p, hz5⟩ := I5.list hy
        obtain ⟨u, hu, ru⟩ := rv.get hx
        obtain ⟨k0, k1, k2, k3, k4, k5⟩ := fpi
        refine wpAny_pyNext_list_item st5 p.isList (x := u) (by simpa using hu) fun h' st6 sb => ?_
        have I6 : Inv (X.blk s3 H3 sc (compEnvC sc cl C X.env) [it]) [] (wipe σ (own.map (·.2))) H5 { s5 with heap := h' } := I5.turned (t' := s5.toks) (fun b o hb e => (sb.2 b hb).trans e) k0 k1 k3 k4 k5
        obtain ⟨oi, ei, ci, di⟩ := id st6
        have y7 : (Itl X.K a).yld i H5 x H5 := ⟨rfl, fun zs hz' => by rw [I6.list_inj hz' hy]; exact hx⟩
        refine go_of (s := { s5 with heap := h' }) ei ci di (by decide) ?_
        have ob6 : ∀ b ∈ [it], ∃ o, h'.get? b = some o ∧ ∀ v, o.data ≠ .cell v := fun b hb => by
          have e : b = it := by simpa using hb
          rw [e]
          exact ⟨oi, ei, fun v z => by rw [di] at z; cases z⟩
        refine thnF (pg.run _ { s5 with heap := h' } _ H5 x u _ (I6.pinned (iterOk I6 n5) ob6) ru (step x H5 y7)) fun _ s8 ⟨σ8, H8, I8, hw8, q8⟩ => ?_
        refine thnF (pt.run _ s8 σ8 H8 _ I8 q8) fun b s9 ⟨H9, I9, q9⟩ => ?_
        have next : ∀ {s' : Shared} {H' : Hp}, Inv (X.blk s3 H3 sc (compEnvC sc cl C X.env) [it]) ([] ++ pinsAt [it] h') σ8 H' s' → Nx H' → ∃ m, m < n ∧ ∃ i H', Inv (X.blk s3 H3 sc (compEnvC sc cl C X.env) [it]) [] (wipe σ (own.map (·.2))) H' s' ∧ s'.heap.IsListIter it a i ∧ (∀ b ∈ [it], H' b = none) ∧ W i m H' := fun {s' H'} I' nx => by
          obtain ⟨m', hm, w'⟩ := hNx H' nx
          have kept : ∀ b ∈ [it], ∀ o, h'.get? b = some o → s'.heap.get? b = some o ∧ H' b = none := fun b hb o e => by
            have z := I'.pin (b, o) (List.mem_append_right _ (List.mem_append_right _ (mem_pinsAt hb e)))
            exact ⟨z.1, z.2.1⟩
          refine ⟨m', hm, i + 1, H', (I'.unpinned (pins := [])).weak (by rw [← hw8, wipe_length]) (fun j v e => (wipe_some (hw8 ▸ e)).1), st6.at fun o e => (kept it (by simp) o e).1, fun b hb => ?_, w'⟩
          obtain ⟨o, e, _⟩ := ob6 b hb
          exact (kept b hb o e).2
        cases b with
        | false =>
          rw [if_neg (by decide)] at q9 ⊢
          exact next I9 q9
        | true =>
          rw [if_pos rfl] at q9 ⊢
          refine thnF (pe.run _ s9 σ8 H9 _ I9 q9) fun z s10 ⟨yv, H10, I10, r10, acc, hD10, hz10, nx⟩ => ?_
          exact app_ok (X := X.blk s3 H3 sc (compEnvC sc cl C X.env) [it]) I10 hD10 hz10 r10 fun s11 I11 => next I11 nx
  subst hs4 hC hcl hs3 hD
  exact go
/-- as a value -/
theorem pe_lcH {elt tg iter : Expr} {ifs : List Expr} {sc : Scope} {own : List (Str × Nat)} {pos : Pos} {tl : L2.TE} {g : TG} {tt : TT} {te : TE} {pp : Addr × Obj} {pvs : Array Value}
    (hh : X.A.handled = some (.ref pp.1)) (hpp : pp ∈ X.pn) (hpd : pp.2.data = .fields pvs) (hp2 : pvs[2]? = some .none)
    (hN : X.N.Nodup) (hl : L2.PE X iter tl) (ok : BlkOk X.N X.env.scope sc own)
    (hg : ∀ (s : Shared) (H : Hp) (C : Addr) (cl : List (Str × Addr)) (fp : List Addr), PG (X.blk s H sc (compEnvC sc cl C X.env) fp) tg g)
    (ht : ∀ (s : Shared) (H : Hp) (C : Addr) (cl : List (Str × Addr)) (fp : List Addr), PTs (X.blk s H sc (compEnvC sc cl C X.env) fp) ifs tt)
    (he : ∀ (s : Shared) (H : Hp) (C : Addr) (cl : List (Str × Addr)) (fp : List Addr), PE (X.blk s H sc (compEnvC sc cl C X.env) fp) elt te)
    (hz : ∀ x, foldedSetIterable iter X.env x = pure x) : PE X (.ListComp elt [⟨tg, iter, ifs, 0⟩] sc pos) (tLc (iList X.K tl) g tt te (own.map (·.2))) := ⟨fun pins s σ H Q I h => by
  rw [eval_ListComp]
  refine lcH hh hpp hpd hp2 hN I hl ok hg ht he hz h fun D C s' m H' I' q hn f ce hce => ⟨m, by rw [hce]; exact hn, fun h'' sb => ?_⟩
  rw [hce] at sb
  exact ⟨.ref D, H', I'.turned (t' := s'.toks) (fun b o hb e => (sb.2 b hb).trans e) f.1 f.2.1 f.2.2.2.1 f.2.2.2.2.1 f.2.2.2.2.2, rfl, q⟩⟩
end
end LH
end
/-! ## MH -/
section
set_option linter.all false
set_option maxRecDepth 100000
set_option maxHeartbeats 4000000
/-! Layer M: what an except suite does with the exception that it holds. -/
namespace PySem.W
open PySem PySem.Spec PySem.Calls PyProof.Rows
section
variable {prog : Program} {w : World} {A : Around} {E : Value → Shared → Prop} {s : Shared} {K : Frag} {x D : Addr} {ox : Obj} {od : Option Obj}
theorem findObj_dataD {C : Addr} {name : Str} {a g : Value} (hc : (clsIn K C).isSome = true) (ha : findIn K (.ref C) name = some (some a)) (hg : specialIn K a "__get__" = some (some g)) (ht : takesIn K a = some true) : findObj K C od name = some (.bind g a) := by
  obtain ⟨cd, hc⟩ := Option.isSome_iff_exists.mp hc
  unfold findObj
  rw [hc, Option.bind_some, ha, Option.bind_some]
  simp [hg, ht]
theorem kin_classD {Q : Option Value → Shared → Prop} (hga : findIn K (.ref D) "__getattribute__" = some (some (.builtin "BaseException.__getattribute__"))) (hgt : findIn K (.ref D) "__getattr__" = some none) (hsub : subIn K (.ref D) (.type "BaseException") = some true)
    (hdct : hasDictIn K D = true) (ha : findIn K (.ref D) "__class__" = some (some (.builtin "object.__class__")))
    (hn : specialIn K (.builtin "object.__class__") "__get__" = some (some (.builtin "getset_descriptor.__get__"))) (htk : takesIn K (.builtin "object.__class__") = some true) (hm : mroIn K D (.type "object") = some true)
    (X : K.In s.heap) (I : InstAt s.heap x ox D od) (h : Q (some (.ref D)) { s with toks := s.toks + 1 }) : wpAny (model prog w) A (getAttr? (.ref x) "__class__") Q E s := by
  have hf : findObj K D od "__class__" = some (.bind (.builtin "getset_descriptor.__get__") (.builtin "object.__class__")) := findObj_dataD (by obtain ⟨cd, hc, _⟩ := any_some hdct; rw [hc]; rfl) ha hn htk
  obtain ⟨hp, g, d, t, os⟩ := s
  have L0 := I.type (M := model prog w)
  have L1 := looks_findIn (M := model prog w) X hga
  have L2 := looks_findIn (M := model prog w) X hgt
  have L3 := looks_find (M := model prog w) X I hf
  have sub : Looks (model prog w) hp (isInstance (.ref x) (.type "BaseException")) true := L0.andThen (looks_subIn X hsub)
  have hx0 : (false && onTheHeap (Value.builtin "BaseException.__getattribute__")) = false := rfl
  have hx2 : (Value.builtin "BaseException.__getattribute__" == Value.builtin "object.__getattribute__") = false := by decide +kernel
  have hx1 : (onTheHeap (Value.ref D) && Value.builtin "BaseException.__getattribute__" == Value.builtin "object.__getattribute__") = false := by rw [hx2]; rfl
  unfold getAttr? getAttrBy? getAttrBy
  refine wpAny_bind (wpAny_mkText (wpAny_bind (wpAny_attempt (wpAny_holding (wpAny_bind (L0.at (wpAny_bind (L1.at ?_))))))))
  show wpAny _ _ (if (onTheHeap (Value.ref D) && Value.builtin "BaseException.__getattribute__" == Value.builtin "object.__getattribute__") = true then _ else _) _ _ _
  rw [hx1, if_neg Bool.false_ne_true]
  unfold getAttrByItsOwn hookBefore
  refine wpAny_bind ?_
  rw [if_pos (show onTheHeap (Value.ref D) = true from rfl)]
  refine L2.at ?_
  refine wpAny_bind (wpAny_attempt (wpAny_holding ?_))
  unfold callGetattribute
  rw [hx0, if_neg Bool.false_ne_true]
  unfold boundAndCalled
  rw [PySem.F.excAttr_ValueError.ga.bind (.ref x)]
  refine wpAny_bind (wpAny_pure ?_)
  show wpAny _ _ (call (.builtin "BaseException.__getattribute__") [.ref x, .str "__class__" t]) _ _ _
  refine wpAny_call (codeAny_call_builtin PySem.F.excAttr_ValueError.ga.plain PySem.F.entry_bexc_ga ?_)
  refine @check_slot (model prog w) _ _ ⟨hp, g, d, t + 1, os⟩ "BaseException.__getattribute__" "BaseException" "__getattribute__" (.ref x) [.str "__class__" t] [] _ (by decide +kernel) (by decide +kernel) sub (PySem.F.args_bexc_ga (.ref x) (.str "__class__" t)) ?_
  unfold Builtin.«object.__getattribute__»
  refine wpAny_bind (wpAny_of_eq (a := ((Value.ref x : Value), [Value.str "__class__" t])) (by first | rfl | (simp only [slotArgs]; rfl)) ?_)
  refine wpAny_bind (wpAny_pure (wpAny_bind (L0.at (wpAny_bind (L3.at ?_)))))
  show wpAny _ _ (holding [Value.builtin "object.__class__"] (call (.builtin "getset_descriptor.__get__") [.builtin "object.__class__", .ref x, .ref D]) >>= ret) _ _ _
  refine wpAny_bind (wpAny_holding (wpAny_call (class_get (s := ⟨hp, g, d, t + 1, os⟩) (ox := ox) (od := od) X I hm ?_)))
  refine wpAny_pure ?_
  show wpAny _ _ (handedOut (.ref D)) _ _ _
  rw [handedOut_of (v := .ref D) rfl]
  first
    | exact wpAny_pure (wpAny_pure h)
    | exact wpAny_pure h
    | exact wpAny_pure (wpAny_bind (wpAny_pure (wpAny_pure h)))
theorem kitx_excD (hga : findIn K (.ref D) "__getattribute__" = some (some (.builtin "BaseException.__getattribute__"))) (hgt : findIn K (.ref D) "__getattr__" = some none) (hsub : subIn K (.ref D) (.type "BaseException") = some true) (hdct : hasDictIn K D = true) (ha : findIn K (.ref D) "__class__" = some (some (.builtin "object.__class__")))
    (hn : specialIn K (.builtin "object.__class__") "__get__" = some (some (.builtin "getset_descriptor.__get__"))) (htk : takesIn K (.builtin "object.__class__") = some true) (hm : mroIn K D (.type "object") = some true) :
    KitX K (.ref x) (.ref D) (fun h => InstAt h x ox D od) where
  ty := fun _ _ _ I => I.type
  it := fun _ _ X _ => by
    obtain ⟨cdD, hcD, _⟩ := any_some hdct
    unfold clsIn at hcD
    split at hcD
    · rename_i c' d' cd' sl' ho
      intro A' Q' E' s' k q
      unfold isType loadHead
      exact wpAny_bind (wpAny_loadPart (k _ _ (X _ _ ho)) (wpAny_pure q))
    · cases hcD
  ne := fun h tp dd its n sl X htp => by
    obtain ⟨cdD, hcD, _⟩ := any_some hdct
    refine Bool.eq_false_iff.mpr fun q => ?_
    have e : D = tp := Value.ref.inj (beq_iff_eq.mp q)
    subst e
    unfold clsIn at hcD
    split at hcD
    · rename_i c' d' cd' sl' ho
      have z := (X _ _ ho).symm.trans htp
      cases z
    · cases hcD
  ca := fun X I k => kin_classD hga hgt hsub hdct ha hn htk hm X I k
end
end PySem.W
namespace M
open PySem L2
theorem ObjOk.there {P : Program} {w : World} {H : Hp} {h : Heap} {a : Addr} {o : HO} (x : ObjOk P w H h a o) : ∃ u, h.get? a = some u := by
  induction o with
  | lst xs => obtain ⟨_, _, _, _, e⟩ := x; exact ⟨_, e⟩
  | tup xs => obtain ⟨_, _, _, p⟩ := x; obtain ⟨o, e, _⟩ := p; exact ⟨_, e⟩
  | dK kvs => obtain ⟨_, _, _, _, o, _, _, e, _⟩ := x; exact ⟨_, e⟩
  | dT kvs => obtain ⟨_, _, _, _, o, _, _, e, _⟩ := x; exact ⟨_, e⟩
  | set S n => obtain ⟨o, _, _, _, e, _⟩ := x; exact ⟨_, e⟩
  | ins C dx fs => obtain ⟨_, _, _, e, _⟩ := x; exact ⟨_, e⟩
  | own y => obtain ⟨_, e⟩ := x; exact ⟨_, e⟩
  | xd fs => obtain ⟨_, ⟨_, _, _, e, _⟩, _⟩ := x; exact ⟨_, e⟩
  | rng lo hi => obtain ⟨_, _, _, e⟩ := x; exact ⟨_, e⟩
  | frz ob u => obtain ⟨e, _⟩ := x; exact ⟨_, e⟩
  | tbl ps => exact ⟨_, show h.get? a = some _ from x⟩
  | met f y => exact ⟨_, show h.get? a = some _ from x⟩
  | ext φ => obtain ⟨_, e, _⟩ := x; exact e
/-- isinstance(e, c), e the exception at a, of the class at D, its dict at dd -/
theorem call_isD {X : Cx} {a D dd : Addr} {oe : Obj} (hp : (a, oe) ∈ X.pn) (C : ExcC X.K D) (hc : oe.cls = .ref D) (hd : oe.dict = some dd) (hf : ∃ vs, oe.data = .fields vs) :
    CallR X (.builtin "isinstance") (fun xs H Q => ∃ (c : V) (cv : Value) (b : Bool), xs = [.ref a, c] ∧ (∀ u, RelV c u → u = cv) ∧ PySem.W.kitOne X.K (.ref D) cv = some b ∧ H dd ≠ none ∧ Q (.bl b) H) := by
  intro pins s σ H xs us Q I r h
  obtain ⟨c, cv, b, rfl, hcv, e, hdd, q⟩ := h
  cases r with
  | cons rx rr =>
    cases rr with
    | cons rt rr =>
      cases rr
      cases rx
      have ec := hcv _ rt
      subst ec
      obtain ⟨hget, _⟩ := I.pin (a, oe) (List.mem_append.mpr (.inl hp))
      obtain ⟨vs, hv⟩ := hf
      obtain ⟨od, hod⟩ : ∃ od, s.heap.get? dd = some od := by
        cases z : H dd with
        | none => exact absurd z hdd
        | some o => exact ObjOk.there (I.hok dd o z)
      have J : PySem.W.InstAt s.heap a oe D (some od) := by
        obtain ⟨oc, odt, oda, osl⟩ := oe
        dsimp only at hc hd hv
        subst hc hd hv
        exact ⟨hget, rfl, rfl, hod⟩
      exact PySem.W.kia_one (PySem.W.kitx_excD C.hg C.hk C.hs C.hd C.ha C.hn C.ht C.hm) I.kIn J e (fun z => nomatch z) fun tk => ⟨.bl b, H, I.kept (t' := tk) fun _ _ z => z, rfl, q⟩
end M
end
/-! ## MH2 -/
section
set_option linter.all false
set_option maxRecDepth 100000
set_option maxHeartbeats 4000000
/-! Layer M: a comprehension over a list in an except suite; a def called there. -/
namespace M
open PySem PySem.Spec PyProof.Rows L2
open L2H (RoomH Hot1 PinOk cxH inv_startH)
section
variable {X : Cx} {T : List (Addr × Str)} {Z Z' : List Addr} {ρ ρ' : List Addr} {H H' : Hp} {A A' : AH} {d a b : D} {v : V} {E : XK} {g : Ga} {σ : L2.St} {Q : VK} {K : PySem.W.Frag} {t : Tab} {Φ : Fns} {k : Nat}
theorem pgN_M (xo : XOk0 g X) (x : Str) (p : Pos) : PG X (.Name x p) (gM X.K Z (tgS g (.Name x p)) (tgM g (.Name x p))) := by
  cases hsl : slotS g x with
  | none =>
    refine ⟨fun pins s σ H vs u Q I r h => ?_⟩
    obtain ⟨d, L, L1, ρ, hv, lr, e, q⟩ := h
    simp [tgM, hsl] at e
  | some i =>
    obtain ⟨h1, h2, h3⟩ := slotS_ok xo hsl
    refine pg_weak (pg_name (by rw [xo.N]; exact xo.nd) h1 h2 h3) fun v σ H Q h => ?_
    obtain ⟨d, L, L1, ρ, hv, lr, e, q⟩ := h
    simp only [tgM, hsl, Option.some.injEq] at e
    subst e
    exact q _ (LR.set i lr hv) fun vs hI => wipe_set _ _ _ (hI i (by simp [tgS, hsl]))
theorem xo_suite (xo : XOk0 g X) {x : Addr} {pn : List (Addr × Obj)} : XOk0 g (X.suite x pn) := ⟨xo.N, xo.nd, xo.gl, xo.loc, xo.free, xo.cf, xo.stk⟩
/-- the items of a list alone -/
def lstItems (x : D) (A : AH) : Res (List D) := match x with
  | .lst ds => .ok ds A
  | _ => .stuck
theorem pe_lcH_M {pp : Addr × Obj} {pvs : Array Value} (hh : X.A.handled = some (.ref pp.1)) (hpp : pp ∈ X.pn) (hpd : pp.2.data = .fields pvs) (hp2 : pvs[2]? = some .none) (xo : XOk0 g X)
    {y : Str} {py pos : Pos} {elt iter : Expr} {ifs : List Expr} {sc : Scope} {mi : ME} {mt : Expr → MT} {me : ME} (hz : ∀ x, foldedSetIterable iter X.env x = pure x) (hb : blkC g.N ⟨.function, g.nk, false, false, []⟩ sc (ownOf g sc) = true)
    (hi : PE X iter (eM X.K T Z E mi))
    (ht : ∀ (Z : List Addr) (s : Shared) (H : Hp) (C : Addr) (cl : List (Str × Addr)) (fp : List Addr) (e : Expr), PT (X.blk s H sc (compEnvC sc cl C X.env) fp) e (tM X.K T Z (fun _ _ _ => False) (mt e)))
    (he : ∀ (Z : List Addr) (s : Shared) (H : Hp) (C : Addr) (cl : List (Str × Addr)) (fp : List Addr), PE (X.blk s H sc (compEnvC sc cl C X.env) fp) elt (eM X.K T Z (fun _ _ _ => False) me)) :
    PE X (.ListComp elt [⟨.Name y py, iter, ifs, 0⟩] sc pos) (eM X.K T Z E fun L A => (mi L A).bind fun d A1 => (lstItems d A1).bind fun ds A2 => lcGo false (tgM ⟨g.N, sc.names, g.mu, true⟩ (.Name y py)) (allT mt ifs) me (wipeL L ((ownOf g sc).map (·.2))) ds [] A2) := by
  refine pe_weak (LH.pe_lcH (own := ownOf g sc) (g := fun v σ H Q => ∃ Z, gM X.K Z (tgS ⟨g.N, sc.names, g.mu, true⟩ (.Name y py)) (tgM ⟨g.N, sc.names, g.mu, true⟩ (.Name y py)) v σ H Q)
    (tt := fun σ H Q => ∃ Z, tM X.K T Z (fun _ _ _ => False) (allT mt ifs) σ H Q) (te := eX X.K T (fun _ _ _ => False) me)
    hh hpp hpd hp2 (by rw [xo.N]; exact xo.nd) hi (blk_ok xo hb)
    (fun s H C cl fp => ⟨fun pins s' σ H v u Q I r ⟨Z, q⟩ => (pgN_M (Z := Z) (xo_blk0 xo) y py).run pins s' σ H v u Q I r q⟩)
    (fun s H C cl fp => ⟨fun pins s' σ H' Q I ⟨Z, q⟩ => (ptsM (Z := Z) (T := T) (E := fun _ _ _ => False) (fun e => ht Z s H C cl fp e) ifs).run pins s' σ H' Q I q⟩)
    (fun s H C cl fp => pe_X fun Z => he Z s H C cl fp) hz) fun σ H Q h => ?_
  obtain ⟨L, A, ρ, lr, R, h⟩ := h
  refine ⟨L, A, ρ, lr, R, RG.bind h fun d A1 ρ1 H1 f1 R1 h1 v hv => ?_⟩
  cases d with
  | lst ds =>
    simp only [lstItems, Res.bind_ok] at h1
    simp only [VR] at hv
    obtain ⟨p0, us, rfl, n0, _, e0, vrs⟩ := hv
    refine ⟨p0, rfl, ⟨us, SqL.of e0⟩, fun p hp => ?_⟩
    obtain ⟨W, w1, w2⟩ := lc_walk (lr.fut R f1) R1 (it_lst vrs (.inl e0) n0) (tgS_own (blkOk_by hb).uniq _) h1 p hp
    refine ⟨W, w1, fun i m H hw => ?_⟩
    rcases w2 i m H hw with w | ⟨w3, Nx, w4, w5⟩
    · exact .inl w
    · refine .inr ⟨w3, Nx, w4, fun x H' hy => ?_⟩
      obtain ⟨d, L', L1, ρ', q1, q2, q3, q4⟩ := w5 x H' hy
      refine ⟨p :: Z, d, L', L1, ρ', q1, q2, q3, fun σ1 l1 s1 => ?_⟩
      obtain ⟨e1, L2', A2, ρ2, r1, r2, r3⟩ := q4 σ1 l1 s1
      refine ⟨e1, p :: Z, L2', A2, ρ2, r1, r2, r3.mono ?_ (fun _ _ _ _ _ _ z => z)⟩
      intro b A3 ρ3 H3 f3 R3 q
      cases b with
      | false => exact q
      | true => exact ⟨p :: Z, q⟩
  | _ => exact absurd h1 id
/-! ### a further hidden address -/
mutual
theorem VR.zput {p : Addr} (n1 : ∀ xs, H p ≠ some (.lst xs)) (n2 : ∀ ks, H p ≠ some (.dK ks)) : ∀ (d : D) {v : V}, VR K Z ρ H d v → VR K (p :: Z) ρ H d v
  | .non, _, h => by simpa [VR] using h
  | .bl _, _, h => by simpa [VR] using h
  | .int _, _, h => by simpa [VR] using h
  | .str _, _, h => by simpa [VR] using h
  | .ty _, _, h => by simpa [VR] using h
  | .con _, _, h => by simpa [VR] using h
  | .obj _, _, h => by simpa [VR] using h
  | .tup ds, _, h => by
    simp only [VR] at h ⊢
    obtain ⟨a, vs, h1, h2, h3⟩ := h
    exact ⟨a, vs, h1, h2, VRs.zput n1 n2 ds h3⟩
  | .lst ds, _, h => by
    simp only [VR] at h ⊢
    obtain ⟨a, vs, h1, n, n3, h2, h3⟩ := h
    refine ⟨a, vs, h1, n, fun m => ?_, h2, VRs.zput n1 n2 ds h3⟩
    rcases List.mem_cons.mp m with e | m
    · rw [e] at h2; exact n1 _ h2
    · exact n3 m
  | .fls ds, _, h => by
    simp only [VR] at h ⊢
    obtain ⟨a, vs, o, h1, n, h2, h3⟩ := h
    exact ⟨a, vs, o, h1, n, h2, VRs.zput n1 n2 ds h3⟩
  | .dic ks ds, _, h => by
    simp only [VR] at h ⊢
    obtain ⟨a, vs, h1, n, n3, h2, hl, h3⟩ := h
    refine ⟨a, vs, h1, n, fun m => ?_, h2, hl, VRs.zput n1 n2 ds h3⟩
    rcases List.mem_cons.mp m with e | m
    · rw [e] at h2; exact n2 _ h2
    · exact n3 m
theorem VRs.zput {p : Addr} (n1 : ∀ xs, H p ≠ some (.lst xs)) (n2 : ∀ ks, H p ≠ some (.dK ks)) : ∀ (ds : List D) {vs : List V}, VRs K Z ρ H ds vs → VRs K (p :: Z) ρ H ds vs
  | [], _, h => by simpa [VRs] using h
  | d :: ds, _, h => by
    simp only [VRs] at h ⊢
    obtain ⟨v, r, h1, h2, h3⟩ := h
    exact ⟨v, r, h1, VR.zput n1 n2 d h2, VRs.zput n1 n2 ds h3⟩
end
theorem FR.zput {p : Addr} (n1 : ∀ xs, H p ≠ some (.lst xs)) (n2 : ∀ ks, H p ≠ some (.dK ks)) : ∀ (ps : List (Str × D)) {fs : List (Str × V)}, FR K Z ρ H ps fs → FR K (p :: Z) ρ H ps fs
  | [], _, h => by simpa [FR] using h
  | q :: ps, _, h => by
    simp only [FR] at h ⊢
    obtain ⟨v, r, h1, h2, h3⟩ := h
    exact ⟨v, r, h1, VR.zput n1 n2 _ h2, FR.zput n1 n2 ps h3⟩
theorem LR.zput {p : Addr} (n1 : ∀ xs, H p ≠ some (.lst xs)) (n2 : ∀ ks, H p ≠ some (.dK ks)) : ∀ {L : M.Loc} {σ : L2.St}, LR K Z ρ H L σ → LR K (p :: Z) ρ H L σ
  | [], _, h => by simpa [LR] using h
  | none :: L, _, h => by
    simp only [LR] at h ⊢
    obtain ⟨o, r, h1, h2⟩ := h
    exact ⟨o, r, h1, LR.zput n1 n2 h2⟩
  | some d :: L, _, h => by
    simp only [LR] at h ⊢
    obtain ⟨v, r, h1, h2, h3⟩ := h
    exact ⟨v, r, h1, VR.zput n1 n2 d h2, LR.zput n1 n2 h3⟩
theorem Rel.zput {p : Addr} (n1 : ∀ xs, H p ≠ some (.lst xs)) (n2 : ∀ ks, H p ≠ some (.dK ks)) (n3 : H p ≠ none) (R : Rel K Z ρ H T A) : Rel K (p :: Z) ρ H T A := by
  refine ⟨R.len, R.nd, fun i o a e1 e2 => ?_, R.tab, fun z m => ?_⟩
  · have q := R.obj i o a e1 e2
    cases o with
    | lst ds =>
      obtain ⟨vs, h1, h2⟩ := q
      exact ⟨vs, h1, VRs.zput n1 n2 ds h2⟩
    | ins C fs =>
      obtain ⟨dx, gs, h1, h2⟩ := q
      exact ⟨dx, gs, h1, FR.zput n1 n2 fs h2⟩
  · rcases List.mem_cons.mp m with e | m
    · rw [e]; exact n3
    · exact R.hid z m
/-! ### a def called in the suite -/
theorem run_ofH {CX : CXT} {P : Program} {w : World} {K : PySem.W.Frag} {mg : Str → Option Value} {base : Heap} {k : Nat} {f : Addr} {name qual : Str} {params : Arguments} {body : List Stmt} {scope : Scope} {dV kV doc pm cdv ct oc : Value} {an od : Option Addr}
    {osl : Array (Option Value)} {N ps : List Str} (lk : K.lookup f = some ⟨oc, od, .func (PySem.W.fnOf name qual params body scope dV kV doc pm an cdv ct), osl⟩) (hcd : PySem.W.codeIn K cdv qual = true) (S : FnScope N ps scope)
    {A : Around} {outer : List Env} {s : Shared} {H : Hp} {args : Args} {us : List Value} {vs : List V} {Q : VK} {E : XK} {p : Addr × Obj} (hr : RoomH (k + 1) A) (hpin : PinOk outer H s p) (e0 : Env0 P w K mg base A outer s H)
    (hb : BindsTo s (PySem.W.fnOf name qual params body scope dV kV doc pm an cdv ct) args (ps.zip us)) (r : Vals vs us) (hl : vs.length = ps.length)
    (hbody : RoomH k (A.deeper (envOfC qual scope s.heap.objs.size f cdv)) → ∃ t, PSs (cxH CX P w K mg base N qual scope f cdv A outer s H E p) body t ∧ t { nx := fun _ H' => Q .non H', rt := Q } (L2.start N vs) H) :
    codeAny (model P w) A (.call (.ref f) args) (CR CX outer P w H s Q E) s := by
  have KX : K.In s.heap := e0.mod.kin.keeps fun b o e => (e0.bs b o e).1
  have lim : s.heap.NoLimit := e0.mod.nolimit.keeps fun b o e => (e0.bs b o e).1
  have hkind : ∀ y ∈ ps.zip us, scope.names.lookup y.1 = some .local ∨ (scope.names.lookup y.1 = some .cell ∧ ((cellsFrom (s.heap.objs.size + 1) scope.names []).lookup y.1).isSome = true) := fun ⟨n, v⟩ hy => by
    rcases S.par n (List.of_mem_zip hy).1 with q | q
    · exact .inl q
    · exact .inr ⟨q, PySem.W.cellsFrom_some _ _ _ (.inl q)⟩
  refine codeAny_call_function hr.depth (KX _ _ lk) rfl S.co S.gen rfl (PySem.W.codeRec_of KX hcd) (hb _ _ _ _ ?_)
  refine wpAny_newFunctionEnv_cells S.kind hkind fun env he s1 x => ?_
  subst he
  refine ⟨lim.keeps x.toInCall.keep, codeAny_func ?_⟩
  obtain ⟨t, ht, hq⟩ := hbody (hr.deeper _)
  have I : Inv (cxH CX P w K mg base N qual scope f cdv A outer s H E p) [] (L2.start N vs) H s1 := inv_startH S hpin e0 hl r x
  refine wpAny_mono (ht.run [] s1 (L2.start N vs) H _ I hq) (fun fl s' hs => ?_) fun e s' hs => hs
  have fin : ∀ {σ' : L2.St} {H' : Hp} {v : V} {u : Value}, Inv (cxH CX P w K mg base N qual scope f cdv A outer s H E p) [] σ' H' s' → RelV v u → Q v H' → CE outer P w H s Q u s' :=
    fun {σ' H' v u} J rv q => ⟨v, H', J.os, J.bare, J.base, J.hok, rv, q⟩
  cases fl with
  | ret u =>
    obtain ⟨v, σ', H', J, rv, q⟩ := hs
    exact fin J rv q
  | next =>
    obtain ⟨σ', H', J, q⟩ := hs
    exact fin (v := V.non) (u := Value.none) J rfl q
  | brk =>
    obtain ⟨_, _, _, q⟩ := hs
    exact False.elim q
  | cont =>
    obtain ⟨_, _, _, q⟩ := hs
    exact False.elim q
end
end M
end
/-! ## MH3 -/
section
set_option linter.all false
set_option maxRecDepth 100000
set_option maxHeartbeats 4000000
/-! Layer M: the text of _law_classes, called in an except suite; the suite of _law_heard. -/
namespace M
open PySem PySem.Spec PyProof.Rows L2
open L2H (RoomH Hot1 PinOk cxH inv_startH)
theorem conIs_inv {K : PySem.W.Frag} {T : List (Addr × Str)} {Z : List Addr} {E : XK} {σ : L2.St} {H : Hp} {Q : VK} {i : Nat} {a : Addr} {x : M.D} (h : eM K T Z E (conIs i a x) σ H Q) :
    ∃ L A ρ, LR K Z ρ H L σ ∧ L[i]? = some (some (.con a)) ∧ σ[i]? = some (some (.ref a)) ∧ Rel K Z ρ H T A ∧ RG K T Z ρ H (PQ K Z Q) (EXK K Z E) (.ok x A) := by
  obtain ⟨L, A, ρ, lr, R, h⟩ := h
  unfold conIs eVar at h
  split at h
  · rename_i d hL
    simp only [Res.bind_ok] at h
    split at h
    · split at h
      · rename_i ea
        subst ea
        obtain ⟨v, e1, e2⟩ := lr.get hL
        simp only [VR] at e2
        subst e2
        exact ⟨L, A, ρ, lr, hL, e1, R, h⟩
      · exact absurd h id
    · exact absurd h id
  · exact absurd h id
section
variable {X : Cx} {T : List (Addr × Str)} {Z Z' : List Addr} {ρ ρ' : List Addr} {H H' : Hp} {A A' : AH} {E : XK} {σ : L2.St} {Q : VK}
theorem pe_clsCell {nk : List (Str × NameKind)} {a D dd : Addr} {oe : Obj} {ans : Str → Option Bool} (hp : (a, oe) ∈ X.pn) (C : ExcC X.K D) (hc : oe.cls = .ref D) (hd : oe.dict = some dd) (hf : ∃ vs, oe.data = .fields vs) (hdd : dd ∈ Z)
    (hN : X.N[0]? = some ("refused_one" : Str)) (hv : Vis X.env.scope "refused_one") (hnk : X.env.scope.names = nk) (hgi : Gl X "isinstance") (hmi : X.mg "isinstance" = none)
    (hans : ∀ z b, ans z = some b → ∃ C', X.mg z = some (.ref C') ∧ PySem.W.kitOne X.K (.ref D) (.ref C') = some b) : ∀ e, PE X e (eM X.K T Z E (clsCell nk a ans e)) := by
  intro e
  unfold clsCell
  split
  · exact pe_str_M
  · rename_i f p0 y p1 z p2 p3
    split
    · rename_i c
      obtain ⟨rfl, rfl, c3, c4⟩ := c
      cases q : ans z with
      | none => exact pe_stuck_M
      | some b =>
        obtain ⟨C', m1, m2⟩ := hans z b q
        have gz : Gl X z := by
          unfold isGl at c3
          split at c3
          · rename_i hl
            show X.env.scope.names.lookup z = some .globalImplicit
            rw [hnk]
            exact hl
          · cases c3
        refine pe_weak (pe_callB (call_isD hp C hc hd hf) hgi hmi (by decide +kernel) (pa_cons (pe_var hN hv (by decide +kernel) (by decide +kernel)) (pa_cons (pe_glob (v := .ref C') gz m1 rfl (plain_ok c4).1) pa_nil)) (by decide +kernel) (by decide +kernel)) fun σ H Q h => ?_
        obtain ⟨L, A, ρ, lr, hL, e1, R, h⟩ := conIs_inv h
        exact ⟨.ref _, e1, _, .ref C', b, rfl, fun u r => r, m2, R.hid dd hdd, rg_scal R h (by simp only [VR])⟩
    · exact pe_stuck_M
  · exact pe_stuck_M
theorem pe_clsRow {nk : List (Str × NameKind)} {a D dd : Addr} {oe : Obj} {ans : Str → Option Bool} (hp : (a, oe) ∈ X.pn) (C : ExcC X.K D) (hc : oe.cls = .ref D) (hd : oe.dict = some dd) (hf : ∃ vs, oe.data = .fields vs) (hdd : dd ∈ Z)
    (hN : X.N[0]? = some ("refused_one" : Str)) (hv : Vis X.env.scope "refused_one") (hnk : X.env.scope.names = nk) (hgi : Gl X "isinstance") (hmi : X.mg "isinstance" = none)
    (hans : ∀ z b, ans z = some b → ∃ C', X.mg z = some (.ref C') ∧ PySem.W.kitOne X.K (.ref D) (.ref C') = some b) : ∀ e, PE X e (eM X.K T Z E (clsRow nk a ans e)) := by
  intro e
  unfold clsRow
  split
  · exact pe_tup_M (pa_M (pe_clsCell hp C hc hd hf hdd hN hv hnk hgi hmi hans) _)
  · exact pe_stuck_M
end
section
variable {X : Cx} {T : List (Addr × Str)} {Z Z' : List Addr} {ρ ρ' : List Addr} {H H' : Hp} {A A' : AH} {E : XK} {σ : L2.St} {Q : VK}
/-- _law_classes(refused_one) in a suite -/
theorem pe_classes {a D dd : Addr} {oe : Obj} {pn : List (Addr × Obj)} {gK : Addr} {pg : Arguments} {es : List Expr} {sg : Scope} {p1 p2 q1 q2 q3 : Pos} {ans : Str → Option Bool} {rows : List M.D} {k i : Nat} {pvs : Array Value} (TX : ClsTxt X.K X.mg gK pg es sg p1 p2)
    (C : ExcC X.K D) (hz : L2N.Zn (.ref D) (some dd) oe) (hf : oe.data = .fields pvs) (hdd : dd ∈ Z) (hr : RoomH (k + 1) X.A) (hstk : X.stack = X.env :: X.outer)
    (hg : Gl X "_law_classes") (hN : X.N[i]? = some ("refused_one" : Str)) (hv : Vis X.env.scope "refused_one")
    (hans : ∀ z b, ans z = some b → ∃ C', X.mg z = some (.ref C') ∧ PySem.W.kitOne X.K (.ref D) (.ref C') = some b)
    (hrows : ∀ A, aR (aE (clsRow sg.names a ans) es) lstR [some (.con a)] A = .ok (.lst rows) A) :
    PE (X.suite a ((a, oe) :: pn)) (.Call (.Name "_law_classes" q1) [.Name "refused_one" q2] [] q3) (eM X.K T Z E (conIs i a (.lst rows))) := by
  refine ⟨fun pins s σ H Q I h => ?_⟩
  obtain ⟨L, A0, ρ, lr, hL, e1, R, h⟩ := conIs_inv h
  have hvS : Vis (X.suite a ((a, oe) :: pn)).env.scope "refused_one" := hv
  refine wpAny_Call_Name_kw (ld_glob I hg TX.g ?_ (by decide +kernel))
  refine PySem.W.callWith_K (h₀ := X.base) I.ok.mod.kin TX.kp ?_ rfl rfl
  have ha := (pa_cons (pe_var (X := X.suite a ((a, oe) :: pn)) (pos := q2) hN hvS (by decide +kernel) (by decide +kernel)) pa_nil).run q3 pins s σ H (fun vs H1 => vs = [.ref a] ∧ H1 = H) I ⟨.ref a, e1, rfl, rfl⟩
  refine thn ha fun us s1 ⟨vs, H1, I1, r1, ev, eH⟩ => ?_
  subst ev
  subst eH
  refine ⟨I1.kIn, ?_⟩
  obtain ⟨oc, od, dV, kV, doc, pm, cdv, ct, an, osl, lk, hcd, hb⟩ := TX.lk
  have P1 := I1.pin (a, oe) (List.mem_append_left _ List.mem_cons_self)
  have hpin : PinOk X.stack H1 s1 (a, oe) := ⟨P1.1, P1.2.1, fun hm => (List.mem_cons.mp (I1.stkSub a hm)).elim P1.2.2.1 P1.2.2.2.1, P1.2.2.2.2⟩
  have hrS : RoomH (k + 1) (X.suite a ((a, oe) :: pn)).A := ⟨hr.dp, hr.un⟩
  have hl : us.length = 1 := by rw [← r1.length]; rfl
  have b := hb s1 us I1.kIn (by rw [List.append_nil]; exact hl)
  rw [List.append_nil] at b
  have body := run_ofH (CX := L2N.CX X.prog X.w) (E := fun _ _ _ => False) (Q := Q) (p := (a, oe)) (P := X.prog) (w := X.w) (mg := X.mg) (base := X.base) (us := us) (vs := [.ref a]) (args := ⟨us, []⟩) lk hcd TX.sc hrS hpin I1.env0 b r1 rfl fun hr' => by
    refine ⟨_, pss_one (ps_ret_M (T := T) (Z := Z) (E := fun _ _ _ => False) (pe_lst_M (pa_M (pe_clsRow (X := cxH (L2N.CX X.prog X.w) X.prog X.w X.K X.mg X.base ["refused_one"] "_law_classes" sg gK cdv (X.suite a ((a, oe) :: pn)).A X.stack s1 H1 (fun _ _ _ => False) (a, oe)) (nk := sg.names) (ans := ans) (D := D) (dd := dd) (oe := oe) (a := a) List.mem_cons_self C hz.1 hz.2.1 ⟨_, hf⟩ hdd rfl (TX.sc.par _ (by simp)|>.elim .inl fun h => .inr (.inl h)) rfl TX.gi TX.mi hans) es))), ?_⟩
    refine ⟨[some (.con a)], A0, ρ, ?_, R, ?_⟩
    · show LR _ _ _ _ [some (.con a)] [some (.ref a)]
      simp only [LR, VR]
      exact ⟨_, _, rfl, rfl, rfl⟩
    · dsimp only
      rw [hrows]
      exact fun v ρ' H' f' R' hv' => h ρ' H' f' R' v hv'
  refine wpAny_call (codeAny_mono body fun r s' hq => ?_)
  cases r with
  | error e =>
    obtain ⟨_, _, _, _, _, _, _, _, _, _, _, _, z⟩ := hq
    exact z.elim
  | ok fl =>
    cases fl with
    | ret u => exact I1.after hq
    | next => exact False.elim hq
    | brk => exact False.elim hq
    | cont => exact False.elim hq
end
end M
end
/-! ## MH4 -/
section
set_option linter.all false
set_option maxRecDepth 100000
set_option maxHeartbeats 4000000
/-! Layer M: the suite of _law_heard. -/
namespace M
open PySem PySem.Spec PyProof.Rows L2
open L2H (RoomH Hot1 PinOk cxH inv_startH)
def hotT (S : Stat) : Expr → MT
  | .Subscript (.Name x _) (.Constant (.int i) _ _) _ => if x = "line" then fun L A => (e2 (eVar 2) (eK (.int i)) (ixM S) L A).bind fun x A1 => truR A1 x else fun _ _ => .stuck
  | _ => fun _ _ => .stuck
theorem hot_go {S : Stat} {g' : Ga} {y : Str} {py : Pos} {L : M.Loc} (hs : slotS g' y = some 2) (hL : L.length = 3) {v0 v1 v2 : Pos} {j : Nat} (hy : y = "line") : ∀ (rs : List (Str × Bool)) (acc : List M.D) (A : AH), acc.length + rs.length < sizeLine →
    lcGo false (tgM g' (.Name y py)) (allT (hotT S) [.Subscript (.Name y v0) (.Constant (.int 1) j v1) v2]) (e2 (eVar 2) (eK (.int 0)) (ixM S)) L (rowsD rs) acc A = .ok (.lst (acc ++ (wordsOf rs).map .str)) A
  | [], acc, A, _ => by simp [rowsD, wordsOf, lcGo]
  | (x, b) :: rs, acc, A, h => by
    subst hy
    have hg : tgM g' (.Name "line" py) (.tup [.str x, .bl b]) L = some (L.set 2 (some (.tup [.str x, .bl b]))) := by simp [tgM, hs]
    have hv : ∀ A, eVar 2 (L.set 2 (some (.tup [.str x, .bl b]))) A = .ok (.tup [.str x, .bl b]) A := fun A => by
      unfold eVar
      rw [List.getElem?_set_self (by omega)]
    have ht : ∀ A, allT (hotT S) [.Subscript (.Name "line" v0) (.Constant (.int 1) j v1) v2] (L.set 2 (some (.tup [.str x, .bl b]))) A = .ok b A := fun A => by
      show (e2 (eVar 2) (eK (.int 1)) (ixM S) (L.set 2 (some (.tup [.str x, .bl b]))) A).bind _ = _
      unfold e2
      rw [hv]
      rfl
    have he : ∀ A, e2 (eVar 2) (eK (.int 0)) (ixM S) (L.set 2 (some (.tup [.str x, .bl b]))) A = .ok (.str x) A := fun A => by
      unfold e2
      rw [hv]
      rfl
    simp only [List.length_cons] at h
    show lcGo false _ _ _ L (.tup [.str x, .bl b] :: rowsD rs) acc A = _
    simp only [lcGo, hg, ht]
    cases b with
    | false =>
      simp only
      rw [hot_go hs hL rfl rs acc A (by omega)]
      simp [wordsOf]
    | true =>
      simp only [he]
      rw [if_pos (by omega), hot_go hs hL rfl rs (acc ++ [M.D.str x]) A (by simp; omega)]
      simp [wordsOf]
section
variable {X : Cx} {T : List (Addr × Str)} {Z Z' : List Addr} {ρ ρ' : List Addr} {H H' : Hp} {A A' : AH} {E : XK} {σ : L2.St} {Q : VK}
/-- what the suite's words are asked by -/
structure SuiteB (X : Cx) (nk : List (Str × NameKind)) (a D dd : Addr) (oe : Obj) (pn : List (Addr × Obj)) (S : Stat) (gK : Addr) (pg : Arguments) (es : List Expr) (sg : Scope) (p1 p2 : Pos) (rs : List (Str × Bool)) (k : Nat) : Prop where
  xo : XOk0 ⟨["deed", "refused_one", "line"], nk, false, false⟩ X
  ro : slot ⟨["deed", "refused_one", "line"], nk, false, false⟩ "refused_one" = some 1
  gcl : isGl ⟨["deed", "refused_one", "line"], nk, false, false⟩ "_law_classes" = true
  hb : blkC ["deed", "refused_one", "line"] ⟨.function, nk, false, false, []⟩ lcSc (ownOf ⟨["deed", "refused_one", "line"], nk, false, false⟩ lcSc) = true
  ow : (ownOf ⟨["deed", "refused_one", "line"], nk, false, false⟩ lcSc).map (·.2) = [2]
  so : SOk S X.K X.w
  cls : ClsTxt X.K X.mg gK pg es sg p1 p2
  exc : ExcC X.K D
  zn : L2N.Zn (.ref D) (some dd) oe
  fs : ∃ vs, oe.data = .fields vs
  room : RoomH (k + 1) X.A
  ans : ∃ ans : Str → Option Bool, (∀ z b, ans z = some b → ∃ C', X.mg z = some (.ref C') ∧ PySem.W.kitOne X.K (.ref D) (.ref C') = some b) ∧ ∀ A, aR (aE (clsRow sg.names a ans) es) lstR [some (.con a)] A = .ok (.lst (rowsD rs)) A
  few : rs.length < 1000
theorem pe_words {nk : List (Str × NameKind)} {a D dd : Addr} {oe : Obj} {pn : List (Addr × Obj)} {S : Stat} {gK : Addr} {pg : Arguments} {es : List Expr} {sg : Scope} {p1 p2 : Pos} {rs : List (Str × Bool)} {k : Nat} (B : SuiteB X nk a D dd oe pn S gK pg es sg p1 p2 rs k) (hdd : dd ∈ Z)
    {j1 j2 : Nat} {v0 v1 v2 v3 v4 v5 v6 v7 v8 v9 v10 : Pos} :
    PE (X.suite a ((a, oe) :: pn)) (.ListComp (.Subscript (.Name "line" v0) (.Constant (.int 0) j1 v1) v2) [⟨.Name "line" v3, .Call (.Name "_law_classes" v4) [.Name "refused_one" v5] [] v6, [.Subscript (.Name "line" v7) (.Constant (.int 1) j2 v8) v9], 0⟩] lcSc v10)
      (eM X.K T Z E fun L A => if L.length = 3 then conIs 1 a (.lst ((wordsOf rs).map .str)) L A else .stuck) := by
  obtain ⟨pvs, hf⟩ := B.fs
  have hp2 : pvs[2]? = some .none := B.zn.2.2 pvs hf
  obtain ⟨ans, hans, hrows⟩ := B.ans
  have xs : XOk0 ⟨["deed", "refused_one", "line"], nk, false, false⟩ (X.suite a ((a, oe) :: pn)) := xo_suite B.xo
  obtain ⟨r1, r2, r3⟩ := slot_ok B.xo B.ro
  have hstk := (B.xo.stk rfl).1
  have hi : PE (X.suite a ((a, oe) :: pn)) (.Call (.Name "_law_classes" v4) [.Name "refused_one" v5] [] v6) (eM X.K T Z E (conIs 1 a (.lst (rowsD rs)))) :=
    pe_classes (D := D) B.cls B.exc B.zn hf hdd B.room hstk (isGl_ok B.xo B.gcl) r1 r2 hans hrows
  have sl2 : slot ⟨["deed", "refused_one", "line"], lcSc.names, false, true⟩ "line" = some 2 := by decide +kernel
  have sl3 : slotS ⟨["deed", "refused_one", "line"], lcSc.names, false, true⟩ "line" = some 2 := by decide +kernel
  have un : X.A.units + 1 < cLine := by have := B.room.un; omega
  refine pe_weak (pe_lcH_M (T := T) (Z := Z) (E := E) (pp := (a, oe)) (mt := hotT S) (me := e2 (eVar 2) (eK (.int 0)) (ixM S)) rfl List.mem_cons_self hf hp2 xs (fun _ => rfl) B.hb hi (fun Z s H C cl fp e => ?_) fun Z s H C cl fp => ?_) fun σ H Q h => ?_
  · unfold hotT
    split
    · split
      · rename_i x q1 i j q2 q3 e
        subst e
        exact pt_tru_M (fun _ => rfl) (pe_ix_M (X := (X.suite a ((a, oe) :: pn)).blk s H lcSc (compEnvC lcSc cl C X.env) fp) un B.so rfl (pe_var_M (xo_blk0 xs) sl2) pe_int_M)
      · exact pt_stuck_M
    · exact pt_stuck_M
  · exact pe_ix_M (X := (X.suite a ((a, oe) :: pn)).blk s H lcSc (compEnvC lcSc cl C X.env) fp) un B.so rfl (pe_var_M (xo_blk0 xs) sl2) pe_int_M
  · obtain ⟨L, A, ρ, lr, R, h⟩ := h
    refine ⟨L, A, ρ, lr, R, ?_⟩
    dsimp only at h ⊢
    split at h
    · rename_i h3
      have e1 : ((conIs 1 a (.lst (rowsD rs)) L A).bind fun d A1 => (lstItems d A1).bind fun ds A2 => lcGo false (tgM ⟨["deed", "refused_one", "line"], lcSc.names, false, true⟩ (.Name "line" v3)) (allT (hotT S) [.Subscript (.Name "line" v7) (.Constant (.int 1) j2 v8) v9]) (e2 (eVar 2) (eK (.int 0)) (ixM S)) (wipeL L ((ownOf ⟨["deed", "refused_one", "line"], nk, false, false⟩ lcSc).map (·.2))) ds [] A2) = conIs 1 a (.lst ((wordsOf rs).map .str)) L A := by
        unfold conIs
        cases q : eVar 1 L A with
        | stuck => rfl
        | exc e A1 => rfl
        | ok d A1 =>
          simp only [Res.bind_ok]
          cases d with
          | con a' =>
            simp only
            by_cases ea : a' = a
            · rw [if_pos ea, if_pos ea]
              simp only [Res.bind_ok, lstItems]
              rw [B.ow, hot_go sl3 (by show (L.set 2 none).length = 3; rw [List.length_set]; exact h3) rfl rs [] A1 (by rw [List.length_nil, Nat.zero_add]; exact Nat.lt_of_lt_of_le B.few (by decide))]
              rfl
            · rw [if_neg ea, if_neg ea]
              rfl
          | _ => rfl
      rw [e1]
      exact h
    · exact absurd h id
/-- the whole suite, behind which the one word nm and what the exception bears are told -/
theorem ps_suite {nk : List (Str × NameKind)} {a D dd : Addr} {oe : Obj} {pn : List (Addr × Obj)} {S : Stat} {gK : Addr} {pg : Arguments} {es : List Expr} {sg : Scope} {p1 p2 : Pos} {rs : List (Str × Bool)} {k : Nat} (B : SuiteB X nk a D dd oe pn S gK pg es sg p1 p2 rs k) (hdd : dd ∈ Z)
    (xf : XfC X.K D) (nw : PySem.W.findIn X.K (.ref D) "what" = some none) {nm : Str} (hw : wordsOf rs = [nm]) (hs : nm.length < 1000)
    {j0 j1 j2 k0 : Nat} {u0 u1 u2 u3 u4 u5 u6 v0 v1 v2 v3 v4 v5 v6 v7 v8 v9 v10 : Pos} (hl : (u1.endLine == u2.line) = true) :
    PSs (X.suite a ((a, oe) :: pn)) [.Return (some (.Tuple [.Call (.Attribute (.Constant (.str " ") j0 u0) "join" u1) [.ListComp (.Subscript (.Name "line" v0) (.Constant (.int 0) j1 v1) v2) [⟨.Name "line" v3, .Call (.Name "_law_classes" v4) [.Name "refused_one" v5] [] v6, [.Subscript (.Name "line" v7) (.Constant (.int 1) j2 v8) v9], 0⟩] lcSc v10] [] u2,
        .Attribute (.Name "refused_one" u3) "what" u4] k0 u5)) u6]
      (fun De σ H => ∃ L A ρ v fs, LR X.K Z ρ H L σ ∧ L[1]? = some (some (.con a)) ∧ L.length = 3 ∧ Rel X.K Z ρ H T A ∧ H dd = some (.xd fs) ∧ fs.lookup ("what" : Str) = some v ∧ ∀ ρ' H' p, Fut ρ H ρ' H' → Rel X.K Z ρ' H' T A → H' p = none → De.rt (.ref p) (upd H' p (.tup [.str nm, v]))) := by
  obtain ⟨r1, r2, r3⟩ := slot_ok B.xo B.ro
  have un : (X.suite a ((a, oe) :: pn)).A.units + 1 < cLine := by have := B.room.un; show X.A.units + 1 < cLine; omega
  have hvS : Vis (X.suite a ((a, oe) :: pn)).env.scope "refused_one" := r2
  obtain ⟨id, q1, q2, q3, q4⟩ := mt_M (X := X.suite a ((a, oe) :: pn)) (T := T) (Z := Z) un .join "join" (by decide +kernel)
  have hj := pe_bm (apos := u1) (cpos := u2) q1 q2 q3 q4 (pe_str_M (X := X.suite a ((a, oe) :: pn)) (T := T) (Z := Z) (E := fun _ _ _ => False) (x := " ") (j := j0) (p := u0))
    (pa_cons (pe_words (T := T) (Z := Z) (E := fun _ _ _ => False) B hdd (j1 := j1) (j2 := j2) (v0 := v0) (v1 := v1) (v2 := v2) (v3 := v3) (v4 := v4) (v5 := v5) (v6 := v6) (v7 := v7) (v8 := v8) (v9 := v9) (v10 := v10)) pa_nil) (base_plain rfl) (few_ok rfl) hl rfl rfl
  have hx := pe_xf (pos := u4) xf nw B.zn.zc B.fs (pe_var (X := X.suite a ((a, oe) :: pn)) (pos := u3) r1 hvS (by decide +kernel) (by decide +kernel))
  refine pss_weak (pss_one (ps_ret (pe_tup (pa_cons hj (pa_cons hx pa_nil))))) fun De σ H h => ?_
  obtain ⟨L, A, ρ, v, fs, lr, hL, h3, R, hd, hv, q⟩ := h
  obtain ⟨w, e1, e2⟩ := lr.get hL
  simp only [VR] at e2
  subst e2
  refine ⟨L, A, ρ, lr, R, fun ρ1 H1 f1 R1 x hx1 => ?_⟩
  simp only [VR] at hx1
  subst hx1
  refine ⟨rcv_ok (K := X.K) (Z := Z) (ρ := ρ1) (f := .join) (a := .str " ") rfl (by simp only [VR]), L, A, ρ1, lr.fut R f1, R1, ?_⟩
  dsimp only
  rw [if_pos h3]
  have ec : conIs 1 a (.lst ((wordsOf rs).map .str)) L A = .ok (.lst ((wordsOf rs).map .str)) A := by
    unfold conIs eVar
    rw [hL]
    simp only [Res.bind_ok]
    first | rw [if_pos rfl] | simp
  rw [ec]
  intro ρ2 H2 f2 R2 y hy
  refine ⟨.str " ", [.lst ((wordsOf rs).map .str)], A, ρ2, fun _ _ _ _ => False, by simp only [VR], VRs.cons hy VRs.nil, R2, ?_⟩
  have em : mtM .join (.str " ") [.lst ((wordsOf rs).map .str)] A = .ok (.str nm) A := by
    rw [hw]
    show optR A (mtV A .join (.str " ") [.lst [.str nm]]) = _
    have e3 : mtV A .join (.str " ") [.lst [.str nm]] = some (.str nm) := by
      show ((strDs [M.D.str nm]).bind fun ys => if (ys.map (·.length)).sum + ys.length * (" " : Str).length ≤ 16777216 then some (M.D.str (Txt.join " " ys)) else none) = _
      have e4 : strDs [M.D.str nm] = some [nm] := rfl
      rw [e4, Option.bind_some, if_pos]
      · rfl
      · show nm.length + 0 + 1 * 1 ≤ 16777216
        omega
    rw [e3]
    rfl
  rw [em]
  intro ρ3 H3 f3 R3 z hz
  simp only [VR] at hz
  subst hz
  have F := (f1.trans f2).trans f3
  have hd3 : H3 dd = some (.xd fs) := F.keep dd _ hd (R.no hd (fun _ z => by cases z) (fun _ _ _ z => by cases z)) (fun _ z => by cases z)
  exact ⟨.ref a, e1, rfl, rfl, dd, fs, v, rfl, hd3, hv, (by decide : (2 : Nat) ≤ sizeLine), fun p hp => q ρ3 H3 p F R3 hp⟩
end
end M
end
/-! ## ML -/
section
set_option linter.all false
set_option maxRecDepth 100000
set_option maxHeartbeats 4000000
/-! Layer M: lambdas without parameters, called at any depth behind the def that made them. -/
namespace M
open PySem PySem.Spec PyProof.Rows L2
open LamX (lamEnv LamS CodeO TabB Tabs ExtN)
/-- the context of the lambda's body, entered at s from the frames outer -/
def lamCx (X : Cx) (A : Around) (outer : List Env) (s : Shared) (H : Hp) (E : XK) (scope : Scope) (f c' : Addr) : Cx where
  prog := X.prog
  w := X.w
  K := X.K
  mg := X.mg
  base := X.base
  A := A.deeper (lamEnv X scope s.heap.objs.size f c')
  N := X.N
  s_0 := s
  H_0 := H
  env := lamEnv X scope s.heap.objs.size f c'
  outer := outer
  stack := lamEnv X scope s.heap.objs.size f c' :: outer
  ex := []
  fn := fun _ => false
  calm := true
  pn := []
  xe := fun e s' => wpAny (model X.prog X.w) (A.deeper (lamEnv X scope s.heap.objs.size f c')) (leaving (lamEnv X scope s.heap.objs.size f c') e) (fun _ s'' => L2N.CX X.prog X.w outer H s E e s'') (fun e' s'' => L2N.CX X.prog X.w outer H s E e' s'') s'
section
variable {X : Cx} {pins : List (Addr × Obj)} {σ : L2.St} {H HZ : Hp} {s s1 : Shared}
theorem lam_start {A : Around} {outer : List Env} {E : XK} {scope : Scope} {f c' : Addr} {h₁ : Heap} {tk : Nat} (I : Inv X pins σ H s) (L : LamS X.env.scope scope) (e0 : Env0 X.prog X.w X.K X.mg X.base A outer s1 HZ) (hd : A.handled = none)
    (un : Un (frs X.stack) [] H HZ s.heap s1.heap) (hns : h₁.Ns s1.heap.objs.size fun y => ([] : List (Str × Value)).reverse.lookup y) (kp : ∀ b o, s1.heap.get? b = some o → h₁.get? b = some o) :
    Inv (lamCx X A outer s1 HZ E scope f c') [] σ HZ { s1 with heap := h₁, toks := tk } := by
  have J := LamX.lam_start2 (E := E) (f := f) (c' := c') (tk := tk) I L e0 hd un hns kp
  exact ⟨⟨J.ok.mod, J.ok.kind, J.ok.glob, J.ok.blt, J.ok.above, J.ok.inj, J.ok.has, J.ok.cab, J.ok.hd, J.ok.frames, J.ok.stk, J.ok.exf, J.ok.bs, J.ok.bsz, J.ok.noex, J.ok.exfs, J.ok.funs, J.ok.frf⟩, J.os, J.bare, J.base, J.loc, J.cell, J.free, J.freeC, J.pin, J.hok, J.len⟩
/-- a lambda that was made in X at s -/
structure LamAt (X : Cx) (pins : List (Addr × Obj)) (σ : L2.St) (H : Hp) (s : Shared) (body : Expr) (scope : Scope) (f c' : Addr) (pm ctv : Value) : Prop where
  I : Inv X pins σ H s
  L : LamS X.env.scope scope
  hf : s.heap.get? f = some (PySem.W.kla_obj "<lambda>" (X.env.qual ++ "<lambda>") ⟨[], [], none, [], [], none, []⟩ body scope (cloFrom X.env.cells scope.names []) pm c' ctv)
  hfn : H f = none
  hfr : f ∉ frs X.stack
/-- x(), in a def Y that got the lambda -/
theorem pe_act2 {body : Expr} {scope : Scope} {f c' : Addr} {pm ctv : Value} {A' : Around} {N' : List Str} {s0' : Shared} {H0' : Hp} {env' : Env} {outer' stack' : List Env} {ex' : List Addr} {fn' : Str → Bool} {calm' : Bool} {pn' : List (Addr × Obj)} {xe' : Value → Shared → Prop} {k i : Nat} {a : Str} {W : WX} {tb : XK → TE} {p1 p2 : Pos}
    (La : LamAt X pins σ H s body scope f c' pm ctv)
    (hun : ∀ pY sY σY HY, Inv ⟨X.prog, X.w, X.K, X.mg, X.base, A', N', s0', H0', env', outer', stack', ex', fn', calm', pn', xe'⟩ pY σY HY sY → Un (frs X.stack) [] H HY s.heap sY.heap)
    (tk : L2N.Takes ⟨X.prog, X.w, X.K, X.mg, X.base, A', N', s0', H0', env', outer', stack', ex', fn', calm', pn', xe'⟩ W) (hr : Room (k + 1) A')
    (hbody : ∀ (A : Around) (outer : List Env) (s : Shared) (H : Hp) (E : XK), Room k (A.deeper (lamEnv X scope s.heap.objs.size f c')) → PE (lamCx X A outer s H E scope f c') body (tb E))
    (hN : N'[i]? = some a) (hv : Vis env'.scope a) (hd : (a == ("__debug__" : Str)) = false := by decide) (hcd : (a == ("__classdict__" : Str)) = false := by decide) :
    PE ⟨X.prog, X.w, X.K, X.mg, X.base, A', N', s0', H0', env', outer', stack', ex', fn', calm', pn', xe'⟩ (.Call (.Name a p1) [] [] p2)
      (fun σZ HZ Q => σZ[i]? = some (some (.ref f)) ∧ HZ c' = some (CodeO c' (X.env.qual ++ "<lambda>")) ∧ tb (WE W σZ) σ HZ Q) := by
  refine ⟨fun pinsZ sZ σZ HZ Q IZ h => ?_⟩
  obtain ⟨hs, hc, ht⟩ := h
  have L := La.L
  refine wpAny_Call_Name_kw (thn ((pe_var (X := ⟨X.prog, X.w, X.K, X.mg, X.base, A', N', s0', H0', env', outer', stack', ex', fn', calm', pn', xe'⟩) (pos := p1) (i := i) hN hv hd hcd).run pinsZ sZ σZ HZ (fun v H1 => v = .ref f ∧ H1 = HZ) IZ ⟨.ref f, hs, rfl, rfl⟩) fun u s1 ⟨v, H1, I1, r1, q1⟩ => ?_)
  obtain ⟨ev, eH⟩ := q1
  subst ev
  rw [eH] at I1
  obtain rfl : u = Value.ref f := r1
  have un : Un (frs X.stack) [] H HZ s.heap s1.heap := hun _ _ _ _ I1
  have of1 : s1.heap.get? f = some (PySem.W.kla_obj "<lambda>" (X.env.qual ++ "<lambda>") ⟨[], [], none, [], [], none, []⟩ body scope (cloFrom X.env.cells scope.names []) pm c' ctv) := un.keep f _ La.hf La.hfn La.hfr (fun z => nomatch (show f ∈ ([] : List Addr) from z))
  refine PySem.W.callWith_F0 ⟨_, _, _, _, of1⟩ ?_
  obtain ⟨⟨oc, vs, t, hoc, hdc, hvc⟩, _, _⟩ := I1.hok c' _ hc
  have rc : codeAny (model X.prog X.w) A' (.call (.ref f) ⟨[], []⟩) (CR (L2N.CX X.prog X.w) stack' X.prog X.w HZ s1 Q (WE W σZ)) s1 := by
    refine PySem.W.kla_callFunE hr.depth of1 rfl L.co L.gen rfl ⟨c', oc, vs, t, rfl, hoc, hdc, hvc⟩ ?_
    have hbind : bindArgs (PySem.W.kla_fn "<lambda>" (X.env.qual ++ "<lambda>") ⟨[], [], none, [], [], none, []⟩ body scope (cloFrom X.env.cells scope.names []) pm (.ref c') ctv) ⟨[], []⟩ = pure [] := by first | rfl | with_unfolding_all rfl
    rw [hbind]
    refine wpAny_pure (wpAny_newFunctionEnv (fun y hy => (L.own y hy).2) (fun y hy => absurd hy (by simp)) (fun h₁ hns hsb => ⟨I1.nolimit.fresh _ hsb, ?_⟩) L.kind)
    show codeAny _ _ (.expr body (lamEnv X scope s1.heap.objs.size f c')) _ _
    have kp : ∀ b o, s1.heap.get? b = some o → h₁.get? b = some o := fun b o e => hsb.extBut b o (Nat.ne_of_lt (Heap.lt_size e)) (Heap.get?_push_of_some _ e)
    have J : Inv (lamCx X A' stack' s1 HZ (WE W σZ) scope f c') [] σ HZ { s1 with heap := h₁, toks := s1.toks + ([] : List (Str × Value)).length } :=
      lam_start La.I L I1.env0 hr.hd un hns kp
    refine PySem.W.kla_codeExpr (wpAny_mono ((hbody A' stack' s1 HZ (WE W σZ) (hr.deeper _)).run [] _ _ HZ Q J ht) (fun v s' hq => ?_) fun e s' hq => hq)
    obtain ⟨w', H', J', rv, q⟩ := hq
    exact ⟨w', H', J'.os, J'.bare, J'.base, J'.hok, rv, q⟩
  refine wpAny_call (codeAny_mono rc fun r s' hq => ?_)
  cases r with
  | error e => exact L2N.passAt tk σZ pinsZ HZ s1 e s' I1 hq
  | ok fl =>
    cases fl with
    | ret u => exact I1.after hq
    | next => exact False.elim hq
    | brk => exact False.elim hq
    | cont => exact False.elim hq
end
/-- a further stretch, among other frames: those that stood at the start are the old ones -/
theorem un_chain {fs fs' : List Addr} {H H2 H3 : Hp} {h h2 h3 : Heap} (a : Un fs [] H H2 h h2) (b : Un fs' [] H2 H3 h2 h3) (sub : ∀ x o, h.get? x = some o → x ∈ fs' → x ∈ fs) : Un fs [] H H3 h h3 where
  keep := fun x o q n hc hx => b.keep x o (a.keep x o q n hc hx) (a.free x o q n hx) (fun m => hc (sub x o q m)) hx
  slot := fun x o q n hc hx => by
    obtain ⟨sl, e1⟩ := a.slot x o q n hc hx
    obtain ⟨sl', e2⟩ := b.any e1 (a.free x o q n hx) hx
    exact ⟨sl', e2⟩
  free := fun x o q n hx => by
    obtain ⟨o', e1⟩ := a.there x o q hx
    exact b.free x o' e1 (a.free x o q n hx) hx
  there := fun x o q hx => by
    obtain ⟨o', e1⟩ := a.there x o q hx
    exact b.there x o' e1 hx
  tups := fun x xs q => b.tups x xs (a.tups x xs q)
  frzs := fun x o xs q => b.frzs x o xs (a.frzs x o xs q)
  tbls := fun x ps q => by
    obtain ⟨m1, e1⟩ := a.tbls x ps q
    obtain ⟨m2, e2⟩ := b.tbls x _ e1
    exact ⟨m1 ++ m2, by rw [e2, Array.append_assoc]⟩
end M
end
/-! ## ML2 -/
section
set_option linter.all false
set_option maxRecDepth 100000
set_option maxHeartbeats 4000000
/-! Layer M: _law_heard, called with a lambda. -/
namespace M
open PySem PySem.Spec PyProof.Rows L2
open LamX (lamEnv LamS CodeO TabB Tabs ExtN run_ofS)
open L2H (RoomH)
theorem xo_fn {mu : Bool} {CX : CXT} {P : Program} {w : World} {K : PySem.W.Frag} {mg : Str → Option Value} {base : Heap} {N ps : List Str} {qual : Str} {sc : Scope} {f : Addr} {cdv : Value} {A : Around} {outer : List Env} {s : Shared} {H : Hp} {E : XK} (S : FnScope N ps sc) : XOk ⟨N, sc.names, mu, false⟩ (cxOf CX P w K mg base N qual sc f cdv A outer s H E) where
  N := rfl
  nd := S.nd
  gl := fun x h => h
  loc := fun x h => ⟨h, .inl rfl⟩
  free := fun x h => .inr (.inr h)
  cf := fun x h => h
  calm := rfl
  stk := fun _ => ⟨rfl, rfl⟩
theorem tkN_false {X : Cx} : L2N.Takes X (fun _ _ _ _ => False) := fun _ _ x => by
  obtain ⟨_, _, _, _, _, _, _, _, _, _, _, _, _, _, _, _, z⟩ := x
  exact z.elim
section
variable {X : Cx} {pins : List (Addr × Obj)} {σ : L2.St} {H : Hp} {s : Shared} {t : Tab} {T : List (Addr × Str)}
/-- the suite's reading, whatever class -/
def tSuite (t : Tab) (K : PySem.W.Frag) (T : List (Addr × Str)) : Addr → Value → Option Addr → TS := fun a cls d De σ H =>
  ∃ (D dd : Addr) (nm : Str) (Z : List Addr) (L : M.Loc) (A : AH) (ρ : List Addr) (v : V) (fs : List (Str × V)), cls = .ref D ∧ d = some dd ∧ t.xn.lookup D = some nm ∧ dd ∈ Z ∧ LR K Z ρ H L σ ∧ L[1]? = some (some (.con a)) ∧ L.length = 3 ∧ Rel K Z ρ H T A ∧ H dd = some (.xd fs) ∧ fs.lookup ("what" : Str) = some v ∧
    ∀ ρ' H' p, Fut ρ H ρ' H' → Rel K Z ρ' H' T A → H' p = none → De.rt (.ref p) (upd H' p (.tup [.str nm, v]))
theorem heard_run {body : Expr} {scope : Scope} {f c' : Addr} {pm ctv : Value} (La : LamAt X pins σ H s body scope f c' pm ctv) {m : ME} {k : Nat} (HT : HeardTxt t X.K X.mg) (so : SOk t.S X.K X.w)
    (hbody : ∀ (Z : List Addr) (A : Around) (outer : List Env) (s : Shared) (H : Hp) (E : XK), Room (k + 1) (A.deeper (lamEnv X scope s.heap.objs.size f c')) → PE (lamCx X A outer s H E scope f c') body (eM X.K T Z E m))
    {A : Around} {outer : List Env} {s2 : Shared} {H2 : Hp} (hr : Room (k + 3) A) (e0 : Env0 X.prog X.w X.K X.mg X.base A outer s2 H2) (un2 : Un (frs X.stack) [] H H2 s.heap s2.heap) (sub : ∀ b o, s.heap.get? b = some o → b ∈ frs outer → b ∈ frs X.stack)
    (hc : H2 c' = some (CodeO c' (X.env.qual ++ "<lambda>"))) {Z ρ : List Addr} {L : M.Loc} {A2 : AH} {Q : VK} (lr : LR X.K Z ρ H2 L σ) (R : Rel X.K Z ρ H2 T A2) (h : RG X.K T Z ρ H2 (PQ X.K Z Q) (fun _ _ _ _ => False) (heardR t (m L A2)))
    {gH : Addr} (hg : X.mg "_law_heard" = some (.ref gH)) :
    codeAny (model X.prog X.w) A (.call (.ref gH) ⟨[.ref f], []⟩) (CR (L2N.CX X.prog X.w) outer X.prog X.w H2 s2 Q (fun _ _ _ => False)) s2 := by
  obtain ⟨gH', gK, Rc, pg, pgK, sg, sgK, es, p1, p2, q, j, DH, CT, hline, hR, hnR, hnr, hnd, hnc, hblk, hxn⟩ := HT.ex
  have eg : gH' = gH := Value.ref.inj (Option.some.inj (DH.g.symm.trans hg))
  subst eg
  obtain ⟨oc, od, dV, kV, doc, pm', cdv, ct, an, osl, lk, hcd, hb⟩ := DH.lk
  have b := hb s2 [.ref f] (e0.mod.kin.keeps fun b o e => (e0.bs b o e).1) rfl
  rw [List.append_nil] at b
  refine run_ofS (k := k + 2) (us := [.ref f]) (vs := [.ref f]) lk hcd DH.sc hr e0 b (.cons rfl .nil) rfl fun hr' => ?_
  have hW : L2N.Takes (cxOf (L2N.CX X.prog X.w) X.prog X.w X.K X.mg X.base ["deed", "refused_one", "line"] "_law_heard" sg gH' cdv A outer s2 H2 (fun _ _ _ => False)) (fun _ _ _ _ => False) := tkN_false
  refine ⟨_, pss_one (L2N.ps_try_as (X := cxOf (L2N.CX X.prog X.w) X.prog X.w X.K X.mg X.base ["deed", "refused_one", "line"] "_law_heard" sg gH' cdv A outer s2 H2 (fun _ _ _ => False)) (i := 1) (c := .ref Rc)
    (tb := fun W => tRet (tTup (tCons (tC (.str "told")) (tCons (fun σZ HZ Q => σZ[0]? = some (some (.ref f)) ∧ HZ c' = some (CodeO c' (X.env.qual ++ "<lambda>")) ∧ eM X.K T Z (WE W σZ) m σ HZ Q) tNil))))
    (ts := tSuite t X.K T) rfl rfl DH.sc.nd rfl hnr ⟨hnR, by decide +kernel, .inl hR⟩ hW (fun W pn xe tk po => ?_) fun a oe cls d pn hz hf => ?_), ?_⟩
  · refine pss_one (ps_ret (pe_tup (pa_cons pe_str (pa_cons ?_ pa_nil))))
    exact pe_act2 (k := k + 1) (tb := fun E => eM X.K T Z E m) La (fun pY sY σY HY IY => un_chain un2 IY.base sub) tk hr' (fun A outer s H E hr => hbody Z A outer s H E hr) rfl (.inl hnd) (by decide +kernel) (by decide +kernel)
  · refine ⟨fun pins s σ H De I h => ?_⟩
    obtain ⟨D, dd, nm, Z, L, A0, ρ, v, fs, rfl, rfl, hnm, hdd, lr, hL, h3, R, hd, hv, q⟩ := h
    have ex := hxn D nm hnm
    obtain ⟨rs, ans, w1, w2, w3, w4⟩ := ex.rows
    have xo : XOk0 ⟨["deed", "refused_one", "line"], sg.names, false, false⟩ (cxOf (L2N.CX X.prog X.w) X.prog X.w X.K X.mg X.base ["deed", "refused_one", "line"] "_law_heard" sg gH' cdv A outer s2 H2 (fun _ _ _ => False)) := (xo_fn DH.sc).toXOk0
    have B : SuiteB (cxOf (L2N.CX X.prog X.w) X.prog X.w X.K X.mg X.base ["deed", "refused_one", "line"] "_law_heard" sg gH' cdv A outer s2 H2 (fun _ _ _ => False)) sg.names a D dd oe pn t.S gK pgK es sgK p1 p2 rs k :=
      { xo := xo
        ro := by
          unfold slot
          rw [if_pos (by decide +kernel)]
          show (match sg.names.lookup ("refused_one" : Str) with | some .local => _ | some .cell => _ | some .free => _ | _ => _) = _
          rw [hnr]
          exact (by decide +kernel : List.findIdx? (fun y => decide (y = ("refused_one" : Str))) [("deed" : Str), "refused_one", "line"] = some 1)
        gcl := by
          unfold isGl
          show (match sg.names.lookup ("_law_classes" : Str) with | some .globalImplicit => _ | _ => _) = _
          rw [hnc]
        hb := hblk
        ow := rfl
        so := so
        cls := CT
        exc := ex.exc
        zn := hz
        fs := hf
        room := by
          have := hr'.mono (j := k + 1) (by omega)
          exact ⟨this.dp, this.un⟩
        ans := ⟨ans, w3, w4 a⟩
        few := w1 }
    exact (ps_suite (T := T) (Z := Z) B hdd ex.xf ex.nw w2 ex.short hline).run pins s σ H De I ⟨L, A0, ρ, v, fs, lr, hL, h3, R, hd, hv, q⟩
  · refine ⟨rfl, hc, ⟨L, A2, ρ, lr, R, ?_⟩⟩
    cases r : m L A2 with
    | stuck => rw [r] at h; exact absurd h id
    | ok d A3 =>
      rw [r] at h
      intro ρ1 H1 f1 R1 y hy
      refine ⟨(by decide : (2 : Nat) ≤ sizeLine), fun p hp => ?_⟩
      refine h ρ1 _ (f1.trans (Fut.new1 hp)) (R1.new1 hp) (.ref p) ?_
      simp only [VR]
      exact ⟨p, _, rfl, .inl (.inl upd_same), VRs.cons (by simp only [VR]) (VRs.cons (VR.fut R1 (Fut.new1 hp) _ hy) VRs.nil)⟩
    | exc e A3 =>
      rw [r] at h
      intro ρ1 H1 f1 R1 v dd hv hdd
      simp only [heardR] at h
      split at h
      · rename_i nm hnm
        have ex := hxn e.cls nm hnm
        refine ⟨true, ex.isR, fun _ a ha => ?_, fun z => Bool.noConfusion z⟩
        have n1 : ∀ xs, H1 dd ≠ some (.lst xs) := fun xs z => by rw [hdd] at z; cases z
        have n2 : ∀ ks, H1 dd ≠ some (.dK ks) := fun xs z => by rw [hdd] at z; cases z
        refine ⟨e.cls, dd, nm, dd :: Z, [none, some (.con a), none], A3, ρ1, v, xfs v e.word, rfl, rfl, hnm, List.mem_cons_self, ?_, rfl, rfl, R1.zput n1 n2 (by rw [hdd]; exact fun z => by cases z), hdd, ?_, fun ρ' H' p f' R' hp => ?_⟩
        · show LR _ _ _ _ [none, some (.con a), none] [some (.ref f), some (.ref a), none]
          simp only [LR, VR]
          exact ⟨_, _, rfl, _, _, rfl, rfl, _, _, rfl, rfl⟩
        · unfold xfs
          simp [List.lookup]
          rfl
        · have R0 : Rel X.K Z ρ' H' T A3 := R'.zless fun a m => List.mem_cons_of_mem _ m
          refine h ρ' _ ((f1.trans f').trans (Fut.new1 hp)) (R0.new1 hp) (.ref p) ?_
          simp only [VR]
          exact ⟨p, _, rfl, .inl (.inl upd_same), VRs.cons (by simp only [VR]) (VRs.cons (VR.fut R1 (f'.trans (Fut.new1 hp)) _ hv) VRs.nil)⟩
      · exact absurd h id
end
end M
end
/-! ## ML3 -/
section
set_option linter.all false
set_option maxRecDepth 100000
set_option maxHeartbeats 4000000
/-! Layer M: calls with a lambda. -/
namespace M
open PySem PySem.Spec PyProof.Rows L2
open LamX (lamEnv LamS CodeO TabB Tabs ExtN TabS run_ofS inv_table among_app codeO_ne)
section
variable {X : Cx} {pins : List (Addr × Obj)} {σ : L2.St} {H : Hp} {s : Shared}
/-- the making of a lambda; the tables grow alone -/
theorem lam_make3 {T : List (Addr × Str)} {c P : Addr} {params : Arguments} {body : Expr} {scope : Scope} {pos : Pos} {E : Value → Shared → Prop} {Q : Value → Shared → Prop} (I : Inv X pins σ H s) (TB : TabB X.base X.mg c P) (hcode : X.env.code = .ref c)
    (hm : (P, X.env.qual ++ "<lambda>") ∈ T) (hu : ∀ p ∈ T, p.1 = P → p.2 = X.env.qual ++ "<lambda>") (hT : Tabs T H) (hdef : defaultsOf params X.env = ([], [])) (hfree : ∀ y ∈ scope.names, y.2 = .free → ∃ c, X.env.cells.lookup y.1 = some c)
    (h : ∀ (f c' : Addr) (pm ctv : Value) (H1 : Hp) (s' : Shared), Inv X pins σ H1 s' → ExtN H H1 → (∀ a ps, H a = some (.tbl ps) → ∃ more, H1 a = some (.tbl (ps ++ more))) → Tabs T H1 →
      s'.heap.get? f = some (PySem.W.kla_obj "<lambda>" (X.env.qual ++ "<lambda>") params body scope (cloFrom X.env.cells scope.names []) pm c' ctv) → H1 f = none → f ∉ frs X.stack → H1 c' = some (CodeO c' (X.env.qual ++ "<lambda>")) → Q (.ref f) s') :
    wpAny (model X.prog X.w) X.A (eval (.Lambda params body scope pos) X.env) Q E s := by
  obtain ⟨ps, hP, ht, ha⟩ := hT _ hm
  refine PySem.W.kla_eval hdef ?_
  have bP : s.heap.BuiltinsAt X.mg P := TB.bm.keeps I.bk
  have hP' : s.heap.get? P = some { cls := .none, data := .fields ps } := I.hok P _ hP
  have nofr : ∀ f, s.heap.objs.size ≤ f → f ∉ frs X.stack := fun f hf z => by
    rcases List.mem_cons.mp (I.stkSub _ z) with e | e
    · have h1 := I.lt
      rw [← e] at h1
      exact Nat.lt_irrefl _ (Nat.lt_of_lt_of_le h1 hf)
    · exact I.nofs hf e
  cases hc : codeAmong pos ps.toList with
  | none =>
    refine PySem.W.kla_makeFunction (mg := X.mg) (c := c) (P := P) (ps := ps) (closure_ok hfree) I.ok.glob (I.mod.glob.keeps I.bk) hcode (TB.code.keeps I.bk) hP' ht hc TB.gP bP fun c' ctv h' tk hx hge hlt hrec htb => ?_
    obtain ⟨c2, oc, vs, t, e2, hoc, hd, hv⟩ := hrec
    cases e2
    have hsz : s.heap.objs.size ≤ h'.objs.size := Nat.le_trans hge (Nat.le_of_lt hlt)
    have nC : H c' = none := I.hok.fresh hge
    have I1 := inv_table (t' := tk) (more := #[rawInt pos.line, rawInt pos.col, .ref c']) (h' := h'.push (PySem.W.kla_obj "<lambda>" (X.env.qual ++ "<lambda>") params body scope (cloFrom X.env.cells scope.names []) ((X.mg "__name__").getD .none) c' ctv)) I hP
      (fun b o hb e => Heap.get?_push_of_some _ (hx b o hb e)) (Heap.get?_push_of_some _ htb) hge ⟨oc, vs, t, Heap.get?_push_of_some _ hoc, hd, hv⟩
    have hE : ExtN H (upd (upd H P (.tbl (ps ++ #[rawInt pos.line, rawInt pos.col, .ref c']))) c' (CodeO c' (X.env.qual ++ "<lambda>"))) := fun b o e n => by
      rw [upd_ne (ne_of_none e nC), upd_ne (fun z => n ps (Option.some.inj (e.symm.trans (by rw [z]; exact hP))))]
      exact e
    have eL : (ps ++ #[rawInt pos.line, rawInt pos.col, .ref c']).toList = ps.toList ++ [rawInt pos.line, rawInt pos.col, .ref c'] := by simp
    refine h h'.objs.size c' ((X.mg "__name__").getD .none) ctv _ _ I1 hE (fun a qs e => ?_) (fun p hp => ?_) (Heap.get?_push_size _ rfl) ?_ (nofr _ hsz) upd_same
    · rw [upd_ne (ne_of_none e nC)]
      by_cases hb : a = P
      · rw [hb] at e ⊢
        rw [hP] at e
        cases e
        exact ⟨_, upd_same⟩
      · exact ⟨#[], by rw [upd_ne hb, e]; simp⟩
    · by_cases hb : p.1 = P
      · rw [hu p hp hb, hb]
        refine ⟨_, by rw [upd_ne (ne_of_none hP nC), upd_same], by rw [eL]; exact PySem.TriplesOk_snoc _ _ _ _ ht, fun p' cv hcv => ?_⟩
        rw [eL] at hcv
        rcases among_app _ ht hcv with z | z
        · obtain ⟨c0, e1, e2⟩ := ha p' cv z
          exact ⟨c0, e1, hE _ _ e2 codeO_ne⟩
        · exact ⟨c', z, upd_same⟩
      · obtain ⟨ps', a1, a2, a3⟩ := hT p hp
        refine ⟨ps', by rw [upd_ne (ne_of_none a1 nC), upd_ne hb]; exact a1, a2, fun p' cv hcv => ?_⟩
        obtain ⟨c0, e1, e2⟩ := a3 p' cv hcv
        exact ⟨c0, e1, hE _ _ e2 codeO_ne⟩
    · have n1 : h'.objs.size ≠ c' := Nat.ne_of_gt hlt
      have n2 : h'.objs.size ≠ P := Nat.ne_of_gt (Nat.lt_of_lt_of_le (Heap.lt_size hP') hsz)
      rw [upd_ne n1, upd_ne n2]
      exact I.hok.fresh hsz
  | some cv =>
    obtain ⟨c', e, hco⟩ := ha pos cv hc
    subst e
    refine PySem.W.kla_makeFunctionHit (mg := X.mg) (c := c) (P := P) (ps := ps) (closure_ok hfree) I.ok.glob (I.mod.glob.keeps I.bk) hcode (TB.code.keeps I.bk) hP' ht hc bP fun ctv h' tk hx hsz => ?_
    have I1 : Inv X pins σ H { s with heap := h'.push (PySem.W.kla_obj "<lambda>" (X.env.qual ++ "<lambda>") params body scope (cloFrom X.env.cells scope.names []) ((X.mg "__name__").getD .none) c' ctv), toks := tk } := I.kept fun b o e => Heap.get?_push_of_some _ (hx b o e)
    exact h h'.objs.size c' ((X.mg "__name__").getD .none) ctv H _ I1 (ExtN.refl H) (fun a ps e => ⟨#[], by rw [e]; simp⟩) hT (Heap.get?_push_size _ rfl) (I.hok.fresh hsz) (nofr _ hsz) hco
end
section
variable {K : PySem.W.Frag} {T : List (Addr × Str)} {Z ρ : List Addr} {H H1 : Hp} {A : AH} {L : M.Loc} {σ : L2.St}
theorem fut_ext (eN : ExtN H H1) (et : ∀ a ps, H a = some (.tbl ps) → ∃ more, H1 a = some (.tbl (ps ++ more))) : Fut ρ H ρ H1 :=
  ⟨List.prefix_refl _, fun a m n => absurd m n, fun a o e _ t => eN a o e t, fun a ps e _ => et a ps e⟩
theorem rel_ext (R : Rel K Z ρ H T A) (eN : ExtN H H1) (et : ∀ a ps, H a = some (.tbl ps) → ∃ more, H1 a = some (.tbl (ps ++ more))) (tT : Tabs T H1) : Rel K Z ρ H1 T A := by
  have f : Fut ρ H ρ H1 := fut_ext eN et
  refine ⟨R.len, R.nd, fun i o a e1 e2 => ?_, tT, fun z m => ?_⟩
  · have q := R.obj i o a e1 e2
    cases o with
    | lst ds =>
      obtain ⟨vs, h1, h2⟩ := q
      exact ⟨vs, eN _ _ h1 (fun _ z => by cases z), VRs.fut R f ds h2⟩
    | ins C fs =>
      obtain ⟨dx, gs, h1, h2⟩ := q
      exact ⟨dx, gs, eN _ _ h1 (fun _ z => by cases z), FR.fut R f fs h2⟩
  · cases e : H z with
    | none => exact absurd e (R.hid z m)
    | some o =>
      by_cases ht : ∃ ps, o = .tbl ps
      · obtain ⟨ps, rfl⟩ := ht
        obtain ⟨more, q⟩ := et z ps e
        rw [q]; exact fun z => by cases z
      · rw [eN z o e fun ps q => ht ⟨ps, q⟩]; exact fun z => by cases z
theorem heardR_rg {t : Tab} {P : M.D → AH → List Addr → Hp → Prop} {E E' : Exn → AH → List Addr → Hp → Prop} {r : Res M.D} (h : RG K T Z ρ H P E (heardR t r)) : RG K T Z ρ H P E' (heardR t r) := by
  cases r with
  | ok d A => exact h
  | stuck => exact h
  | exc e A =>
    simp only [heardR] at h ⊢
    split at h
    · rename_i nm hnm
      exact h
    · exact h
end
theorem lamS_of {X : Cx} {g : Ga} {lsc : Scope} (xo : XOk0 g X) (h : LamX.lamSB ⟨.function, g.nk, false, false, []⟩ lsc = true) : LamS X.env.scope lsc := by
  have L := LamX.lamS_by h
  exact ⟨L.kind, L.co, L.gen, L.own, fun y hy e => xo.cf y.1 (L.free y hy e)⟩
theorem xo_lam {X : Cx} {g : Ga} {lsc : Scope} (xo : XOk0 g X) (L : LamS X.env.scope lsc) {A : Around} {outer : List Env} {s : Shared} {H : Hp} {E : XK} {f c' : Addr} : XOk ⟨g.N, lsc.names, false, false⟩ (lamCx X A outer s H E lsc f c') where
  N := xo.N
  nd := xo.nd
  gl := fun x h => h
  loc := fun x h => by
    rcases h with h | h
    · exact absurd rfl (L.own _ (PySem.mem_of_lookup h)).1
    · exact absurd rfl (L.own _ (PySem.mem_of_lookup h)).2
  free := fun x h => .inr (.inr h)
  cf := fun x h => by
    rcases h with h | h
    · exact absurd rfl (L.own _ (PySem.mem_of_lookup h)).2
    · exact .inr h
  calm := rfl
  stk := fun _ => ⟨rfl, rfl⟩
end M
end
/-! ## ML4 -/
section
set_option linter.all false
set_option maxRecDepth 100000
set_option maxHeartbeats 4000000
/-! Layer M: calls with a lambda, of the three defs. -/
namespace M
open PySem PySem.Spec PyProof.Rows L2
open LamX (lamEnv LamS CodeO TabB Tabs ExtN TabS run_ofS inv_table among_app codeO_ne)
def sameBody (q : Nat → Pos) (tu : Expr) : List Stmt := [.Return (some (.Call (.Name "_law_same" (q 0)) [.Call (.Name "_law_heard" (q 1)) [.Name "deed" (q 2)] [] (q 3), tu] [] (q 7))) (q 8)]
section
variable {X : Cx} {pins : List (Addr × Obj)} {σ : L2.St} {H : Hp} {s : Shared} {t : Tab} {T : List (Addr × Str)} {Φ : Fns} {k : Nat}
/-- _law_heard(deed) in a def that got the lambda -/
theorem pe_heard {body : Expr} {scope : Scope} {f c' : Addr} {pm ctv : Value} (La : LamAt X pins σ H s body scope f c' pm ctv) {m : ME} (HT : HeardTxt t X.K X.mg) (so : SOk t.S X.K X.w)
    (hbody : ∀ (Z : List Addr) (A : Around) (outer : List Env) (s : Shared) (H : Hp) (E : XK), Room (k + 1) (A.deeper (lamEnv X scope s.heap.objs.size f c')) → PE (lamCx X A outer s H E scope f c') body (eM X.K T Z E m))
    {N : List Str} {x : Str} {sg : Scope} {gT : Addr} {cdv : Value} {E : XK} {q1 q2 q3 : Pos} {Z : List Addr} (hN : N[0]? = some ("deed" : Str)) (hv : sg.names.lookup ("deed" : Str) = some .local) (hgh : sg.names.lookup ("_law_heard" : Str) = some .globalImplicit)
    (hr : Room (k + 3) (X.A.deeper (envOfC x sg s.heap.objs.size gT cdv))) :
    PE (cxOf (L2N.CX X.prog X.w) X.prog X.w X.K X.mg X.base N x sg gT cdv X.A X.stack s H E) (.Call (.Name "_law_heard" q1) [.Name "deed" q2] [] q3)
      (fun σT HT Q => σT[0]? = some (some (.ref f)) ∧ HT c' = some (CodeO c' (X.env.qual ++ "<lambda>")) ∧ ∃ L A ρ, LR X.K Z ρ HT L σ ∧ Rel X.K Z ρ HT T A ∧ RG X.K T Z ρ HT (PQ X.K Z Q) (fun _ _ _ _ => False) (heardR t (m L A))) := by
  refine ⟨fun pinsT sT σT HTt Q I h => ?_⟩
  obtain ⟨h1, h2, L, A, ρ, lr, R, h3⟩ := h
  obtain ⟨gH, gK, Rc, pg, pgK, sgH, sgK, es, p1, p2, q, j, DH, _⟩ := HT.ex
  refine wpAny_Call_Name_kw (ld_glob I hgh DH.g ?_ (by decide +kernel))
  refine PySem.W.callWith_K (h₀ := X.base) I.ok.mod.kin DH.kp ?_ rfl rfl
  have ha := (pa_cons (pe_var (X := cxOf (L2N.CX X.prog X.w) X.prog X.w X.K X.mg X.base N x sg gT cdv X.A X.stack s H E) (pos := q2) hN (.inl hv) (by decide +kernel) (by decide +kernel)) pa_nil).run q3 pinsT sT σT HTt (fun vs H1 => vs = [.ref f] ∧ H1 = HTt) I ⟨.ref f, h1, rfl, rfl⟩
  refine thn ha fun us s1 ⟨vs, H1, I1, r1, ev, eH⟩ => ?_
  subst ev
  subst eH
  obtain rfl : us = [.ref f] := by
    cases r1 with
    | cons ra rb =>
      cases rb
      cases ra
      rfl
  refine ⟨I1.kIn, ?_⟩
  show wpAny _ _ (call (.ref gH) [.ref f]) _ _ _
  have rc := heard_run (k := k) La HT so hbody hr I1.env0 I1.base (fun b o e hb => by
    rcases List.mem_cons.mp (show b ∈ s.heap.objs.size :: frs X.stack from hb) with z | z
    · exact absurd (Heap.lt_size e) (by rw [z]; exact Nat.lt_irrefl _)
    · exact z) h2 lr R h3 DH.g
  refine wpAny_call (codeAny_mono rc fun r s' hq => ?_)
  cases r with
  | error e =>
    obtain ⟨_, _, _, _, _, _, _, _, _, _, _, _, z⟩ := hq
    exact z.elim
  | ok fl =>
    cases fl with
    | ret u => exact I1.after hq
    | next => exact False.elim hq
    | brk => exact False.elim hq
    | cont => exact False.elim hq
/-- a def whose body is _law_same(_law_heard(deed), tu) -/
theorem same_run {body : Expr} {scope : Scope} {f c' : Addr} {pm ctv : Value} (La : LamAt X pins σ H s body scope f c' pm ctv) {m : ME} (to : TOkX t Φ k T X) (HT : HeardTxt t X.K X.mg)
    (hbody : ∀ (Z : List Addr) (A : Around) (outer : List Env) (s : Shared) (H : Hp) (E : XK), Room (k + 1) (A.deeper (lamEnv X scope s.heap.objs.size f c')) → PE (lamCx X A outer s H E scope f c') body (eM X.K T Z E m))
    {N : List Str} {x : Str} {sg : Scope} {gT : Addr} {pg : Arguments} {q : Nat → Pos} {tu : Expr} {tt : TE} {us : List Value} {vs : List V} (DT : DefTxt X.K X.mg x N N gT pg (sameBody q tu) sg) (hsame : t.gs.lookup ("_law_same" : Str) = some (.fn 2 []))
    (hgs : sg.names.lookup ("_law_same" : Str) = some .globalImplicit) (hgh : sg.names.lookup ("_law_heard" : Str) = some .globalImplicit) (hv : sg.names.lookup ("deed" : Str) = some .local) (hN : N[0]? = some ("deed" : Str)) (hst : noStar tu = true)
    (htu : ∀ cdv E, PE (cxOf (L2N.CX X.prog X.w) X.prog X.w X.K X.mg X.base N x sg gT cdv X.A X.stack s H E) tu tt)
    (hr : Room (k + 4) X.A) (rv : Vals vs us) (hl : (V.ref f :: vs).length = N.length) (hc : H c' = some (CodeO c' (X.env.qual ++ "<lambda>")))
    {Z ρ : List Addr} {L : M.Loc} {A1 : AH} {Q : VK} {E : XK} {da db : M.D} {va vb : V} (lr : LR X.K Z ρ H L σ) (R : Rel X.K Z ρ H T A1) (hva : VR X.K Z ρ H da va) (hvb : VR X.K Z ρ H db vb)
    (htt : ∀ (H' : Hp) (Q' : VK), (∀ p, H' p = none → Q' (.ref p) (upd H' p (.tup [va, vb]))) → tt (L2.start N (V.ref f :: vs)) H' Q')
    (h : RG X.K T Z ρ H (PQ X.K Z Q) (EXK X.K Z E) ((heardR t (m L A1)).bind fun hd A2 => callF 2 (Φ "_law_same") [hd, .tup [da, db]] A2)) :
    codeAny (model X.prog X.w) X.A (.call (.ref gT) ⟨.ref f :: us, []⟩) (CR (L2N.CX X.prog X.w) X.stack X.prog X.w H s Q E) s := by
  obtain ⟨oc, od, dV, kV, doc, pm', cdv, ct, an, osl, lk, hcd, hb⟩ := DT.lk
  have hlu : (Value.ref f :: us).length = N.length := by
    rw [← hl, List.length_cons, List.length_cons, rv.length]
  have b := hb s (.ref f :: us) La.I.kIn (by rw [List.append_nil]; exact hlu)
  rw [List.append_nil] at b
  obtain ⟨fS, fdS, psS, m1, m2, m3, FS⟩ := to.fn _ _ _ hsame
  obtain ⟨us0, vs0, b1, b2, b3⟩ := m3.2 2 [] (by simp [padN])
  simp only [svs, Option.some.injEq] at b3
  subst b3
  cases b2
  refine run_ofS (k := k + 3) (us := .ref f :: us) (vs := .ref f :: vs) lk hcd DT.sc hr La.I.env0 b (.cons rfl rv) hl fun hr' => ?_
  have tk : L2N.Takes (cxOf (L2N.CX X.prog X.w) X.prog X.w X.K X.mg X.base N x sg gT cdv X.A X.stack s H E) (fun c d _ H => E c d H) := L2N.takes_of rfl rfl rfl rfl
  have hh := pe_heard (E := E) (q1 := q 1) (q2 := q 2) (q3 := q 3) (Z := Z) La HT to.S hbody hN hv hgh hr'
  refine ⟨_, pss_one (ps_ret (pe_callSD (CX := L2N.CX X.prog X.w) (E := fun _ => E) FS (hr'.mono (by omega)) hgs m1 m2 b1 .nil (fun σ => fun pins H s e s' I c => tk_pz tk pins σ H s e s' I c) (pa_cons hh (pa_cons (htu cdv E) pa_nil (star_one hst)) (by rfl)) (by decide +kernel) (by rfl) (star_none (es := [tu]) (by simp [hst])))), ?_⟩
  refine ⟨by show (L2.start N (V.ref f :: vs))[0]? = _; unfold L2.start; rfl, hc, L, A1, ρ, lr, R, heardR_rg (RG.bind h fun hd A2 ρ2 H2 f2 R2 h2 xv hx => ?_)⟩
  refine htt H2 _ fun p hp => ?_
  have f3 : Fut ρ2 H2 ρ2 (upd H2 p (.tup [va, vb])) := Fut.new1 hp
  refine sp_of (VRs.cons (VR.fut R2 f3 _ hx) (VRs.cons ?_ VRs.nil)) (R2.new1 hp) (RG.fut f3 h2)
  simp only [VR]
  exact ⟨p, _, rfl, .inl (.inl upd_same), VRs.cons (VR.fut R (f2.trans f3) _ hva) (VRs.cons (VR.fut R (f2.trans f3) _ hvb) VRs.nil)⟩
end
end M
end
/-! ## ML5 -/
section
set_option linter.all false
set_option maxRecDepth 100000
set_option maxHeartbeats 4000000
/-! Layer M: calls with a lambda hold. -/
namespace M
open PySem PySem.Spec PyProof.Rows L2
open LamX (lamEnv LamS CodeO TabB Tabs ExtN TabS run_ofS inv_table among_app codeO_ne)
section
variable {X : Cx} {t : Tab} {T : List (Addr × Str)} {Φ : Fns} {k : Nat} {E : XK} {g : Ga} {Z : List Addr}
/-- an argument behind a lambda: the lambda's object is held -/
theorem arg_pin {pins : List (Addr × Obj)} {σ : L2.St} {H : Hp} {s : Shared} {body : Expr} {scope : Scope} {f c' : Addr} {pm ctv : Value} (La : LamAt X pins σ H s body scope f c' pm ctv) {e : Expr} {te : TE} (he : PE X e te) {R : V → Hp → Prop} (h : te σ H R) :
    wpAny (model X.prog X.w) X.A (eval e X.env) (fun u s1 => ∃ v H1, LamAt X pins σ H1 s1 body scope f c' pm ctv ∧ RelV v u ∧ R v H1) X.xe s := by
  have nL : f ≠ X.env.locals := fun z => by
    obtain ⟨m, hn, _⟩ := La.I.loc
    obtain ⟨o, es, ep, ho, hd, _⟩ := hn
    have q := La.hf
    rw [z] at q
    have e : some o = some _ := (show s.heap.get? X.env.locals = some o from ho).symm.trans q
    cases e
    cases hd
  have nF : f ∉ X.fs := fun hm => La.hfr (by
    rcases La.I.ok.stk with e | ⟨e, _⟩
    · rw [e]; exact hm
    · rw [e]
      unfold frs
      rw [List.filterMap_cons]
      split
      · exact hm
      · exact List.mem_cons_of_mem _ hm)
  have I1 : Inv X ((f, PySem.W.kla_obj "<lambda>" (X.env.qual ++ "<lambda>") ⟨[], [], none, [], [], none, []⟩ body scope (cloFrom X.env.cells scope.names []) pm c' ctv) :: pins) σ H s := La.I.pins_of fun p hp => by
    rcases List.mem_cons.mp hp with e | e
    · subst e
      exact ⟨La.hf, La.hfn, nL, nF, fun v z => nomatch z⟩
    · exact La.I.pin p (List.mem_append_right _ e)
  refine thn (he.run _ s σ H _ I1 h) fun u s1 ⟨v, H1, I2, rv, q⟩ => ⟨v, H1, ⟨I2.pins_of fun p hp => I2.pin p (List.mem_append_right _ (List.mem_cons_of_mem _ hp)), La.L, ?_, ?_, La.hfr⟩, rv, q⟩
  · exact (I2.pin _ (List.mem_append_right _ List.mem_cons_self)).1
  · exact (I2.pin _ (List.mem_append_right _ List.mem_cons_self)).2.1
theorem pe_lam {x : Str} {kd : LK} {lsc : Scope} {body : Expr} {lp p pos : Pos} {es : List Expr} {f : Expr → ME} {m : ME} (xo : XOk g X) (to : TOkX t Φ k T X) (hr : Room (k + 7) X.A) (tk : Tk X E) (lm : LmOk t T X) (hla : t.la.isSome = true) (hsb : LamX.lamSB ⟨.function, g.nk, false, false, []⟩ lsc = true)
    (hx : t.lm.lookup x = some kd) (hg : Gl X x) (hd : plainName x = true) (hf : ∀ e, PE X e (eM X.K T Z E (f e)))
    (hm : ∀ (X' : Cx) (E' : XK) (Z' : List Addr), X'.prog = X.prog → X'.w = X.w → X'.K = X.K → X'.mg = X.mg → X'.base = X.base → XOk ⟨g.N, lsc.names, false, false⟩ X' → Room (k + 1) X'.A → Tk X' E' → PE X' body (eM X'.K T Z' E' m)) :
    PE X (.Call (.Name x p) (.Lambda ⟨[], [], none, [], [], none, []⟩ body lsc lp :: es) [] pos) (eM X.K T Z E (callL t Φ f m kd es)) := by
  obtain ⟨⟨c, P, q⟩, hlae⟩ := Option.isSome_iff_exists.mp hla
  obtain ⟨hcode, TB, hq, hmT, hu⟩ := lm c P q hlae
  subst hq
  have L : LamS X.env.scope lsc := lamS_of xo.toXOk0 hsb
  have LT := to.lam x kd hx
  have hbody : ∀ (f c' : Addr) (Z : List Addr) (A : Around) (outer : List Env) (s : Shared) (H : Hp) (E : XK), Room (k + 1) (A.deeper (lamEnv X lsc s.heap.objs.size f c')) → PE (lamCx X A outer s H E lsc f c') body (eM X.K T Z E m) := fun f c' Z A outer s H E hr' =>
    hm (lamCx X A outer s H E lsc f c') E Z rfl rfl rfl rfl rfl (xo_lam xo.toXOk0 L) hr' (L2N.takes_of rfl rfl rfl rfl)
  refine ⟨fun pins s σ H Q I h => ?_⟩
  obtain ⟨L0, A, ρ, lr, R, h⟩ := h
  have make : ∀ {Q' : Value → Shared → Prop}, (∀ (f' c' : Addr) (pm ctv : Value) (H1 : Hp) (s' : Shared), LamAt X pins σ H1 s' body lsc f' c' pm ctv → H1 c' = some (CodeO c' (X.env.qual ++ "<lambda>")) → LR X.K Z ρ H1 L0 σ → Rel X.K Z ρ H1 T A → Fut ρ H ρ H1 → Q' (.ref f') s') →
      wpAny (model X.prog X.w) X.A (eval (.Lambda ⟨[], [], none, [], [], none, []⟩ body lsc lp) X.env) Q' X.xe s := fun {Q'} hq =>
    lam_make3 I TB hcode hmT hu R.tab rfl (L.has I.ok) fun f' c' pm ctv H1 s' I1 eN et T1 hf' hfn hfr hco => hq f' c' pm ctv H1 s' ⟨I1, L, hf', hfn, hfr⟩ hco (lr.fut R (fut_ext eN et)) (rel_ext R eN et T1) (fut_ext eN et)
  cases kd with
  | heard =>
    cases es with
    | cons e es => exact absurd h id
    | nil =>
      obtain ⟨gH, gK, Rc, pg, pgK, sgH, sgK, es', p1, p2, q', j, DH, _⟩ := LT.hd.ex
      have hxe : x = "_law_heard" := LT.kd
      subst hxe
      refine wpAny_Call_Name_kw (ld_glob I hg DH.g ?_ (plain_ok hd).1)
      refine PySem.W.callWith_K (h₀ := X.base) I.ok.mod.kin DH.kp ?_ rfl rfl
      show wpAny _ _ (spliced ((false, eval (.Lambda ⟨[], [], none, [], [], none, []⟩ body lsc lp) X.env) :: backTo pos (starEach [] X.env))) _ _ s
      refine Calls.spliced_cons (make fun f' c' pm ctv H1 s' La hco lr1 R1 f1 => ?_)
      refine Calls.spliced_nil ⟨La.I.kIn, ?_⟩
      have h1 : RG X.K T Z ρ H1 (PQ X.K Z Q) (fun _ _ _ _ => False) (heardR t (m L0 A)) := heardR_rg (RG.fut f1 h)
      have rc := heard_run (k := k) La LT.hd to.S (hbody f' c') (hr.mono (by omega)) La.I.env0 (Un.kept fun _ _ e => e) (fun b o _ hb => hb) hco lr1 R1 h1 DH.g
      refine wpAny_call (codeAny_mono rc fun r s2 hq => ?_)
      cases r with
      | error e =>
        obtain ⟨_, _, _, _, _, _, _, _, _, _, _, _, z⟩ := hq
        exact z.elim
      | ok fl =>
        cases fl with
        | ret u => exact La.I.after hq
        | next => exact False.elim hq
        | brk => exact False.elim hq
        | cont => exact False.elim hq
  | tells =>
    match es, h with
    | [], h => exact absurd h id
    | _ :: _ :: _, h => exact absurd h id
    | [a], h =>
      by_cases hna : noStar a = true
      · have ec : callL t Φ f m .tells [a] = fun L A => (f a L A).bind fun o A1 => (heardR t (m L A1)).bind fun h A2 => callF 2 (Φ "_law_same") [h, .tup [.str "told", o]] A2 := if_pos hna
        rw [ec] at h
        obtain ⟨hsame, gT, pg, sg, q', j, DT, n1, n2, n3, n4⟩ := LT.kd
        refine wpAny_Call_Name_kw (ld_glob I hg DT.g ?_ (plain_ok hd).1)
        refine PySem.W.callWith_K (h₀ := X.base) I.ok.mod.kin DT.kp ?_ rfl (star_none (es := [a]) (by simp [hna]))
        show wpAny _ _ (spliced ((false, eval (.Lambda ⟨[], [], none, [], [], none, []⟩ body lsc lp) X.env) :: backTo pos (starEach [a] X.env))) _ _ s
        rw [star_one hna]
        show wpAny _ _ (spliced ((false, eval (.Lambda ⟨[], [], none, [], [], none, []⟩ body lsc lp) X.env) :: (false, eval a X.env) :: backTo pos (starEach [] X.env))) _ _ s
        refine Calls.spliced_cons (make fun f' c' pm ctv H1 s' La hco lr1 R1 f1 => ?_)
        refine Calls.spliced_cons (thn (arg_pin (R := fun v H2 => ∃ o A2 ρ2, VR X.K Z ρ2 H2 o v ∧ LR X.K Z ρ2 H2 L0 σ ∧ Rel X.K Z ρ2 H2 T A2 ∧ H2 c' = some (CodeO c' (X.env.qual ++ "<lambda>")) ∧ RG X.K T Z ρ2 H2 (PQ X.K Z Q) (EXK X.K Z E) ((heardR t (m L0 A2)).bind fun h A2 => callF 2 (Φ "_law_same") [h, .tup [.str "told", o]] A2)) La (hf a)
          ⟨L0, A, ρ, lr1, R1, RG.bind (RG.fut f1 h) fun o A2 ρ2 H2 f2 R2 h2 v hv => ⟨o, A2, ρ2, hv, lr1.fut R1 f2, R2, f2.keep _ _ hco (R1.no hco (fun _ z => by unfold CodeO at z; cases z) (fun _ _ _ z => by unfold CodeO at z; cases z)) codeO_ne, h2⟩⟩) fun u s2 ⟨v, H2, La2, rv, o, A2, ρ2, hv, lr2, R2, hco2, h2⟩ => ?_)
        refine Calls.spliced_nil ⟨La2.I.kIn, ?_⟩
        have rc := same_run (k := k) (us := [u]) (vs := [v]) (tu := .Tuple [.Constant (.str "told") (j 0) (q' 4), .Name "owed" (q' 5)] (j 1) (q' 6)) (tt := tTup (tCons (tC (.str "told")) (tCons (tVar 1) tNil))) La2 to LT.hd (hbody f' c') DT hsame n1 n2 n3 rfl rfl
          (fun cdv E => pe_tup (pa_cons pe_str (pa_cons (pe_var rfl (.inl n4) (by decide +kernel) (by decide +kernel)) pa_nil))) (hr.mono (by omega)) (.cons rv .nil) rfl hco2 lr2 R2 (va := .str "told") (vb := v) (by simp only [VR]) hv
          (fun H' Q' hq => ⟨v, rfl, (by decide : (2 : Nat) ≤ sizeLine), hq⟩) h2
        refine wpAny_call (codeAny_mono rc fun r s3 hq => ?_)
        cases r with
        | error e => exact tk_pz tk pins σ H2 s2 e s3 La2.I hq
        | ok fl =>
          cases fl with
          | ret u => exact La2.I.after hq
          | next => exact False.elim hq
          | brk => exact False.elim hq
          | cont => exact False.elim hq
      · have ec : callL t Φ f m .tells [a] = eStuck := if_neg hna
        rw [ec] at h
        exact absurd h id
  | refuses =>
    match es, h with
    | [], h => exact absurd h id
    | [_], h => exact absurd h id
    | _ :: _ :: _ :: _, h => exact absurd h id
    | [a, b], h =>
      by_cases hnn : (noStar a && noStar b) = true
      · obtain ⟨hna, hnb⟩ := Bool.and_eq_true_iff.mp hnn
        have ec : callL t Φ f m .refuses [a, b] = fun L A => (f a L A).bind fun o A1 => (f b L A1).bind fun u A2 => (heardR t (m L A2)).bind fun h A3 => callF 2 (Φ "_law_same") [h, .tup [o, u]] A3 := if_pos hnn
        rw [ec] at h
        obtain ⟨hsame, gT, pg, sg, q', j, DT, n1, n2, n3, n4, n5⟩ := LT.kd
        refine wpAny_Call_Name_kw (ld_glob I hg DT.g ?_ (plain_ok hd).1)
        refine PySem.W.callWith_K (h₀ := X.base) I.ok.mod.kin DT.kp ?_ rfl (star_none (es := [a, b]) (by simp [hna, hnb]))
        show wpAny _ _ (spliced ((false, eval (.Lambda ⟨[], [], none, [], [], none, []⟩ body lsc lp) X.env) :: backTo pos (starEach [a, b] X.env))) _ _ s
        rw [star_one hna]
        show wpAny _ _ (spliced ((false, eval (.Lambda ⟨[], [], none, [], [], none, []⟩ body lsc lp) X.env) :: (false, eval a X.env) :: backTo pos (starEach [b] X.env))) _ _ s
        rw [star_one hnb]
        show wpAny _ _ (spliced ((false, eval (.Lambda ⟨[], [], none, [], [], none, []⟩ body lsc lp) X.env) :: (false, eval a X.env) :: (false, eval b X.env) :: backTo pos (starEach [] X.env))) _ _ s
        have nc : ∀ {c' : Addr} {q : Str} {H1 H2 : Hp} {A1 : AH} {ρ1 ρ2 : List Addr}, Rel X.K Z ρ1 H1 T A1 → Fut ρ1 H1 ρ2 H2 → H1 c' = some (CodeO c' q) → H2 c' = some (CodeO c' q) := fun R1 f2 hco => f2.keep _ _ hco (R1.no hco (fun _ z => by unfold CodeO at z; cases z) (fun _ _ _ z => by unfold CodeO at z; cases z)) codeO_ne
        refine Calls.spliced_cons (make fun f' c' pm ctv H1 s' La hco lr1 R1 f1 => ?_)
        refine Calls.spliced_cons (thn (arg_pin (R := fun v H2 => ∃ o A2 ρ2, VR X.K Z ρ2 H2 o v ∧ LR X.K Z ρ2 H2 L0 σ ∧ Rel X.K Z ρ2 H2 T A2 ∧ H2 c' = some (CodeO c' (X.env.qual ++ "<lambda>")) ∧ RG X.K T Z ρ2 H2 (PQ X.K Z Q) (EXK X.K Z E) ((f b L0 A2).bind fun u A2 => (heardR t (m L0 A2)).bind fun h A3 => callF 2 (Φ "_law_same") [h, .tup [o, u]] A3)) La (hf a)
          ⟨L0, A, ρ, lr1, R1, RG.bind (RG.fut f1 h) fun o A2 ρ2 H2 f2 R2 h2 v hv => ⟨o, A2, ρ2, hv, lr1.fut R1 f2, R2, nc R1 f2 hco, h2⟩⟩) fun u s2 ⟨v, H2, La2, rv, o, A2, ρ2, hv, lr2, R2, hco2, h2⟩ => ?_)
        refine Calls.spliced_cons (thn (arg_pin (R := fun v' H3 => ∃ o' A3 ρ3, VR X.K Z ρ3 H3 o v ∧ VR X.K Z ρ3 H3 o' v' ∧ LR X.K Z ρ3 H3 L0 σ ∧ Rel X.K Z ρ3 H3 T A3 ∧ H3 c' = some (CodeO c' (X.env.qual ++ "<lambda>")) ∧ RG X.K T Z ρ3 H3 (PQ X.K Z Q) (EXK X.K Z E) ((heardR t (m L0 A3)).bind fun h A3 => callF 2 (Φ "_law_same") [h, .tup [o, o']] A3)) La2 (hf b)
          ⟨L0, A2, ρ2, lr2, R2, RG.bind h2 fun o' A3 ρ3 H3 f3 R3 h3 v' hv' => ⟨o', A3, ρ3, VR.fut R2 f3 _ hv, hv', lr2.fut R2 f3, R3, nc R2 f3 hco2, h3⟩⟩) fun u' s3 ⟨v', H3, La3, rv', o', A3, ρ3, hv3, hv', lr3, R3, hco3, h3⟩ => ?_)
        refine Calls.spliced_nil ⟨La3.I.kIn, ?_⟩
        have rc := same_run (k := k) (us := [u, u']) (vs := [v, v']) (tu := .Tuple [.Name "name" (q' 4), .Name "what" (q' 5)] (j 1) (q' 6)) (tt := tTup (tCons (tVar 1) (tCons (tVar 2) tNil))) La3 to LT.hd (hbody f' c') DT hsame n1 n2 n3 rfl rfl
          (fun cdv E => pe_tup (pa_cons (pe_var rfl (.inl n4) (by decide +kernel) (by decide +kernel)) (pa_cons (pe_var rfl (.inl n5) (by decide +kernel) (by decide +kernel)) pa_nil))) (hr.mono (by omega)) (.cons rv (.cons rv' .nil)) rfl hco3 lr3 R3 (va := v) (vb := v') hv3 hv'
          (fun H' Q' hq => ⟨v, rfl, v', rfl, (by decide : (2 : Nat) ≤ sizeLine), hq⟩) h3
        refine wpAny_call (codeAny_mono rc fun r s4 hq => ?_)
        cases r with
        | error e => exact tk_pz tk pins σ H3 s3 e s4 La3.I hq
        | ok fl =>
          cases fl with
          | ret u => exact La3.I.after hq
          | next => exact False.elim hq
          | brk => exact False.elim hq
          | cont => exact False.elim hq
      · have ec : callL t Φ f m .refuses [a, b] = eStuck := if_neg hnn
        rw [ec] at h
        exact absurd h id
end
end M
end
/-! ## M13 -/
section
set_option linter.all false
set_option maxRecDepth 100000
set_option maxHeartbeats 4000000
/-! Layer M, part 13: the interpreter's expressions hold. -/
namespace M
open PySem L2
section
variable {T : List (Addr × Str)} {t : Tab} {Φ : Fns} {k : Nat}
/-- what holds of expressions at depth n -/
structure EOk (t : Tab) (Φ : Fns) (k r : Nat) (T : List (Addr × Str)) (n : Nat) : Prop where
  e : ∀ (g : Ga) (X : Cx) (E : XK) (Z : List Addr) (e : Expr), XOk g X → TOkX t Φ k T X → Room (k + 1 + r) X.A → (Pz X E ∧ (g.blk = false → Tk X E ∧ LmOk t T X)) → PE X e (eM X.K T Z E (cE t Φ n g e))
  t : ∀ (g : Ga) (X : Cx) (E : XK) (Z : List Addr) (e : Expr), XOk g X → TOkX t Φ k T X → Room (k + 1 + r) X.A → (Pz X E ∧ (g.blk = false → Tk X E ∧ LmOk t T X)) → PT X e (tM X.K T Z E (cT t Φ n g e))
theorem mem_bi {x : Str} {T : String} (h : tyNames.lookup x = some T) : x ∈ biNames ∧ bootBuiltins x = some (.type T) ∧ x ≠ "__name__" := by
  have hm := lookup_mem h
  simp [tyNames] at hm
  rcases hm with ⟨rfl, rfl⟩ | ⟨rfl, rfl⟩ | ⟨rfl, rfl⟩ | ⟨rfl, rfl⟩ | ⟨rfl, rfl⟩ | ⟨rfl, rfl⟩ <;> exact ⟨by decide +kernel, by decide +kernel, by decide +kernel⟩
theorem pi_no {X : Cx} {tg e : Expr} {t : TI} (i : ∀ σ H Q, ¬ t σ H Q) : PI X tg e t := ⟨fun pins s σ H Q I r => absurd r (i σ H Q)⟩
theorem iM_stuck {K : PySem.W.Frag} {Z : List Addr} {E : XK} {σ : St} {H : Hp} {P : It → Hp → Prop} : ¬ iM K T Z E (fun _ _ => .stuck) σ H P := fun ⟨_, _, _, _, _, h⟩ => h
theorem pi_iE {X : Cx} {g : Ga} {tg iter : Expr} {E : XK} {Z : List Addr} {f : Expr → ME} (xo : XOk g X) (to : TOkX t Φ k T X) (hf : ∀ e, PE X e (eM X.K T Z E (f e))) : PI X tg iter (iM X.K T Z E (iE t g f iter)) := by
  have rm : (t.gs.lookup ("range" : Str)).isNone = true → X.mg "range" = none := fun h => to.bi _ (by simpa using h) (by decide +kernel)
  unfold iE
  split
  · split
    · rename_i e
      subst e
      split
      · rename_i c
        simp only [Bool.and_eq_true] at c
        exact pi_rng1_M (isGl_ok xo.toXOk0 c.1.1) (rm c.1.2) c.2 (hf _)
      · exact pi_no fun σ H Q => iM_stuck
    · exact pi_gen_M (hf _)
  · split
    · rename_i e
      subst e
      split
      · rename_i c
        simp only [Bool.and_eq_true] at c
        exact pi_rng2_M (isGl_ok xo.toXOk0 c.1.1.1) (rm c.1.1.2) c.1.2 c.2 (hf _) (hf _)
      · exact pi_no fun σ H Q => iM_stuck
    · exact pi_gen_M (hf _)
  · exact pi_no fun σ H Q => iM_stuck
  · exact pi_gen_M (hf _)
theorem folded_ok {iter : Expr} {env : Env} (h : ∀ a b c, iter ≠ .Set a b c) : ∀ x, foldedSetIterable iter env x = pure x := by
  intro x
  cases iter <;> first | rfl | exact absurd rfl (h _ _ _)
theorem TOk.noLam {P : Program} {w : World} {K : PySem.W.Frag} {mg : Str → Option Value} {base : Heap} (to : TOk t Φ k P w K mg base T) : TOk t.noLam Φ k P w K mg base T where
  dat := to.dat
  fn := to.fn
  cls := to.cls
  ms := to.ms
  cs := to.cs
  bi := to.bi
  S := to.S
  lam := fun x kd h => by cases h
  rs := to.rs
theorem eOk : ∀ (n : Nat) (t : Tab) (r : Nat), (t.lm = [] ∨ r = 6) → EOk t Φ k r T n
  | 0, t, r, hl => ⟨fun g X E Z e xo to hr tk => pe_stuck_M, fun g X E Z e xo to hr tk => pt_stuck_M⟩
  | n + 1, t, r, hl => by
    have ih := eOk n t r hl
    have i0 := eOk n t.noLam 0 (.inl rfl)
    refine ⟨fun g X E Z e xo to hr tk => ?_, fun g X E Z e xo to hr tk => ?_⟩
    · have hu : X.A.units + 64 < cLine := by have := hr.un; omega
      have hu1 : X.A.units + 1 < cLine := by omega
      have he : ∀ e, PE X e (eM X.K T Z E (cE t Φ n g e)) := fun e => ih.e g X E Z e xo to hr tk
      have ht : ∀ e, PT X e (tM X.K T Z E (cT t Φ n g e)) := fun e => ih.t g X E Z e xo to hr tk
      unfold cE
      split
      · exact pe_int_M
      · exact pe_bl_M
      · exact pe_non_M
      · exact pe_str_M
      · rename_i x p
        split
        · exact pe_var_M xo.toXOk0 ‹_›
        · split
          · rename_i c
            rw [Bool.and_eq_true] at c
            have hg := isGl_ok xo.toXOk0 c.1
            split
            · rename_i d hd
              obtain ⟨u, v, h1, h2, h3⟩ := to.dat x d hd
              exact pe_weak (pe_glob hg h1 h2 (plain_ok c.2).1) fun σ H Q h => eM_K h fun _ _ _ => sv_VR h3
            · exact pe_stuck_M
            · rename_i hl
              split
              · rename_i T' hT
                obtain ⟨m1, m2, m3⟩ := mem_bi hT
                exact pe_weak (pe_bltn hg (to.bi x hl m1) m2 (v := .ty T') rfl m3 (plain_ok c.2).1) fun σ H Q h => eM_K h fun _ _ _ => by simp only [VR]
              · exact pe_stuck_M
          · exact pe_stuck_M
      · exact pe_e2_op (op_M _) (opM_noexc _) (he _) (he _)
      · exact pe_not_M (he _)
      · exact pe_neg_M (he _)
      · exact pe_bool_M he _ _ _
      · exact pe_if_M (ht _) (he _) (he _)
      · split
        · exact pe_stuck_M
        · exact pe_cmp_M hu to.S (eq_false_of_ne_true ‹¬ _›) (he _) (he _)
      · exact pe_tup_M (pa_M he _)
      · exact pe_lst_M (pa_M he _)
      · split
        · split
          · exact pe_dict_M (fun Z e => ih.e g X E Z e xo to hr tk) ‹_› ‹_›
          · exact pe_stuck_M
        · exact pe_stuck_M
      · exact pe_sl_M (he _) (po_M he _) (po_M he _)
      · split
        · exact pe_stuck_M
        · exact pe_ix_M hu1 to.S (eq_false_of_ne_true ‹¬ _›) (he _) (he _)
      · split
        · exact pe_fld_M to ‹_› (he _)
        · exact pe_stuck_M
      · rename_i x p body lsc lp es pos
        split
        · rename_i c
          simp only [Bool.and_eq_true, Bool.not_eq_true'] at c
          obtain ⟨⟨⟨⟨c1, c2⟩, c3⟩, c4⟩, c5⟩ := c
          split
          · rename_i kd hk
            have hr6 : r = 6 := by
              rcases hl with hl | hl
              · rw [hl] at hk; cases hk
              · exact hl
            subst hr6
            exact pe_lam xo to hr (tk.2 c3).1 (tk.2 c3).2 c4 c5 hk (isGl_ok xo.toXOk0 c1) c2 he
              (fun X' E' Z' h1 h2 h3 h4 h5 xo' hr' tk' => i0.e _ X' E' Z' body xo' (by show TOk _ _ _ X'.prog X'.w X'.K X'.mg X'.base _; rw [h1, h2, h3, h4, h5]; exact to.noLam) hr' ⟨tk_pz tk', fun _ => ⟨tk', fun c P q h => by cases h⟩⟩)
          · exact pe_stuck_M
        · exact pe_stuck_M
      · exact pe_callN_M xo to (hr.mono (by omega)) tk.1 he
      · exact pe_callM_M hu1 to (hr.mono (by omega)) tk.1 he
      · rename_i elt tg iter ifs sc p
        dsimp only
        split
        · rename_i hb
          by_cases hs : ∀ a b c, iter ≠ .Set a b c
          · cases hbk : g.blk with
            | true => exact pe_lc_M (lcParts xo (folded_ok hs) hb (fun Z => pi_iE xo to fun e => ih.e g X E Z e xo to hr tk)
              (fun Z s H C cl fp e => ih.t _ _ _ Z e (xo_blk xo) to hr ⟨tk_false, fun h => by cases h⟩) (fun Z s H C cl fp => ih.e _ _ _ Z elt (xo_blk xo) to hr ⟨tk_false, fun h => by cases h⟩))
            | false => exact pe_lc_M (lcPartsX xo hbk (tk.2 hbk).1 (folded_ok hs) hb (fun Z => pi_iE xo to fun e => ih.e g X E Z e xo to hr tk)
              (fun Z s H C cl fp e => ih.t _ _ _ Z e (xo_blk xo).tr to hr ⟨tk_false, fun h => by cases h⟩) (fun Z s H C cl fp ps => ih.e _ _ _ Z elt (xo_blk xo).tr to hr ⟨ps, fun h => by cases h⟩))
          · have : ∃ a b c, iter = .Set a b c := Classical.byContradiction fun h => hs fun a b c e => h ⟨a, b, c, e⟩
            obtain ⟨a, b, c, rfl⟩ := this
            exact pe_no fun σ H Q h => by
              obtain ⟨L, A, ρ, lr, R, h⟩ := h
              exact h
        · exact pe_stuck_M
      · exact pe_stuck_M
    · have hu : X.A.units + 64 < cLine := by have := hr.un; omega
      have he : ∀ e, PE X e (eM X.K T Z E (cE t Φ n g e)) := fun e => ih.e g X E Z e xo to hr tk
      have ht : ∀ e, PT X e (tM X.K T Z E (cT t Φ n g e)) := fun e => ih.t g X E Z e xo to hr tk
      unfold cT
      split
      · exact pt_not_M (ht _)
      · exact PW.pt (pw_bool_M ht _ _ _)
      · split
        · exact pt_stuck_M
        · exact pt_cmp_M hu to.S (eq_false_of_ne_true ‹¬ _›) (he _) (he _)
      · exact pt_stuck_M
      · exact pt_stuck_M
      · refine pt_tru_M ?_ (he _)
        intro whole
        rename_i h1 h2 h3 h4 h5
        cases e <;> first | rfl | exact absurd rfl (h5 _ _ _ _) | exact absurd rfl (h4 _ _ _ _) | exact absurd rfl (h2 _ _ _) | skip
        rename_i op a p
        cases op <;> first | rfl | exact absurd rfl (h1 _ _)
end
end M
end
/-! ## M15 -/
section
set_option linter.all false
set_option maxRecDepth 100000
set_option maxHeartbeats 4000000
/-! Layer M, part 15: stores; the interpreter's statements hold. -/
namespace M
open PySem L2
section
variable {X : Cx} {T : List (Addr × Str)} {Z Z' : List Addr} {ρ ρ' : List Addr} {H H' : Hp} {A A' : AH} {d a b : D} {v : V} {E : XK} {g : Ga} {σ : St} {Q : VK} {K : PySem.W.Frag} {t : Tab} {Φ : Fns} {k : Nat} {D : Ends}
theorem sw2 {x y : Str} {px py pt p2 : Pos} {kt k2 : Nat} {a b : Expr} {env : Env} (hxy : x ≠ y) (ha : noStar a = true) (hb : noStar b = true) (h1 : [a, b].all (foldedForSure 8) = false) (h2 : [a, b].all (constantsAlone 8) = false) :
    swappedStores [.Tuple [.Name x px, .Name y py] kt pt] (.Tuple [a, b] k2 p2) env = pure none ∨ (swappedStores [.Tuple [.Name x px, .Name y py] kt pt] (.Tuple [a, b] k2 p2) env = pure (some [x, y]) ∧ env.kindOf x = some .local ∧ env.kindOf y = some .local) := by
  have s1 : ∀ e : Expr, noStar e = true → (match e with | .Starred .. => true | _ => false) = false := by
    intro e he
    cases e <;> first | rfl | simp [noStar] at he
  have sA := s1 a ha
  have sB := s1 b hb
  have hp : ∀ (x : Str) (p : Pos), (Expr.Name x p).pos = p := fun _ _ => rfl
  simp only [List.all_cons, List.all_nil, Bool.and_true] at h1 h2
  by_cases c0 : env.blockKind = .function
  · by_cases c1 : env.kindOf x = some .local
    · by_cases c2 : env.kindOf y = some .local
      · by_cases c3 : py.line = px.line
        · right
          refine ⟨?_, c1, c2⟩
          unfold swappedStores
          simp [c0, c1, c2, c3, sA, sB, h1, h2, hp, List.eraseDups_cons, hxy, Ne.symm hxy]
          intro h
          rcases h with h | h
          · exact absurd (h.symm.trans sA) (by decide)
          · exact absurd (h.symm.trans sB) (by decide)
        · left
          unfold swappedStores
          simp [c0, c1, c2, c3, sA, sB, h1, h2, hp]
      · left
        unfold swappedStores
        simp [c0, c1, c2, sA, sB, h1, h2, hp]
    · left
      unfold swappedStores
      by_cases c2 : env.kindOf y = some .local <;> by_cases c3 : py.line = px.line <;> simp [c0, c1, c2, c3, sA, sB, h1, h2, hp]
  · left
    unfold swappedStores
    simp [c0]
theorem ps_par_M {x y : Str} {i j : Nat} {a b : Expr} {f : Expr → ME} {px py pt p2 pos : Pos} {kt k2 : Nat} (xo : XOk g X) (hi : slotS g x = some i) (hj : slotS g y = some j) (hij : i ≠ j) (ha : noStar a = true) (hb : noStar b = true) (h1 : [a, b].all (foldedForSure 8) = false) (h2 : [a, b].all (constantsAlone 8) = false)
    (hf : ∀ e, PE X e (eM X.K T Z E (f e))) : PS X (.Assign [.Tuple [.Name x px, .Name y py] kt pt] (.Tuple [a, b] k2 p2) pos) (sM X.K T Z E fun L A => onR (twoVals f a b L A) fun p A1 => .nx ((L.set i (some p.1)).set j (some p.2)) A1) := by
  obtain ⟨i1, i2, i3⟩ := slotS_ok xo.toXOk0 hi
  obtain ⟨j1, j2, j3⟩ := slotS_ok xo.toXOk0 hj
  have nd : X.N.Nodup := by rw [xo.N]; exact xo.nd
  have hxy : x ≠ y := fun e => by
    subst e
    rw [hi] at hj
    exact hij (Option.some.inj hj)
  have hm := pa_M hf [a, b]
  have hE : ∀ {α : Type} (L : M.Loc) (A : AH) (F : List M.D → AH → Res α), (aE f [a, b] L A).bind F = (twoVals f a b L A).bind fun p A1 => F [p.1, p.2] A1 := by
    intro α L A F
    have e1 : aE f [b] = fun L A => (f b L A).bind fun x A1 => (aE f [] L A1).bind fun ys A2 => .ok (x :: ys) A2 := by cases b <;> first | rfl | simp [noStar] at hb
    have e2 : aE f [a, b] = fun L A => (f a L A).bind fun x A1 => (aE f [b] L A1).bind fun ys A2 => .ok (x :: ys) A2 := by cases a <;> first | rfl | simp [noStar] at ha
    rw [e2, e1]
    unfold twoVals
    dsimp only
    cases f a L A with
    | stuck => rfl
    | exc e B => rfl
    | ok u A1 =>
      simp only [Res.bind_ok]
      cases f b L A1 with
      | stuck => rfl
      | exc e B => rfl
      | ok w A2 => rfl
  have hR : ∀ {L : M.Loc} {A : AH} {ρ : List Addr} {H : Hp} {D : Ends} {σ : St}, LR X.K Z ρ H L σ → Rel X.K Z ρ H T A → SG X.K T Z ρ H D E (onR (twoVals f a b L A) fun p A1 => .nx ((L.set i (some p.1)).set j (some p.2)) A1) →
      RG X.K T Z ρ H (fun ds A' ρ' H' => ∀ vs, VRs X.K Z ρ' H' ds vs → ∃ v w, vs = [v, w] ∧ ∀ H2, Fut ρ' H' ρ' H2 → Rel X.K Z ρ' H2 T A' → D.nx ((σ.set i (some v)).set j (some w)) H2) (EXK X.K Z E) (aE f [a, b] L A) := by
    intro L A ρ H D σ lr R h
    have q : RG X.K T Z ρ H (fun p A1 ρ' H' => ∀ v w, VR X.K Z ρ' H' p.1 v → VR X.K Z ρ' H' p.2 w → ∀ H2, Fut ρ' H' ρ' H2 → Rel X.K Z ρ' H2 T A1 → D.nx ((σ.set i (some v)).set j (some w)) H2) (EXK X.K Z E) (twoVals f a b L A) := SG.on h fun p A1 ρ1 H1 f1 R1 h1 v w hv hw H2 f2 R2 => h1 _ ρ1 H2 f2 R2 (LR.fut R1 f2 (LR.set j (LR.set i (lr.fut R f1) hv) hw))
    have e := hE L A fun ds A1 => (.ok ds A1 : Res (List M.D))
    have idb : (aE f [a, b] L A).bind (fun ds A1 => (.ok ds A1 : Res (List M.D))) = aE f [a, b] L A := by cases aE f [a, b] L A <;> rfl
    rw [idb] at e
    rw [e]
    cases r : twoVals f a b L A with
    | stuck => rw [r] at q; exact q
    | exc e B => rw [r] at q; exact q
    | ok p A1 =>
      rw [r] at q
      intro ρ' H' f' R' vs hvs
      obtain ⟨v, w, rfl, hv, hw⟩ := hvs.two
      exact ⟨v, w, rfl, q ρ' H' f' R' v w hv hw⟩
  rcases sw2 (px := px) (py := py) (pt := pt) (p2 := p2) (kt := kt) (k2 := k2) (env := X.env) hxy ha hb h1 h2 with sw | ⟨sw, kx, ky⟩
  · have hpg : PG X (.Tuple [.Name x px, .Name y py] kt pt) (gTup X.K 2 (gCons (gName i) (gCons (gName j) gNil))) := pg_tup xo.calm (pgs_cons (pg_name nd i1 i2 i3) (pgs_cons (pg_name nd j1 j2 j3) pgs_nil))
    refine ps_weak (ps_asg (pe_tup hm) hpg rfl sw) fun D σ H ⟨L, A, ρ, lr, R, h⟩ => ?_
    refine ⟨L, A, ρ, lr, R, (hR lr R h).mono ?_ fun _ _ _ _ _ _ z => z⟩
    intro ds A1 ρ1 H1 f1 R1 q vs hvs
    obtain ⟨v, w, rfl, q⟩ := q vs hvs
    exact ⟨by show 2 ≤ sizeLine; rw [sizeLine_eq]; decide, fun p hp => ⟨p, [v, w], rfl, SqT.of upd_same, rfl, v, [w], rfl, w, [], rfl, rfl, q _ (Fut.new1 hp) (R1.new1 hp)⟩⟩
  · refine ps_weak (ps_par xo.calm nd i1 j1 hij kx ky hm sw) fun D σ H ⟨L, A, ρ, lr, R, h⟩ => ?_
    refine ⟨L, A, ρ, lr, R, (hR lr R h).mono ?_ fun _ _ _ _ _ _ z => z⟩
    intro ds A1 ρ1 H1 f1 R1 q vs hvs
    obtain ⟨v, w, rfl, q⟩ := q vs hvs
    exact ⟨v, w, rfl, q _ (Fut.refl _ _) R1⟩
theorem ps_tup_M {ts : List Expr} {kt : Nat} {pt pos : Pos} {e : Expr} {m : ME} (xo : XOk g X) (hn : notComp e = true) (ht : ∀ a b c, e ≠ .Tuple a b c) (he : PE X e (eM X.K T Z E m)) : PS X (.Assign [.Tuple ts kt pt] e pos) (sM X.K T Z E fun L A => onR (m L A) fun d A1 => match tgM g (.Tuple ts kt pt) d L with
          | some L1 => .nx L1 A1
          | none => .stuck) :=
  ps_weak (ps_asg he (pg_M (Z := Z) xo (.Tuple ts kt pt)) (by unfold swapsWithSole; exact swaps_plain hn) (by cases e <;> first | rfl | exact absurd rfl (ht _ _ _)) rfl) fun D σ H ⟨L, A, ρ, lr, R, h⟩ => ⟨L, A, ρ, lr, R, SG.on h fun d A1 ρ1 H1 f1 R1 h1 v hv => by
    split at h1
    · exact ⟨d, L, _, ρ1, hv, lr.fut R f1, ‹_›, fun σ1 lr1 _ => h1 σ1 ρ1 H1 (Fut.refl _ _) R1 lr1⟩
    · exact absurd h1 id⟩
/-! ### fields and places -/
theorem FR.put {f : Str} {d : M.D} {v : V} (hv : VR K Z ρ H d v) : ∀ {ps : List (Str × M.D)} {fs : List (Str × V)}, FR K Z ρ H ps fs → FR K Z ρ H (putD f d ps) (putF f v fs)
  | [], fs, h => by
    simp only [FR] at h
    subst h
    simp only [putD, putF, FR]
    exact ⟨v, [], rfl, hv, rfl⟩
  | p :: ps, fs, h => by
    simp only [FR] at h
    obtain ⟨w, r, rfl, h2, h3⟩ := h
    simp only [putD, putF]
    by_cases e : p.1 = f
    · rw [if_pos e, if_pos e]
      simp only [FR]
      exact ⟨v, r, rfl, hv, h3⟩
    · rw [if_neg e, if_neg e]
      simp only [FR]
      exact ⟨w, _, rfl, h2, FR.put hv h3⟩
theorem FR.length : ∀ {ps : List (Str × M.D)} {fs : List (Str × V)}, FR K Z ρ H ps fs → fs.length = ps.length
  | [], fs, h => by simp only [FR] at h; rw [h]; rfl
  | p :: ps, fs, h => by
    simp only [FR] at h
    obtain ⟨w, r, rfl, h2, h3⟩ := h
    simp [FR.length h3]
theorem fld_put {f : Str} {o d : M.D} {L : M.Loc} {x y : V} (to : TOkX t Φ k T X) (lr : LR X.K Z ρ H L σ) (R : Rel X.K Z ρ H T A) (ho : VR X.K Z ρ H o x) (hd : VR X.K Z ρ H d y) (h : SG X.K T Z ρ H D E (setFld t f o d L A)) :
    ∃ a C dx fs, x = .ref a ∧ H a = some (.ins C dx fs) ∧ Cls X.K C ∧ NoAttr X.K C f ∧ fs.length < 1000 ∧ D.nx σ (upd H a (.ins C dx (putF f y fs))) := by
  unfold setFld at h
  split at h
  · rename_i kk
    simp only [VR] at ho
    obtain ⟨p, e1, rfl⟩ := ho
    split at h
    · rename_i C fs hA
      obtain ⟨p', e2, dx, gs, e3, e4⟩ := R.get hA
      have : p' = p := Option.some.inj (e2.symm.trans e1)
      subst this
      split at h
      · rename_i names hc
        split at h
        · rename_i hn
          rw [Bool.and_eq_true, decide_eq_true_eq, List.any_eq_true] at hn
          obtain ⟨⟨z, hz, hzf⟩, hl⟩ := hn
          have zf : z = f := by simpa using hzf
          obtain ⟨c1, c2⟩ := to.cs C names hc
          have hm : p' ∈ ρ := List.mem_of_getElem? e1
          have ff : Fut ρ H ρ (upd H p' (.ins C dx (putF f y gs))) := Fut.put hm
          refine ⟨p', C, dx, gs, rfl, e3, c1, zf ▸ c2 z hz, by rw [FR.length e4]; exact hl, ?_⟩
          exact h σ ρ _ ff (R.put e1 ⟨dx, _, upd_same, FR.fut R ff _ (FR.put hd e4)⟩) (LR.fut R ff lr)
        · exact absurd h id
      · exact absurd h id
    · exact absurd h id
  · exact absurd h id
theorem ps_fld_M {o e : Expr} {f : Str} {mo me : ME} {pos p : Pos} (to : TOkX t Φ k T X) (hn : notComp e = true) (ho : PE X o (eM X.K T Z E mo)) (he : PE X e (eM X.K T Z E me)) : PS X (.Assign [.Attribute o f p] e pos) (sM X.K T Z E fun L A => onR (me L A) fun d A1 => onR (mo L A1) fun x A2 => setFld t f x d L A2) :=
  ps_weak (ps_fld ho he (swaps_plain hn)) fun D σ H ⟨L, A, ρ, lr, R, h⟩ => ⟨L, A, ρ, lr, R, SG.on h fun d A1 ρ1 H1 f1 R1 h1 y hy => ⟨L, A1, ρ1, lr.fut R f1, R1, SG.on h1 fun x A2 ρ2 H2 f2 R2 h2 v hv => fld_put to ((lr.fut R f1).fut R1 f2) R2 hv (VR.fut R1 f2 _ hy) h2⟩⟩
theorem ps_fldaug_M {o e : Expr} {f : Str} {mo me : ME} {pos p : Pos} (to : TOkX t Φ k T X) (hp : plainO o = true) (ho : PE X o (eM X.K T Z E mo)) (he : PE X e (eM X.K T Z E me)) : PS X (.AugAssign (.Attribute o f p) .Add e pos) (sM X.K T Z E fun L A => onR (mo L A) fun x A1 => onR (fldM t f x A1) fun y A2 => onR (me L A2) fun z A3 => match incM y z with
        | some w => if clsOf x A1 = clsOf x A3 then setFld t f x w L A3 else .stuck
        | none => .stuck) :=
  ps_weak (ps_fldaug ho he in_add) fun D σ H ⟨L, A, ρ, lr, R, h⟩ => ⟨L, A, ρ, lr, R, SG.on h fun x A1 ρ1 H1 f1 R1 h1 v hv => by
    have hv0 := hv
    cases r : fldM t f x A1 with
    | stuck => rw [r] at h1; exact absurd h1 id
    | exc e B =>
      unfold fldM at r
      split at r
      · split at r
        · split at r
          · split at r
            · exact absurd r (optR_noexc _ _ _ _)
            · cases r
          · cases r
        · cases r
      · cases r
    | ok y A2 =>
      rw [r] at h1
      simp only [onR] at h1
      unfold fldM at r
      split at r
      · rename_i kk
        simp only [VR] at hv
        obtain ⟨q, e1, rfl⟩ := hv
        split at r
        · rename_i C fs hA
          obtain ⟨q', e2, dx, gs, e3, e4⟩ := R1.get hA
          have : q' = q := Option.some.inj (e2.symm.trans e1)
          subst this
          split at r
          · rename_i names hc
            split at r
            · rename_i hn
              cases e5 : lookF fs f with
              | none => rw [e5] at r; cases r
              | some d =>
                rw [e5] at r
                simp only [optR, Res.ok.injEq] at r
                obtain ⟨rfl, rfl⟩ := r
                obtain ⟨w, e6, e7⟩ := (FR.look e4).1 d e5
                obtain ⟨c1, c2⟩ := to.cs C names hc
                rw [List.any_eq_true] at hn
                obtain ⟨u, hu, huf⟩ := hn
                have uf : u = f := by simpa using huf
                refine ⟨q', C, dx, gs, w, rfl, e3, c1, uf ▸ c2 u hu, e6, ⟨L, A1, ρ1, lr.fut R f1, R1, SG.on h1 fun z A3 ρ3 H3 f3 R3 h3 y' hy' => ?_⟩⟩
                split at h3
                · rename_i w0 hw
                  unfold incM at hw
                  split at hw
                  · rename_i i j
                    simp only [Option.some.injEq] at hw
                    subst hw
                    have e7' := VR.fut R1 f3 _ e7
                    split at h3
                    · rename_i hcl
                      simp only [VR] at e7' hy'
                      obtain ⟨a', C', dx', fs', g1, g2, g3, g4, g5, g6⟩ := fld_put to ((lr.fut R f1).fut R1 f3) R3 (VR.fut R1 f3 _ hv0) (d := .int (i + j)) (y := .int (i + j)) (by simp only [VR]) h3
                      cases g1
                      have hC : C' = C := by
                        have c1' : clsOf (.obj kk) A1 = some C := by simp only [clsOf, hA]
                        rw [c1'] at hcl
                        unfold clsOf at hcl
                        dsimp only at hcl
                        split at hcl
                        · rename_i C2 fs2 hA3
                          obtain ⟨q2, e2', dx2, gs2, e3', e4'⟩ := R3.get hA3
                          have : q2 = q' := Option.some.inj (e2'.symm.trans (pre_get f3.pre e1))
                          subst this
                          rw [g2] at e3'
                          cases e3'
                          exact (Option.some.inj hcl).symm
                        · cases hcl
                      subst hC
                      exact ⟨_, _, e7', hy', dx', fs', g2, g5, g6⟩
                    · exact absurd h3 id
                  · cases hw
                · exact absurd h3 id
            · cases r
          · cases r
        · cases r
      · cases r⟩
theorem ps_ix_M {o i e : Expr} {mo mi me : ME} {pos p : Pos} (hn : notComp e = true) (hs : isSlice i = false) (ho : PE X o (eM X.K T Z E mo)) (hi : PE X i (eM X.K T Z E mi)) (he : PE X e (eM X.K T Z E me)) :
    PS X (.Assign [.Subscript o i p] e pos) (sM X.K T Z E fun L A => onR (me L A) fun d A1 => onR (mo L A1) fun x A2 => onR (mi L A2) fun y A3 => setIx x y d L A3) :=
  ps_weak (ps_asg he (pg_sub ho hi set_list (by intro v; cases i <;> first | rfl | simp [isSlice] at hs)) (by unfold swapsWithSole; exact swaps_plain hn) rfl rfl) fun D σ H ⟨L, A, ρ, lr, R, h⟩ => ⟨L, A, ρ, lr, R, SG.on h fun d A1 ρ1 H1 f1 R1 h1 v hv => ⟨L, A1, ρ1, lr.fut R f1, R1, SG.on h1 fun x A2 ρ2 H2 f2 R2 h2 u hu => ⟨L, A2, ρ2, (lr.fut R f1).fut R1 f2, R2, SG.on h2 fun y A3 ρ3 H3 f3 R3 h3 w hw => by
    have hu := VR.fut R2 f3 _ hu
    have hv := VR.fut R2 f3 _ (VR.fut R1 f2 _ hv)
    unfold setIx at h3
    split at h3
    · simp only [VR] at hu hw
      obtain ⟨q, e1, rfl⟩ := hu
      split at h3
      · rename_i ds hA
        obtain ⟨q', us, e2, e3, e4⟩ := R3.getL hA
        have : q' = q := Option.some.inj (e2.symm.trans e1)
        subst this
        split at h3
        · rename_i j hj
          have hm : q' ∈ ρ3 := List.mem_of_getElem? e1
          have ff : Fut ρ3 H3 ρ3 (upd H3 q' (.lst (us.set j v))) := Fut.put hm
          refine ⟨q', us, _, j, rfl, hw, e3, by rw [VRs.length e4]; exact hj, ?_⟩
          exact h3 σ ρ3 _ ff (R3.put e1 ⟨_, upd_same, VRs.fut R3 ff _ (VRs.set j e4 hv)⟩) (((lr.fut R f1).fut R1 f2).fut R2 f3 |>.fut R3 ff)
        · exact absurd h3 id
      · exact absurd h3 id
    · exact absurd h3 id⟩⟩⟩
end
end M
end
/-! ## M16 -/
section
set_option linter.all false
set_option maxRecDepth 100000
set_option maxHeartbeats 4000000
/-! Layer M, part 16: the interpreter's statements and defs hold. -/
namespace M
open PySem L2
section
variable {X : Cx} {T : List (Addr × Str)} {Z Z' : List Addr} {ρ ρ' : List Addr} {H H' : Hp} {A A' : AH} {E : XK} {g : Ga} {σ : St} {Q : VK} {K : PySem.W.Frag} {t : Tab} {Φ : Fns} {k wf : Nat} {mu : Bool}
theorem ps_raise_M {x C w : _} {e : Expr} {m : ME} {p pos pos' : Pos} (to : TOkX t Φ k T X) (hr : Room (k + 2) X.A) (tk : Tk X E) (hc : X.calm = true) (hg : Gl X x) (hd : plainName x = true) (hs : noStar e = true) (hl : t.gs.lookup x = some (.exc C w)) (he : PE X e (eM X.K T Z E m)) :
    PS X (.Raise (some (.Call (.Name x p) [e] [] pos)) none pos') (sM X.K T Z E fun L A => onR (m L A) fun d A1 => .exc ⟨C, d, w⟩ A1) :=
  ps_weak (L2N.ps_raise hc tk (to.rs x C w hl X rfl rfl rfl rfl rfl hr hc hg hd e p pos _ hs (pa_cons he pa_nil (star_one hs)))) fun D σ H ⟨L, A, ρ, lr, R, h⟩ => ⟨L, A, ρ, lr, R, SG.on h fun d A1 ρ1 H1 f1 R1 h1 v hv => ⟨v, rfl, fun dd hdd =>
    h1 ρ1 _ (Fut.new1 hdd) (R1.new1 hdd) v dd (VR.fut R1 (Fut.new1 hdd) _ hv) upd_same⟩⟩
theorem sOk (hbk : g.blk = false) (xo : XOk g X) (to : TOkX t Φ k T X) (hr : Room (k + 7) X.A) (tk : Tk X E) (lm : LmOk t T X) (po : PassesOwn (model X.prog X.w) X.A X.env X.xe) : ∀ (n : Nat) (s : Stmt), PS X s (sM X.K T Z E (cS t Φ wf g n s))
  | 0, s => ps_stuck_M
  | n + 1, s => by
    have hr1 : Room (k + 1 + 6) X.A := hr
    have ih := fun s => sOk hbk xo to hr tk lm po n s
    have he : ∀ e, PE X e (eM X.K T Z E (cE t Φ 60 g e)) := fun e => (eOk 60 t 6 (.inr rfl)).e g X E Z e xo to hr1 ⟨tk_pz tk, fun _ => ⟨tk, lm⟩⟩
    have hT : ∀ e, PE X e (eM X.K T Z E (eTop t Φ g e)) := fun e => by
      unfold eTop
      split
      · split
        · exact pe_obj_M (pa_M he _)
        · exact he _
      · exact he _
    have ht : ∀ e, PT X e (tM X.K T Z E (cT t Φ 60 g e)) := fun e => (eOk 60 t 6 (.inr rfl)).t g X E Z e xo to hr1 ⟨tk_pz tk, fun _ => ⟨tk, lm⟩⟩
    unfold cS
    split
    · exact ps_weak ps_pass fun D σ H ⟨L, A, ρ, lr, R, h⟩ => h σ ρ H (Fut.refl _ _) R lr
    · exact ps_weak ps_break fun D σ H ⟨L, A, ρ, lr, R, h⟩ => h σ ρ H (Fut.refl _ _) R lr
    · exact ps_weak ps_continue fun D σ H ⟨L, A, ρ, lr, R, h⟩ => h σ ρ H (Fut.refl _ _) R lr
    · exact ps_weak ps_doc fun D σ H ⟨L, A, ρ, lr, R, h⟩ => h σ ρ H (Fut.refl _ _) R lr
    · split
      · exact ps_expr_M ‹_› (he _)
      · exact ps_stuck_M
    · exact ps_weak ps_retN fun D σ H ⟨L, A, ρ, lr, R, h⟩ => h .non ρ H (Fut.refl _ _) R (by simp only [VR])
    · exact ps_ret_M (hT _)
    · exact ps_if_M (ht _) (pss_M ih _) (pss_M ih _)
    · split
      · exact ps_stuck_M
      · rename_i hs
        exact ps_for_M xo po (folded_ok fun a b c => hs a b c) (pi_iE xo to he) (pss_M ih _)
    · exact ps_while_M po (ht _) (pss_M ih _)
    · rename_i x p e pos
      split
      · rename_i i hi
        by_cases hn : notComp e = true
        · exact ps_set_M xo hi hn (hT _)
        · cases e <;> first | (exact absurd rfl hn) | skip
          · rename_i elt gens sc pos'
            show PS X _ (sM X.K T Z E fun L A => onR (cE t Φ 60 g (.ListComp elt gens sc pos') L A) fun d A1 => .nx (L.set i (some d)) A1)
            by_cases hg : ∃ tg iter ifs, gens = [⟨tg, iter, ifs, 0⟩]
            · obtain ⟨tg, iter, ifs, rfl⟩ := hg
              have hE : cE t Φ 60 g (.ListComp elt [⟨tg, iter, ifs, 0⟩] sc pos') = if blkC g.N ⟨.function, g.nk, false, false, []⟩ sc (ownOf g sc) then
                  fun L A => (iE t g (cE t Φ 59 g) iter L A).bind fun ds A1 => lcGo (!g.blk) (tgM ⟨g.N, sc.names, g.mu, true⟩ tg) (allT (cT t Φ 59 ⟨g.N, sc.names, g.mu, true⟩) ifs) (cE t Φ 59 ⟨g.N, sc.names, g.mu, true⟩ elt) (wipeL L ((ownOf g sc).map (·.2))) ds [] A1
                else eStuck := rfl
              rw [hE, hbk]
              split
              · rename_i hb
                by_cases hs : ∀ a b c, iter ≠ .Set a b c
                · exact ps_setLc_M xo hi (lcPartsX xo hbk tk (folded_ok hs) hb (fun Z => pi_iE xo to fun e => (eOk 59 t 6 (.inr rfl)).e g X E Z e xo to hr1 ⟨tk_pz tk, fun _ => ⟨tk, lm⟩⟩)
                    (fun Z s H C cl fp e => (eOk 59 t 6 (.inr rfl)).t _ _ _ Z e (xo_blk xo).tr to hr1 ⟨tk_false, fun h => by cases h⟩) (fun Z s H C cl fp ps => (eOk 59 t 6 (.inr rfl)).e _ _ _ Z elt (xo_blk xo).tr to hr1 ⟨ps, fun h => by cases h⟩))
                · have : ∃ a b c, iter = .Set a b c := Classical.byContradiction fun h => hs fun a b c e => h ⟨a, b, c, e⟩
                  obtain ⟨a, b, c, rfl⟩ := this
                  exact ps_no fun D σ H ⟨L, A, ρ, lr, R, h⟩ => h
              · exact ps_no fun D σ H ⟨L, A, ρ, lr, R, h⟩ => h
            · have hE : cE t Φ 60 g (.ListComp elt gens sc pos') = eStuck := by
                match gens, hg with
                | [], _ => rfl
                | [⟨tg, iter, ifs, .ofNat 0⟩], hg => exact absurd ⟨tg, iter, ifs, rfl⟩ hg
                | [⟨tg, iter, ifs, .ofNat (n + 1)⟩], hg => rfl
                | [⟨tg, iter, ifs, .negSucc n⟩], hg => rfl
                | ⟨tg, iter, ifs, .ofNat 0⟩ :: _ :: _, hg => rfl
                | ⟨tg, iter, ifs, .ofNat (n + 1)⟩ :: _ :: _, hg => rfl
                | ⟨tg, iter, ifs, .negSucc n⟩ :: _ :: _, hg => rfl
              rw [hE]
              exact ps_no fun D σ H ⟨L, A, ρ, lr, R, h⟩ => h
          · exact ps_no fun D σ H ⟨L, A, ρ, lr, R, h⟩ => h
          · exact ps_no fun D σ H ⟨L, A, ρ, lr, R, h⟩ => h
      · exact ps_stuck_M
    · rename_i x px y py kt pt a b k2 p2 pos
      split
      · rename_i i j hi hj
        split
        · rename_i c
          obtain ⟨c1, c2⟩ := c
          simp only [Bool.and_eq_true, Bool.not_eq_true'] at c2
          exact ps_par_M xo hi hj c1 c2.1.1.1 c2.1.1.2 c2.1.2 c2.2 he
        · exact ps_stuck_M
      · exact ps_stuck_M
    · split
      · exact ps_stuck_M
      · rename_i ht
        split
        · exact ps_tup_M xo ‹_› (fun a b c => ht a b c) (he _)
        · exact ps_stuck_M
    · split
      · rename_i c
        rw [Bool.and_eq_true] at c
        exact ps_fld_M to c.1 (he _) (he _)
      · exact ps_stuck_M
    · split
      · rename_i c
        rw [Bool.and_eq_true, Bool.not_eq_true'] at c
        exact ps_ix_M c.1 c.2 (he _) (he _) (he _)
      · exact ps_stuck_M
    · split
      · exact ps_fldaug_M to ‹_› (he _) (he _)
      · exact ps_stuck_M
    · split
      · rename_i c
        rw [Bool.and_eq_true, Bool.and_eq_true] at c
        split
        · exact ps_raise_M to (hr.mono (by omega)) tk xo.calm (isGl_ok xo.toXOk0 c.1.1) c.1.2 c.2 ‹_› (he _)
        · exact ps_stuck_M
      · exact ps_stuck_M
    · exact ps_stuck_M
/-- what a def tells, by its text -/
def runF (t : Tab) (Φ : Fns) (wf : Nat) (mu : Bool) (N : List Str) (sc : Scope) (body : List Stmt) (ds : List D) (A : AH) : Res D :=
  toRes (sBlock (cS t Φ wf ⟨N, sc.names, mu, false⟩ 40) body (ds.map some ++ List.replicate (N.length - ds.length) none) A)
theorem start_LR {ds : List D} {vs : List V} {n : Nat} (h : VRs K Z ρ H ds vs) : LR K Z ρ H (ds.map some ++ List.replicate n none) (vs.map some ++ List.replicate n none) := by
  induction ds generalizing vs with
  | nil =>
    simp only [VRs] at h
    subst h
    simp only [List.map_nil, List.nil_append]
    induction n with
    | zero => simp [LR]
    | succ n ih =>
      rw [List.replicate_succ, List.replicate_succ]
      simp only [LR]
      exact ⟨none, _, rfl, ih⟩
  | cons d ds ih =>
    simp only [VRs] at h
    obtain ⟨v, r, rfl, h1, h2⟩ := h
    simp only [List.map_cons, List.cons_append, LR]
    exact ⟨v, _, rfl, h1, ih h2⟩
/-- the tables of the lambdas of a def whose code object is cdv -/
def LaOk (t : Tab) (T : List (Addr × Str)) (base : Heap) (mg : Str → Option Value) (qual : Str) (cdv : Value) : Prop := ∀ c P q, t.la = some (c, P, q) → cdv = .ref c ∧ LamX.TabB base mg c P ∧ (qual ++ ".<locals>.") ++ "<lambda>" = q ∧ (P, q) ∈ T ∧ ∀ p ∈ T, p.1 = P → p.2 = q
theorem fn_M {P : Program} {w : World} {mg : Str → Option Value} {base : Heap} {x qual : Str} {params : Arguments} {body : List Stmt} {sc : Scope} {dV kV doc pm cdv ct oc : Value} {an od : Option Addr} {osl : Array (Option Value)} {f : Addr} {N ps : List Str}
    (lk : K.lookup f = some ⟨oc, od, .func (PySem.W.fnOf x qual params body sc dV kV doc pm an cdv ct), osl⟩) (hcd : PySem.W.codeIn K cdv qual = true) (S : FnScope N ps sc) (to : TOk t Φ k P w K mg base T) (hla : LaOk t T base mg qual cdv) :
    FnOk P w K mg base (L2N.CX P w) (k + 8) f (PySem.W.fnOf x qual params body sc dV kV doc pm an cdv ct) ps (spM K T ps.length (runF t Φ wf mu N sc body)) := by
  refine fn_of (k := k + 7) lk hcd S (fun vs H Q E ⟨Z, ds, A, ρ, h1, h2, _⟩ => by rw [VRs.length h2, h1]) fun A outer s H vs Q E hr hsp => ?_
  obtain ⟨Z, ds, A1, ρ, h1, h2, R, h⟩ := hsp
  have xo : XOk ⟨N, sc.names, mu, false⟩ (cxOf (L2N.CX P w) P w K mg base N qual sc f cdv A outer s H E) := xo_fn S
  have tk : Tk (cxOf (L2N.CX P w) P w K mg base N qual sc f cdv A outer s H E) E := L2N.takes_of rfl rfl rfl rfl
  refine ⟨_, pss_M (Z := Z) (T := T) (E := E) (fun s => sOk (wf := wf) rfl xo to hr tk hla (passes_of rfl) 40 s) body, ?_⟩
  refine ⟨ds.map some ++ List.replicate (N.length - ds.length) none, A1, ρ, ?_, R, ?_⟩
  · have := start_LR (n := N.length - ds.length) h2
    unfold L2.start
    rw [VRs.length h2]
    exact this
  · unfold runF at h
    cases r : sBlock (cS t Φ wf ⟨N, sc.names, mu, false⟩ 40) body (ds.map some ++ List.replicate (N.length - ds.length) none) A1 with
    | nx L A => rw [r] at h; exact fun σ' ρ' H' f' R' _ => h ρ' H' f' R' .non (by simp only [VR])
    | rt d A => rw [r] at h; exact fun v ρ' H' f' R' hv => h ρ' H' f' R' v hv
    | exc e A => rw [r] at h; exact h
    | bk L A => rw [r] at h; exact absurd h id
    | ct L A => rw [r] at h; exact absurd h id
    | stuck => rw [r] at h; exact absurd h id
end
end M
end
/-! ## MR -/
section
set_option linter.all false
set_option maxRecDepth 100000
set_option maxHeartbeats 4000000
/-! Layer M, raise: an exception class whose __init__ asks its parent class, which asks ValueError. -/
namespace MR
open PySem PySem.W PySem.Calls PyProof.Rows PySem.HandSPX

/-- what the frames of an __init__ look up -/
structure Nm (h : Heap) (mg mb : Str → Option Value) : Prop where
  g : h.Ns mainGlobals mg
  b : h.Ns builtinsNs mb
  sg : mg "super" = none
  sb : mb "super" = some (.type "super")
theorem Nm.keeps {h h' : Heap} {mg mb : Str → Option Value} (n : Nm h mg mb) (k : ∀ b o, h.get? b = some o → h'.get? b = some o) : Nm h' mg mb := ⟨n.g.keeps k, n.b.keeps k, n.sg, n.sb⟩
/-- a def whose super() is of the class at D -/
structure SupFn (K : Frag) (prog : Program) (f D : Addr) (qual : Str) (params : Arguments) (body : List Stmt) (scope : Scope) (dV : Value) : Prop where
  ex : ∃ (oc : Value) (od : Option Addr) (kV doc pm : Value) (an : Option Addr) (cda : Addr) (ct : Value) (osl : Array (Option Value)) (cc : Addr) (ccl : Value) (cdd : Option Addr) (vs : Array Value) (ccs : Array (Option Value)) (file : Str) (tf : Tok) (cl : Value) (cld : Option Addr) (csl : Array (Option Value)),
    K.lookup f = some ⟨oc, od, .func (ksFn "__init__" qual params body scope dV kV doc pm an (.ref cda) ct cc), osl⟩ ∧ codeIn K (.ref cda) qual = true ∧
    K.lookup cda = some ⟨ccl, cdd, .fields vs, ccs⟩ ∧ vs[2]? = some (.str file tf) ∧ ((prog.main.file : Str) == file) = true ∧ K.lookup cc = some ⟨cl, cld, .cell (some (.ref D)), csl⟩
structure SupSc (scope : Scope) : Prop where
  s : scope.names.lookup ("super" : Str) = some .globalImplicit
  c : scope.names.lookup ("__class__" : Str) = some .free
  kind : scope.kind = .function
  co : scope.isCoroutine = false
  gen : scope.isGenerator = false
  nocell : ∀ x ∈ scope.names, x.2 ≠ .cell
section
variable {prog : Program} {w : World} {A : Around} {E : Value → Shared → Prop} {R : Result → Shared → Prop} {K : Frag} {mg mb : Str → Option Value} {h : Heap} {g : Array GenState} {d : Drawn} {t : Nat} {os : OsState}
theorem sup_node {body : List Stmt} {q : Str} {scope : Scope} {p0 p1 : Pos} {attr : Str} {whole : Sem Value} {fd : FuncData} {ar : Arg} {vs : Array Value} {file : Str} {tf : Tok} {oc ccl cl : Value} {od cdd cld : Option Addr} {osl ccs csl : Array (Option Value)} {cdD : ClassData} {Q : Value → Shared → Prop} {m : Str → Option Value} {L f cda cc D x C : Addr} {ox : Obj} {odx : Option Obj}
    (X : K.In h) (hn : h.Ns L m) (nm : Nm h mg mb)
    (hf : K.lookup f = some ⟨oc, od, .func fd, osl⟩) (hp : (fd.params.posonlyargs ++ fd.params.args).head? = some ar) (hv : m ar.arg = some (.ref x)) (I : InstAt h x ox C odx)
    (hcode : K.lookup cda = some ⟨ccl, cdd, .fields vs, ccs⟩) (hvs : vs[2]? = some (.str file tf)) (hfile : ((prog.main.file : Str) == file) = true)
    (hcell : K.lookup cc = some ⟨cl, cld, .cell (some (.ref D)), csl⟩) (hD : clsIn K D = some cdD) (hsub : mroIn K C (.ref D) = some true)
    (hat : (attr == ("__class__" : Str)) = false) (S : SupSc scope) (hka : scope.names.lookup ar.arg = some .local)
    (htop : (prog.main.scope.names.lookup ("super" : Str)).isSome = false)
    (hq : ∀ h', h'.get? h.objs.size = some (ks_superObj D x C) → (∀ b o, h.get? b = some o → h'.get? b = some o) → Q (.ref h.objs.size) ⟨h', g, d, t, os⟩) :
    _root_.PySem.wpAt (model prog w) A (.func body (ksEnv q scope L f (.ref cda) cc)) (attributeBase (.Call (.Name "super" p0) [] [] p1) attr (ksEnv q scope L f (.ref cda) cc) whole) Q E ⟨h, g, d, t, os⟩ := by
  obtain ⟨oD, hD1, hD2⟩ : ∃ oD, h.get? D = some oD ∧ oD.data = .cls cdD := by
    unfold clsIn at hD
    split at hD
    · rename_i c d cd' sl ho
      cases hD
      exact ⟨_, X _ _ ho, rfl⟩
    · cases hD
  have hks : (ksEnv q scope L f (.ref cda) cc).kindOf "super" = some .globalImplicit := S.s
  have hkc : (ksEnv q scope L f (.ref cda) cc).kindOf "__class__" = some .free := S.c
  refine ks_wpAt_super_base (env := ksEnv q scope L f (.ref cda) cc) hks hkc hat rfl (X _ _ hf) rfl hp rfl (X _ _ hcode) rfl hvs hfile htop ?_
  refine ks_loadName_global S.kind hks (loadGlobal_builtin (env := ksEnv q scope L f (.ref cda) cc) nm.g nm.sg nm.b nm.sb ⟨rfl, ?_⟩)
  refine wpAny_loadName_free S.kind hkc rfl ⟨_, X _ _ hcell, rfl⟩ ?_
  refine wpAny_loadName_local S.kind hka hn hv ?_
  refine ks_wpAny_isType_cls hD1 hD2 ⟨rfl, ?_⟩
  refine ks_wpAny_call_super hD1 hD2 I.at_ I.cls (fun c e => ?_) (looks_mroIn X hsub) hq
  have := I.no
  unfold notCls at this
  rw [e] at this
  exact Bool.noConfusion this
/-- a method's call whose receiver is any expression -/
theorem meth_eval2 {o : Expr} {m : Str} {apos pos : Pos} {es : List Expr} {env : Env} (h2 : M.argsOk es = true) (h3 : (apos.endLine == pos.line) = true) :
    eval (.Call (.Attribute o m apos) es [] pos) env = (do
      let ov ← attributeBase o m env (eval o env)
      standAt apos.atName
      let (f, first) ← holding [ov] (getMethod ov m (do return (← importBound o env).getD true))
      callWith pos f first (backTo pos (starEach es env)) []) := by
  show (do
    let ov ← attributeBase o m env (eval o env)
    standAt apos.atName
    methodCall o m apos pos env ov (es.length + ([] : List Keyword).length) (backTo pos (starEach es env)) (backToKw pos (keywordEach [] env))) = _
  congr 1
  funext ov
  congr 1
  funext _
  unfold methodCall
  rw [M.few_ok h2]
  unfold calleeOf methodCallPos
  rw [h3]
  simp
  rfl
/-- ValueError.__init__ bound to the exception at e, called -/
theorem call_vw {nm q : Str} {C N : Addr} {bs bm : List Value} {hdct : Bool} {sn : List Str} {sub : List Value} {ab : Bool} {col : Option Bool} {dd : Option Addr} {k0 k1 k2 k3 k5 : Option Value} {u e t0 : Addr} {rest : List Value} {Q : Value → Shared → Prop}
    (hC : h.get? C = some (excClassObj nm q C N bs bm hdct sn sub ab col dd k0 k1 k2 k3 k5 "ValueError.__new__")) (he : h.get? e = some (excO C t0)) (hu : h.get? u = some (kxs_mw "ValueError.__init__" e)) (hrest : rest.length ≤ sizeLine)
    (hq : ∀ h' t1, (∀ b o, b ≠ e → h.get? b = some o → h'.get? b = some o) → h'.get? e = some (excO C t1) → Q .none ⟨h', g, d, t, os⟩) :
    wpAny (model prog w) A (call (.ref u) rest) Q E ⟨h, g, d, t, os⟩ := by
  refine wpAny_call (codeAny_of_tree ?_)
  show wpAny _ A.in1 (callAny (.ref u) ⟨rest, []⟩) _ _ _
  simp only [callAny]
  refine wpAny_bind (wpAny_load hu ?_)
  simp only [kxs_mw, show (Value.type "method-wrapper" == Value.type "method" || Value.type "method-wrapper" == Value.type "builtin_function_or_method" || Value.type "method-wrapper" == Value.type "method-wrapper") = true by decide, if_true]
  refine KFB.if_so (by decide) ?_
  refine wpAny_bind (check_bound_init F.excBase_ValueError.toExcCallFacts hC he rfl ?_)
  refine wpAny_bind (wpAny_pure (wpAny_pure ?_))
  refine ⟨plainId_quiet F.excBase_ValueError.init.plain _, codeAny_builtin F.excBase_ValueError.initEntry ?_⟩
  refine exc_init_tree (cls := .ref C) (t0 := t0) (dv := none) (c2 := .none) (c3 := .none) (b4 := .bool false) he hrest fun h' k e' _ => hq h' h.objs.size k e'
end
/-! ### the two texts of __init__ -/
def iA3 (p1 p2 p3 : Pos) (e : Expr) : Arguments := { posonlyargs := [], args := [{ arg := "self", annotation := none, pos := p1 }, { arg := "what", annotation := none, pos := p2 }, { arg := "word", annotation := none, pos := p3 }], vararg := none, kwonlyargs := [], kw_defaults := [], kwarg := none, defaults := [e] }
def iB3 (p0 p1 p2 p3 p4 p5 q1 q2 q3 q4 r1 r2 r3 r4 : Pos) : List Stmt := [.Expr (.Call (.Attribute (.Call (.Name "super" p0) [] [] p1) "__init__" p2) [.Name "what" p3] [] p4) p5,
  .Assign [.Attribute (.Name "self" q1) "what" q2] (.Name "what" q3) q4, .Assign [.Attribute (.Name "self" r1) "word" r2] (.Name "word" r3) r4]
def iS3 : Scope := { kind := .function, names := [(PySem.Str.ofString "self", .local), (PySem.Str.ofString "what", .local), (PySem.Str.ofString "word", .local), (PySem.Str.ofString "__class__", .free), (PySem.Str.ofString "super", .globalImplicit)], isGenerator := false, isCoroutine := false, more := [] }
def iA2 (p1 p2 : Pos) : Arguments := { posonlyargs := [], args := [{ arg := "self", annotation := none, pos := p1 }, { arg := "what", annotation := none, pos := p2 }], vararg := none, kwonlyargs := [], kw_defaults := [], kwarg := none, defaults := [] }
def iB2 (wd : Str) (j : Nat) (p0 p1 p2 p3 p4 p5 p6 : Pos) : List Stmt := [.Expr (.Call (.Attribute (.Call (.Name "super" p0) [] [] p1) "__init__" p2) [.Name "what" p3, .Constant (.str wd) j p6] [] p4) p5]
def iS2 : Scope := { kind := .function, names := [(PySem.Str.ofString "self", .local), (PySem.Str.ofString "what", .local), (PySem.Str.ofString "__class__", .free), (PySem.Str.ofString "super", .globalImplicit)], isGenerator := false, isCoroutine := false, more := [] }
theorem sc3 : SupSc iS3 := ⟨by decide +kernel, by decide +kernel, rfl, rfl, rfl, by decide +kernel⟩
theorem sc2 : SupSc iS2 := ⟨by decide +kernel, by decide +kernel, rfl, rfl, rfl, by decide +kernel⟩
/-- what the written part says of an exception class C over the class at R, and of R's __init__ at fR -/
structure ExcTxt (K : Frag) (prog : Program) (C R fR : Addr) : Prop where
  cls : ∃ nm q N bs bm sn sub ab col dd k0 k1 k2 k3 k5, K.lookup C = some (excClassObj nm q C N bs bm true sn sub ab col dd k0 k1 k2 k3 k5 "ValueError.__new__") ∧ refsVE bm = true
  sa : findIn K (.ref C) "__setattr__" = some (some (.builtin "object.__setattr__"))
  n1 : findIn K (.ref C) "what" = some none
  n2 : findIn K (.ref C) "word" = some none
  subR : mroIn K C (.ref R) = some true
  any : nsIn K cStatics "thirdparty.any" = some none
  supR : ks_superIn K C R "__init__" = some (some (.builtin "ValueError.__init__"))
  subV : subIn K (.ref C) (.type "ValueError") = some true
  clR : ∃ cd, clsIn K R = some cd
  fn : ∃ dT oT d0 n0, K.lookup dT = some oT ∧ oT.data = .seq #[d0] n0 ∧ ∃ qual p1 p2 p3 e p4 p5 p6 p7 p8 p9 q1 q2 q3 q4 r1 r2 r3 r4, SupFn K prog fR R qual (iA3 p1 p2 p3 e) (iB3 p4 p5 p6 p7 p8 p9 q1 q2 q3 q4 r1 r2 r3 r4) iS3 (.ref dT) ∧ (p6.endLine == p8.line) = true
  htop : (prog.main.scope.names.lookup ("super" : Str)).isSome = false
/-- what __init__ leaves of a fresh exception at x -/
structure InitEnd (h h' : Heap) (x C dx t1 : Addr) (v wd : Value) : Prop where
  keep : ∀ b o, b ≠ x → h.get? b = some o → h'.get? b = some o
  obj : h'.get? x = some { cls := .ref C, dict := some dx, data := .fields #[.ref t1, .none, .none, .none, .bool false, .none] }
  dbig : h.objs.size ≤ dx
  dne : dx ≠ x
  ns : h'.Ns1 dx (fun y => if y = "word" then some wd else if y = "what" then some v else none)
theorem px_ve : ∀ l : List Value, HandSPX.refsVE l = true → PX.refsVE l = true
  | [], e => absurd e (by decide)
  | a :: r, e => by
    rcases refsVE_cases (a :: r) e with ⟨c, r', q, h⟩ | q
    · obtain ⟨rfl, rfl⟩ := List.cons.inj q
      exact px_ve r h
    · rw [q]
      decide +kernel
theorem ns_at {h h' : Heap} {L : Addr} {m : Str → Option Value} (n : h.Ns L m) (k : ∀ o, h.get? L = some o → h'.get? L = some o) : h'.Ns L m := by
  obtain ⟨o, es, ep, ho, r⟩ := n
  exact ⟨o, es, ep, k o ho, r⟩
theorem kept_but {K : Frag} {h h' : Heap} {x : Addr} (X : K.In h) (hx : K.lookup x = none) (k : ∀ b o, b ≠ x → h.get? b = some o → h'.get? b = some o) : K.In h' := fun a o e =>
  k a o (fun z => by rw [z, hx] at e; cases e) (X a o e)
theorem ldS {M : Model} {A : Around} {E : Value → Shared → Prop} {s : Shared} {q : Str} {scope : Scope} {L f cc : Addr} {cd : Value} {m : Str → Option Value} {x : Str} {pos : Pos} {v : Value} {Q : Value → Shared → Prop} (S : SupSc scope) (hl : scope.names.lookup x = some .local) (hn : s.heap.Ns L m) (hv : m x = some v) (h : Q v s)
    (hd : (x == ("__debug__" : Str)) = false := by decide) : wpAny M A (eval (.Name x pos) (ksEnv q scope L f cd cc)) Q E s := wpAny_Name (wpAny_loadName_local S.kind hl hn hv h) hd
section
variable {prog : Program} {w : World} {A : Around} {R : Result → Shared → Prop} {K : Frag} {mg mb : Str → Option Value} {C Rc fR : Addr} {s : Shared}
theorem ref_init (T : ExcTxt K prog C Rc fR) {x t0 : Addr} {v wd : Value} (X : K.In s.heap) (nm : Nm s.heap mg mb) (hlim : s.heap.NoLimit) (hx : s.heap.get? x = some (excO C t0)) (hnx : K.lookup x = none) (hroom : A.depth < recursionLimit)
    (hq : ∀ h' tk dx t1, InitEnd s.heap h' x C dx t1 v wd → R (.ok (.ret .none)) { s with heap := h', toks := tk }) :
    codeAny (model prog w) A (.call (.ref fR) ⟨[.ref x, v, wd], []⟩) R s := by
  obtain ⟨dT, oT, d0, n0, hdT, hdT2, qual, p1, p2, p3, e, p4, p5, p6, p7, p8, p9, q1, q2, q3, q4, r1, r2, r3, r4, F, hline⟩ := T.fn
  obtain ⟨oc, od, kV, doc, pm, an, cda, ct, osl, cc, ccl, cdd, vs, ccs, file, tf, cl, cld, csl, lk, hcd, hcode, hvs, hfile, hcell⟩ := F.ex
  obtain ⟨nm0, q, N, bs, bm, sn, sub, ab, col, dd, k0, k1, k2, k3, k5, hC, hbm⟩ := T.cls
  have hcl : clsIn K C = some { name := nm0, bases := bs, mro := .ref C :: bm, ns := N, qualname := q, hasDict := true, slotNames := sn, subclasses := sub, abstract := ab, collection := col, hasDel := false } := by unfold clsIn; rw [hC] <;> rfl
  obtain ⟨cdR, hcR⟩ := T.clR
  obtain ⟨h, g, d, t, os⟩ := s
  dsimp only at X nm hlim hx hq
  refine ks_codeAny_call_defAt (fd := ksFn "__init__" qual (iA3 p1 p2 p3 e) (iB3 p4 p5 p6 p7 p8 p9 q1 q2 q3 q4 r1 r2 r3 r4) iS3 (.ref dT) kV doc pm an (.ref cda) ct cc) (body := iB3 p4 p5 p6 p7 p8 p9 q1 q2 q3 q4 r1 r2 r3 r4) (binds := [("self", .ref x), ("what", v), ("word", wd)])
    hroom (X _ _ lk) rfl hlim (codeRec_of X hcd) rfl (BindsTo.of_defaults (T := dT) rfl (X _ _ hdT) hdT2 (by first | rfl | with_unfolding_all rfl) (by first | rfl | with_unfolding_all rfl)) sc3.nocell (fun y hy => by
      simp only [List.mem_cons, List.not_mem_nil, or_false] at hy
      rcases hy with rfl | rfl | rfl
      · exact (by decide +kernel : iS3.names.lookup ("self" : Str) = some .local)
      · exact (by decide +kernel : iS3.names.lookup ("what" : Str) = some .local)
      · exact (by decide +kernel : iS3.names.lookup ("word" : Str) = some .local)) (fun h₁ hns k₁ => ?_) rfl rfl rfl
  dsimp only at hns k₁
  have X₁ : K.In h₁ := X.keeps k₁
  have hx₁ := k₁ _ _ hx
  have xL : h.objs.size ≠ x := Nat.ne_of_gt (Heap.lt_size hx)
  have I₁ : InstAt h₁ x (excO C t0) C none := ⟨hx₁, rfl, rfl, trivial⟩
  show _root_.PySem.wpAt _ _ (.func _ (ksEnv qual iS3 h.objs.size fR (.ref cda) cc)) (execs _ (ksEnv qual iS3 h.objs.size fR (.ref cda) cc)) _ _ _
  refine ks_wpAt_execs_cons (ks_wpAt_Expr_any (ks_wpAt_MethodCall ?_ (meth_eval2 rfl hline)) rfl rfl)
  refine sup_node (x := x) (C := C) (ox := excO C t0) (odx := none) (D := Rc) X₁ hns (nm.keeps k₁) lk rfl (by first | rfl | with_unfolding_all rfl | kernel_rfl) I₁ hcode hvs hfile hcell hcR T.subR (by decide +kernel : (("__init__" : Str) == ("__class__" : Str)) = false) sc3 (by decide +kernel : iS3.names.lookup ("self" : Str) = some .local) T.htop fun h₂ hso k₂ => ?_
  have X₂ : K.In h₂ := X₁.keeps k₂
  have I₂ : InstAt h₂ x (excO C t0) C none := ⟨k₂ _ _ hx₁, rfl, rfl, trivial⟩
  have hm := T.supR
  unfold ks_superIn at hm
  rw [hcl] at hm
  have hcl2 : Looks (model prog w) h₂ (mroOf (.ref C)) (Value.ref C :: bm) := (looks_clsIn X₂ hcl).andThen .now
  refine kxs_getMethod kxs_ValueError hso (looks_opaque X₂ T.any) (l₀ := Value.ref C :: bm) hcl2 rfl X₂ hm (I₂.type.andThen (looks_subIn X₂ T.subV)) (ks_ne X₂ I₂ hcl) (by decide +kernel) ?_
  have hu : (h₂.push (kxs_mw "ValueError.__init__" x)).get? h₂.objs.size = some (kxs_mw "ValueError.__init__" x) := Heap.get?_push_at rfl rfl
  have k₃ : ∀ b o, h₂.get? b = some o → (h₂.push (kxs_mw "ValueError.__init__" x)).get? b = some o := fun b o e => Heap.get?_push_of_some _ e
  have hns₃ : (h₂.push (kxs_mw "ValueError.__init__" x)).Ns h.objs.size (fun y => [(PySem.Str.ofString "self", Value.ref x), (PySem.Str.ofString "what", v), (PySem.Str.ofString "word", wd)].reverse.lookup y) := ns_at hns fun o e => k₃ _ _ (k₂ _ _ e)
  refine kxs_callWith (i := "ValueError.__init__") (x := x) rfl (evalArgs_plain ?_)
  refine Calls.spliced_cons (ldS sc3 (by decide +kernel) hns₃ (v := v) (by first | rfl | with_unfolding_all rfl | kernel_rfl) ?_)
  refine Calls.spliced_nil ⟨hu, ?_⟩
  refine call_vw (t0 := t0) (X₂.keeps k₃ _ _ hC) (k₃ _ _ I₂.at_) hu (by rw [sizeLine_eq]; exact (by decide : 1 ≤ 16777216)) fun h₄ t1 k₄ hx₄ => ?_
  have k04 : ∀ b o, b ≠ x → h.get? b = some o → h₄.get? b = some o := fun b o hb e => k₄ b o hb (k₃ b o (k₂ b o (k₁ b o e)))
  have X₄ : K.In h₄ := kept_but X hnx k04
  have hns₄ : h₄.Ns h.objs.size (fun y => [(PySem.Str.ofString "self", Value.ref x), (PySem.Str.ofString "what", v), (PySem.Str.ofString "word", wd)].reverse.lookup y) := ns_at hns₃ fun o e => k₄ _ _ xL e
  have big4 : h.objs.size < h₄.objs.size := hns₄.lt
  -- self.what = what
  refine ks_wpAt_execs_cons (ks_wpAt_Assign_Attr (wpAt_of_wpAny ?_))
  refine ldS sc3 (by decide +kernel) hns₄ (v := v) (by first | rfl | with_unfolding_all rfl | kernel_rfl) ?_
  refine ldS sc3 (by decide +kernel) hns₄ (v := .ref x) (by first | rfl | with_unfolding_all rfl | kernel_rfl) ?_
  refine set_plain X₄ (ox := excO C t1) (od := none) ⟨hx₄, rfl, rfl, trivial⟩ T.sa ?_
  refine exc_osa X₄ hx₄ hcl (show refsVE (.ref C :: bm) = true from hbm) rfl T.n1 (fun h₅ tk₅ dx k₅ dn dne hx₅ hn₅ => ?_)
  have k05 : ∀ b o, b ≠ x → h.get? b = some o → h₅.get? b = some o := fun b o hb e => k₅ b o hb (k04 b o hb e)
  have X₅ : K.In h₅ := kept_but X hnx k05
  have hns₅ : h₅.Ns h.objs.size (fun y => [(PySem.Str.ofString "self", Value.ref x), (PySem.Str.ofString "what", v), (PySem.Str.ofString "word", wd)].reverse.lookup y) := ns_at hns₄ fun o e => k₅ _ _ xL e
  -- self.word = word
  refine ks_wpAt_execs_cons (ks_wpAt_Assign_Attr (wpAt_of_wpAny ?_))
  refine ldS sc3 (by decide +kernel) hns₅ (v := wd) (by first | rfl | with_unfolding_all rfl | kernel_rfl) ?_
  refine ldS sc3 (by decide +kernel) hns₅ (v := .ref x) (by first | rfl | with_unfolding_all rfl | kernel_rfl) ?_
  have hw5 : Within (fun y => if y = ("what" : Str) then some v else none) [("what" : Str)] := Within.cons _ _ Within.nil
  obtain ⟨oD, esD, epD, hoD, hdD, hcD⟩ := hn₅.count hw5
  refine set_plain X₅ (ox := { cls := .ref C, dict := some dx, data := .fields #[.ref t1, .none, .none, .none, .bool false, .none] }) (od := some oD) ⟨hx₅, rfl, rfl, hoD⟩ T.sa ?_
  refine PX.osa_old X₅ hx₅ hn₅ hw5 (by decide) hcl (px_ve (.ref C :: bm) hbm) rfl T.n2 (fun h₆ tk₆ k₆ hn₆ => ?_)
  have dL : h₄.objs.size ≤ dx := dn
  refine wpAt_of_wpAny (wpAny_execs_nil ?_)
  refine hq h₆ tk₆ dx t1 ⟨fun b o hb e => k₆ b o (Nat.ne_of_lt (Nat.lt_of_lt_of_le (Nat.lt_trans (Heap.lt_size e) big4) dL)) (k05 b o hb e), k₆ _ _ dne.symm hx₅, Nat.le_trans (Nat.le_of_lt big4) dL, dne, hn₆⟩
/-- the subclass's __init__ at fC -/
structure SubTxt (K : Frag) (prog : Program) (C Rc fR fC : Addr) (wd : Str) : Prop extends ExcTxt K prog C Rc fR where
  subC : mroIn K C (.ref C) = some true
  supC : ks_superIn K C C "__init__" = some (some (.ref fR))
  fnR : fnIn K fR = true
  tR : typeIn K (.ref fR) = some (.type "function")
  iC : findIn K (.ref C) "__init__" = some (some (.ref fC))
  tC : typeIn K (.ref fC) = some (.type "function")
  kC : keepIn K (.ref C) = true
  fnC : ∃ qual p1 p2 j p4 p5 p6 p7 p8 p9 p10, SupFn K prog fC C qual (iA2 p1 p2) (iB2 wd j p4 p5 p6 p7 p8 p9 p10) iS2 .none ∧ (p6.endLine == p8.line) = true
theorem sub_init {fC : Addr} {wd : Str} (T : SubTxt K prog C Rc fR fC wd) {x t0 : Addr} {v : Value} (X : K.In s.heap) (nm : Nm s.heap mg mb) (hlim : s.heap.NoLimit) (hx : s.heap.get? x = some (excO C t0)) (hnx : K.lookup x = none) (hroom : A.depth + 1 < recursionLimit)
    (hq : ∀ h' tk dx t1 tw, InitEnd s.heap h' x C dx t1 v (.str wd tw) → R (.ok (.ret .none)) { s with heap := h', toks := tk }) :
    codeAny (model prog w) A (.call (.ref fC) ⟨[.ref x, v], []⟩) R s := by
  obtain ⟨qual, p1, p2, j, p4, p5, p6, p7, p8, p9, p10, F, hline⟩ := T.fnC
  obtain ⟨oc, od, kV, doc, pm, an, cda, ct, osl, cc, ccl, cdd, vs, ccs, file, tf, cl, cld, csl, lk, hcd, hcode, hvs, hfile, hcell⟩ := F.ex
  obtain ⟨nm0, q, N, bs, bm, sn, sub, ab, col, dd, k0, k1, k2, k3, k5, hC, hbm⟩ := T.cls
  have hcl : clsIn K C = some { name := nm0, bases := bs, mro := .ref C :: bm, ns := N, qualname := q, hasDict := true, slotNames := sn, subclasses := sub, abstract := ab, collection := col, hasDel := false } := by unfold clsIn; rw [hC] <;> rfl
  obtain ⟨h, g, d, t, os⟩ := s
  dsimp only at X nm hlim hx hq
  refine ks_codeAny_call_defAt (fd := ksFn "__init__" qual (iA2 p1 p2) (iB2 wd j p4 p5 p6 p7 p8 p9 p10) iS2 .none kV doc pm an (.ref cda) ct cc) (body := iB2 wd j p4 p5 p6 p7 p8 p9 p10) (binds := [("self", .ref x), ("what", v)])
    (Nat.lt_of_succ_lt hroom) (X _ _ lk) rfl hlim (codeRec_of X hcd) rfl (BindsTo.of_eq (by first | rfl | with_unfolding_all rfl)) sc2.nocell (fun y hy => by
      simp only [List.mem_cons, List.not_mem_nil, or_false] at hy
      rcases hy with rfl | rfl
      · exact (by decide +kernel : iS2.names.lookup ("self" : Str) = some .local)
      · exact (by decide +kernel : iS2.names.lookup ("what" : Str) = some .local)) (fun h₁ hns k₁ => ?_) rfl rfl rfl
  dsimp only at hns k₁
  have X₁ : K.In h₁ := X.keeps k₁
  have hx₁ := k₁ _ _ hx
  have xL : h.objs.size ≠ x := Nat.ne_of_gt (Heap.lt_size hx)
  have I₁ : InstAt h₁ x (excO C t0) C none := ⟨hx₁, rfl, rfl, trivial⟩
  show _root_.PySem.wpAt _ _ (.func _ (ksEnv qual iS2 h.objs.size fC (.ref cda) cc)) (execs _ (ksEnv qual iS2 h.objs.size fC (.ref cda) cc)) _ _ _
  refine ks_wpAt_execs_cons (ks_wpAt_Expr_any (ks_wpAt_MethodCall ?_ (meth_eval2 rfl hline)) rfl rfl)
  refine sup_node (x := x) (C := C) (ox := excO C t0) (odx := none) (D := C) X₁ hns (nm.keeps k₁) lk rfl (by first | rfl | with_unfolding_all rfl | kernel_rfl) I₁ hcode hvs hfile hcell hcl T.subC (by decide +kernel : (("__init__" : Str) == ("__class__" : Str)) = false) sc2 (by decide +kernel : iS2.names.lookup ("self" : Str) = some .local) T.htop fun h₂ hso k₂ => ?_
  have X₂ : K.In h₂ := X₁.keeps k₂
  have I₂ : InstAt h₂ x (excO C t0) C none := ⟨k₂ _ _ hx₁, rfl, rfl, trivial⟩
  have hm := T.supC
  unfold ks_superIn at hm
  rw [hcl] at hm
  have hcl2 : Looks (model prog w) h₂ (mroOf (.ref C)) (Value.ref C :: bm) := (looks_clsIn X₂ hcl).andThen .now
  obtain ⟨dT, oT, d0, n0, hdT, hdT2, qualR, _, _, _, _, _, _, _, _, _, _, _, _, _, _, _, _, _, _, FR, _⟩ := T.fn
  obtain ⟨ofR, hofR, hofR2⟩ : ∃ of, h₂.get? fR = some of ∧ of.cls = .type "function" := by
    have ht' : (K.lookup fR).map (·.cls) = some (.type "function") := T.tR
    cases z : K.lookup fR with
    | none => rw [z] at ht'; cases ht'
    | some of => rw [z] at ht'; exact ⟨of, X₂ _ _ z, Option.some.inj ht'⟩
  refine ks_wpAny_getMethod_super hso (looks_opaque X₂ T.any) (l₀ := Value.ref C :: bm) hcl2 rfl X₂ hm hofR hofR2 (ks_ne X₂ I₂ hcl) (by decide +kernel) ?_
  have hu : (h₂.push (methodObj (.ref fR) (.ref x))).get? h₂.objs.size = some (methodObj (.ref fR) (.ref x)) := Heap.get?_push_at rfl rfl
  have k₃ : ∀ b o, h₂.get? b = some o → (h₂.push (methodObj (.ref fR) (.ref x))).get? b = some o := fun b o e => Heap.get?_push_of_some _ e
  have k13 : ∀ b o, h.get? b = some o → (h₂.push (methodObj (.ref fR) (.ref x))).get? b = some o := fun b o e => k₃ b o (k₂ b o (k₁ b o e))
  have X₃ := X.keeps k13
  have hns₃ : (h₂.push (methodObj (.ref fR) (.ref x))).Ns h.objs.size (fun y => [(PySem.Str.ofString "self", Value.ref x), (PySem.Str.ofString "what", v)].reverse.lookup y) := ns_at hns fun o e => k₃ _ _ (k₂ _ _ e)
  refine callWith_of (P := MethP K h₂.objs.size fR (.ref x)) rfl (keeps_M T.fnR) (evalArgs_plain ?_)
  refine Calls.spliced_cons (ldS sc2 (by decide +kernel) hns₃ (v := v) (by first | rfl | with_unfolding_all rfl | kernel_rfl) ?_)
  refine Calls.spliced_cons (wpAny_Constant_str (k := j) (pos := p10) ?_)
  refine Calls.spliced_nil ⟨⟨hu, X₃⟩, ?_⟩
  refine wpAny_call (method_call hu ?_)
  refine ref_init (mg := mg) (mb := mb) T.toExcTxt (t0 := t0) X₃ (nm.keeps k13) (hlim.keeps k13) (k13 _ _ hx) hnx hroom fun h' tk dx t1 ie => ?_
  refine wpAt_of_wpAny (wpAny_execs_nil ?_)
  exact hq h' tk dx t1 _ ⟨fun b o hb e => ie.keep b o hb (k13 b o e), ie.obj, Nat.le_trans (Nat.le_of_lt (Nat.lt_of_lt_of_le hns₃.lt (Nat.le_refl _))) ie.dbig, ie.dne, ie.ns⟩
/-- a made exception -/
structure OwnMade (h h' : Heap) (e C d : Addr) (v wd : Value) : Prop where
  keep : ∀ b o, h.get? b = some o → h'.get? b = some o
  new : h.objs.size ≤ e
  obj : ∃ oe vs, h'.get? e = some oe ∧ oe.cls = .ref C ∧ oe.dict = some d ∧ oe.data = .fields vs ∧ vs[1]? = some .none ∧ vs[2]? = some .none
  dbig : h.objs.size ≤ d
  dne : d ≠ e
  ns : h'.Ns1 d (fun y => if y = "word" then some wd else if y = "what" then some v else none)
theorem exc_made {fC : Addr} {wd : Str} (T : SubTxt K prog C Rc fR fC wd) {v : Value} (X : K.In s.heap) (nm : Nm s.heap mg mb) (hlim : s.heap.NoLimit) (hroom : A.depth + 2 < recursionLimit)
    (hq : ∀ h' tk e d tw, OwnMade s.heap h' e C d v (.str wd tw) → R (.ok (.ret (.ref e))) { s with heap := h', toks := tk }) :
    codeAny (model prog w) A (.call (.ref C) ⟨[v], []⟩) R s := by
  obtain ⟨nm0, q, N, bs, bm, sn, sub, ab, col, dd, k0, k1, k2, k3, k5, hC, hbm⟩ := T.cls
  obtain ⟨hp, g, dr, tk, os⟩ := s
  have k : ∀ b o, hp.get? b = some o → ((hp.push (kdv_tup [v])).push (excO C hp.objs.size)).get? b = some o := fun b o e => Heap.get?_push_of_some _ (Heap.get?_push_of_some _ e)
  have hget : ((hp.push (kdv_tup [v])).push (excO C hp.objs.size)).get? (hp.objs.size + 1) = some (excO C hp.objs.size) := by heap_get
  have hnx : K.lookup (hp.objs.size + 1) = none := by
    cases e : K.lookup (hp.objs.size + 1) with
    | none => rfl
    | some o =>
      have z : hp.get? (hp.objs.size + 1) = some o := X _ _ e
      exact absurd (Nat.lt_of_succ_lt (Heap.lt_size z)) (Nat.lt_irrefl _)
  refine call_own F.excBase_ValueError (fun X => refsVE_contains X bm hbm) (X _ _ hC) (looks_findIn X T.iC) (fun self => bind_fn X self T.tC) (by rw [sizeLine_eq]; exact (by decide : 1 ≤ 16777216)) ?_
  refine sub_init (mg := mg) (mb := mb) (s := ⟨(hp.push (kdv_tup [v])).push (excO C hp.objs.size), g, dr, tk, os⟩) T (X.keeps k) (nm.keeps k) (hlim.keeps k) hget hnx ?_ fun h' tk' dx t1 tw ⟨k', hx, dn, dne, hns⟩ => ?_
  · show A.depth + 1 + 1 < recursionLimit
    exact hroom
  · have old : ∀ b o, hp.get? b = some o → h'.get? b = some o := fun b o e => k' b o (Nat.ne_of_lt (Nat.lt_succ_of_lt (Heap.lt_size e))) (k b o e)
    have z : hp.objs.size + 1 + 1 ≤ dx := by
      first
        | (simpa only [Heap.size_push] using dn)
        | exact dn
        | (have q := dn; rw [Heap.size_push, Heap.size_push] at q; exact q)
    exact ⟨rfl, hq h' tk' (hp.objs.size + 1) dx tw ⟨old, Nat.le_succ _, ⟨_, _, hx, rfl, rfl, rfl, rfl, rfl⟩, Nat.le_trans (Nat.le_trans (Nat.le_succ _) (Nat.le_succ _)) z, dne, hns⟩⟩
end
end MR
namespace M
open PySem PySem.Spec PyProof.Rows L2
theorem relO_xfs {v : V} {v' : Value} {w : Str} {tw : Tok} (r : RelV v v') (f : Str) : RelO (List.lookup f (xfs v w)) (if f = "word" then some (.str w tw) else if f = "what" then some v' else none) := by
  unfold xfs
  by_cases h1 : f = "word"
  · subst h1
    rw [if_pos rfl]
    have q : List.lookup ("word" : Str) [(("word" : Str), V.str w), ("what", v)] = some (.str w) := by simp [List.lookup]
    rw [q]
    exact ⟨tw, rfl⟩
  · rw [if_neg h1]
    have q1 : (f == ("word" : Str)) = false := by simpa using h1
    by_cases h2 : f = "what"
    · subst h2
      rw [if_pos rfl]
      have q : List.lookup ("what" : Str) [(("word" : Str), V.str w), ("what", v)] = some v := by simp [List.lookup, q1]
      rw [q]
      exact r
    · rw [if_neg h2]
      have q2 : (f == ("what" : Str)) = false := by simpa using h2
      have q : List.lookup f [(("word" : Str), V.str w), ("what", v)] = none := by simp [List.lookup, q1, q2]
      rw [q]
      trivial
theorem pmk_exc {X : Cx} {C Rc fR fC : Addr} {wd x : Str} {a : Expr} {ta : TA} {p pos : Pos} {k : Nat} (T : MR.SubTxt X.K X.prog C Rc fR fC wd) (gC : X.mg x = some (.ref C)) (gs : X.mg "super" = none) (exC : PySem.W.subIn X.K (.ref C) (.type "BaseException") = some true) (tyC : PySem.W.typeIn X.K (.ref C) = some (.type "type"))
    (hr : Room (k + 2) X.A) (hg : Gl X x) (hd : plainName x = true) (hs : noStar a = true) (ha : PA X [a] ta) : L2N.PMk X (.Call (.Name x p) [a] [] pos) (tMkX C wd ta) := by
  intro pins s σ H Q I h
  refine wpAny_Call_Name_kw (ld_glob I hg gC ?_ (plain_ok hd).1)
  refine PySem.W.callWith_K (h₀ := X.base) I.ok.mod.kin T.kC (thn (ha.run pos pins s σ H _ I h) fun us s1 hh => ?_) (star_one hs) rfl
  obtain ⟨vs, H1, I1, r1, v, ev, q1⟩ := hh
  subst ev
  refine ⟨I1.kIn, ?_⟩
  cases r1 with
  | cons rv rn =>
    rename_i v' us'
    cases rn
    show wpAny _ _ (call (.ref C) [v']) _ _ _
    have hlim := I1.nolimit
    obtain ⟨mb, b1, b2⟩ := I1.ok.mod.blt
    have nm : MR.Nm s1.heap X.mg mb := ⟨I1.ok.mod.glob.keeps I1.bk, b1.keeps I1.bk, gs, (b2 _ (by decide +kernel)).trans (by decide +kernel)⟩
    obtain ⟨hp, g, dr, tk, os⟩ := s1
    refine wpAny_call (MR.exc_made (mg := X.mg) (mb := mb) T I1.kIn nm hlim (by have := hr.dp; omega) fun h' tk' e d tw M => ?_)
    show L2N.MkP X pins σ Q (.ref e) ⟨h', g, dr, tk', os⟩
    obtain ⟨oe, fv, hoe, hc, hd, hdat, h1, h2⟩ := M.obj
    have hns := M.ns
    obtain ⟨G', g1, g2⟩ := restrict h' fun b => decide (b ≠ e)
    have gk : ∀ b, b ≠ e → G'.get? b = h'.get? b := fun b hb => g1 b (decide_eq_true hb)
    have ge : G'.get? e = none := g2 e (by simp)
    have old : ∀ b o, hp.get? b = some o → G'.get? b = some o := fun b o q => (gk b (Nat.ne_of_lt (Nat.lt_of_lt_of_le (Heap.lt_size q) M.new))).trans (M.keep b o q)
    have ob : ObjOk X.prog X.w (upd H1 d (.xd (xfs v wd))) G' d (.xd (xfs v wd)) :=
      ⟨_, hns.at (fun o q => (gk d M.dne).trans q), fun f => relO_xfs rv f⟩
    have J : Inv X pins σ (upd H1 d (.xd (xfs v wd))) ⟨G', g, dr, tk', os⟩ := I1.laid (t' := tk') old M.dbig ob
    refine ⟨e, oe, fv, ⟨G', g, dr, tk', os⟩, _, .ref C, some d, rfl, J, fun b o q => ?_, ge, hoe, ⟨hc, hd, fun vs e => by rw [hdat] at e; cases e; exact h2⟩, hdat, h1, ?_, rfl, I1.bare, raises_own exC tyC, q1 d (I1.hok.fresh M.dbig)⟩
    · by_cases hb : b = e
      · have q' : G'.get? b = some o := q
        rw [hb, ge] at q'; cases q'
      · exact (gk b hb).symm.trans q
    · rw [upd_ne (Ne.symm M.dne)]
      exact I1.hok.fresh M.new
end M
end
/-! ## MTup -/
section
set_option linter.all false
set_option maxRecDepth 100000
set_option maxHeartbeats 4000000
/-! tuple(d), d a written dict with texts as keys. -/
namespace M
open PySem PySem.Spec PyProof.Rows L2
section
variable {prog : Program} {w : World} {A : Around} {E : Value → Shared → Prop} {s : Shared} {r d : Addr} {n : Nat} {P : Nat → Value → Prop} {OK : Heap → Prop}
theorem collect_src {Q : List Value → Shared → Prop} (K : PySem.W.KdlSrc prog w "dict" r d n P OK) (hh : A.handled = none) (hok : OK s.heap) (hn : n ≤ sizeLine)
    (hQ : ∀ (h' : Heap) (tk : Nat) (acc : Array Value), (∀ b o, s.heap.get? b = some o → h'.get? b = some o) → ItemsOf P acc n → Q acc.toList { s with heap := h', toks := tk }) :
    wpAny (model prog w) A (collect (.ref r)) Q E s := by
  unfold collect
  refine wpAny_bind (wpAny_runValue (codeAny_builtin F.entry_proto_collect ?_))
  rw [Around.under_plainId F.plain_proto_collect _]
  show wpAny _ A.in1 (newList [] >>= fun l => again (.builtin "list.__iadd__" ⟨[l, .ref r], []⟩)) _ _ s
  refine wpAny_bind (wpAny_newObj_type ?_)
  refine wpAny_pure ⟨plainId_quiet F.plain_list_iadd _, codeAny_builtin F.entry_list_iadd ?_⟩
  rw [Around.under_plainId F.plain_list_iadd _]
  show wpAny _ A.in1 (Builtin.List.listExtendWith (.ref s.heap.objs.size) (.ref r) (.ref s.heap.objs.size)) _ _ _
  have hS : (s.heap.push { cls := .type "list", data := .seq ([] : List Value).toArray }).get? s.heap.objs.size = some { cls := .type "list", data := .seq #[] 0 } := Heap.get?_push_size _ rfl
  have hlt := K.there _ hok
  refine wpAny_mono (PySem.W.kdl_extend (A := A) (R := fun rr s' => rr = .ok (.ret (.ref s.heap.objs.size)) ∧ ∃ (h' : Heap) (tk : Nat) (acc : Array Value) (c' : Nat), s' = { s with heap := h', toks := tk } ∧
      (∀ b o, s.heap.get? b = some o → h'.get? b = some o) ∧ h'.get? s.heap.objs.size = some { cls := .type "list", dict := none, data := .seq acc c', slots := #[] } ∧ ItemsOf P acc n)
    (s := { s with heap := s.heap.push { cls := .type "list", data := .seq ([] : List Value).toArray } }) K hh (K.keep _ _ hok fun b _ o e => Heap.get?_push_of_some _ e) s.heap.objs.size (Nat.ne_of_gt hlt.1) (Nat.ne_of_gt hlt.2) _ 0 hS
    (fun h' tk acc c' hk e hi => ⟨rfl, h', tk, acc, c', rfl, fun b o q => hk b o (Nat.ne_of_lt (Heap.lt_size q)) (Heap.get?_push_of_some _ q), e, hi⟩) hn) (fun fin s' h => ?_) (fun e s' h => ?_)
  · cases fin with
    | done f =>
      obtain ⟨e, h', tk, acc, c', rfl, hk, hS', hi⟩ := h
      cases e
      show wpAny _ A (load s.heap.objs.size >>= _) _ _ _
      exact wpAny_bind (wpAny_load hS' (wpAny_pure (hQ h' tk acc hk hi)))
    | again c' =>
      refine ⟨h.1, codeAny_mono h.2 fun rr s'' hr' => ?_⟩
      obtain ⟨rfl, h', tk, acc, c', rfl, hk, hS', hi⟩ := hr'
      show wpAny _ A (load s.heap.objs.size >>= _) _ _ _
      exact wpAny_bind (wpAny_load hS' (wpAny_pure (hQ h' tk acc hk hi)))
  · exact absurd h.1 (by simp)
theorem code_tuple_new_src {Q₁ : Value → Shared → Prop} (K : PySem.W.KdlSrc prog w "dict" r d n P OK) (hh : A.handled = none) (hok : OK s.heap) (hn : n ≤ sizeLine)
    (h : ∀ (h' : Heap) (tk : Nat) (acc : Array Value), (∀ b o, s.heap.get? b = some o → h'.get? b = some o) → ItemsOf P acc n →
      Q₁ (.ref h'.objs.size) { s with heap := h'.push { cls := .type "tuple", data := .seq acc }, toks := tk }) :
    codeAny (model prog w) A (.call (.builtin "tuple.__new__") ⟨[.type "tuple", .ref r], []⟩) (wants Q₁ E) s := by
  refine codeAny_of_tree ?_
  show wpAny _ A.in1 (do checkBuiltinCall "tuple.__new__" ⟨[.type "tuple", .ref r], []⟩; again (.builtin "tuple.__new__" ⟨[.type "tuple", .ref r], []⟩)) _ _ s
  refine wpAny_bind (wpAny_of_eq (F.newCall_tuple_1 _) (wpAny_pure ⟨plainId_quiet F.plain_tuple_new _, codeAny_builtin F.entry_tuple_new ?_⟩))
  rw [Around.under_plainId F.plain_tuple_new _]
  have hsub := sub_tuple_self
  have hinit := init_tuple_lookup
  have hmh := madeHere_tuple
  have hTI : s.TypeIs (.ref r) "dict" := K.type s hok
  have hh1 : A.in1.handled = none := hh
  wp_walk using wpAny_typeOf hTI, collect_src (A := A.in1) K hh1 hok hn
  intro h' tk acc hk hacc
  show wpAny _ _ (Builtin.Tuple.tupleExact acc.toList.toArray >>= fun v => ret v) _ _ _
  unfold Builtin.Tuple.tupleExact
  refine wpAny_bind (wpAny_newObj_type ?_ (by show acc.toList.toArray.size ≤ sizeLine; simp only [Array.toArray_toList]; rw [hacc.1]; exact hn))
  refine wpAny_pure ?_
  have e : acc.toList.toArray = acc := by simp
  rw [e]
  exact h h' tk acc hk hacc
theorem call_tuple_src {Q : Value → Shared → Prop} (K : PySem.W.KdlSrc prog w "dict" r d n P OK) (hh : A.handled = none) (hok : OK s.heap) (hn : n ≤ sizeLine)
    (hQ : ∀ (h' : Heap) (tk : Nat) (acc : Array Value), (∀ b o, s.heap.get? b = some o → h'.get? b = some o) → ItemsOf P acc n →
      Q (.ref h'.objs.size) { s with heap := h'.push { cls := .type "tuple", data := .seq acc }, toks := tk }) :
    wpAny (model prog w) A (call (.type "tuple") [.ref r]) Q E s := by
  refine callType_codes (Q₁ := fun obj s₁ => s₁.TypeIs obj "tuple" ∧ Q obj s₁) F.called_tuple (F.typeCall_tuple_1 _) F.entry_object_init
    (code_tuple_new_src (A := A.in1) K hh hok hn fun h' tk acc hk hacc => ⟨⟨_, Heap.get?_push_size _ rfl, rfl⟩, hQ h' tk acc hk hacc⟩) fun obj s₁ h₁ => ?_
  exact ⟨h₁.1, F.args_object_init_2 obj _, object_init_meets F.called_tuple.init.lookup F.called_tuple.made (by decide) prog w A.in1 _ s₁ ⟨h₁.1, rfl, h₁.2⟩⟩
end
/-- the text of an entry's key -/
def keyS (e : DictEntry) : Option Str := match e.key with
  | .str x _ => some x
  | _ => none
theorem pairs_lit {prog : Program} {w : World} : ∀ {es : List DictEntry} {ks : List Str}, es.map keyS = ks.map some → PySem.Pairs (strKind prog w) es (ks.zip (es.map (·.val)))
  | [], [], _ => .nil
  | [], _ :: _, h => by cases h
  | _ :: _, [], h => by cases h
  | e :: es, k :: ks, h => by
    simp only [List.map_cons, List.cons.injEq] at h
    refine .cons ?_ rfl (pairs_lit h.2)
    have h1 := h.1
    unfold keyS at h1
    split at h1
    · rename_i x t hx
      simp only [Option.some.injEq] at h1
      subst h1
      rw [hx]
      exact strKind_is prog w x t
    · cases h1
theorem vals_of {prog : Program} {w : World} {kvs : List (Str × Value)} : ∀ {l : List Value} {ks : List Str}, (∀ (j : Nat) (v : Value), l[j]? = some v → ∃ k x, kvs[j]? = some (k, x) ∧ (strKind prog w).is k v = true) → kvs.map (·.1) = ks → l.length = ks.length → Vals (ks.map V.str) l := by
  intro l ks h e hl
  subst e
  rw [List.length_map] at hl
  induction kvs generalizing l with
  | nil =>
    cases l with
    | nil => exact .nil
    | cons _ _ => cases hl
  | cons p kvs ih =>
    cases l with
    | nil => cases hl
    | cons v l =>
      refine .cons ?_ (ih (fun j u hu => h (j + 1) u hu) (by simpa using hl))
      obtain ⟨k, x, e1, e2⟩ := h 0 v rfl
      simp only [List.getElem?_cons_zero, Option.some.injEq] at e1
      subst e1
      obtain ⟨t, rfl⟩ := Value.isStrOf_shape e2
      exact ⟨t, rfl⟩
/-- what the head tells of a written dict with texts as keys -/
theorem tp_of {K : PySem.W.Frag} {w : World} {d : Addr} {es : Array DictEntry} {n : Nat} {l : List (Str × Int)} (D : KDict K w d es n) (hk : es.toList.map keyS = (l.map (·.1)).map some) (nd : (l.map (·.1)).Nodup) (hz : l.length < 1000) (X : Cx) (hK : X.K = K) (hw : X.w = w) (hc : X.calm = true) :
    CallR X (.type "tuple") (fun xs H Q => xs = [.ref d] ∧ ∀ p, H p = none → Q (.ref p) (upd H p (.tup (l.map fun q => V.str q.1)))) := by
  subst hK hw
  intro pins s σ H xs us Q I r h
  obtain ⟨rfl, q⟩ := h
  cases r with
  | cons rx rr =>
    cases rr
    cases rx
    have len : es.toList.length = l.length := by
      have := congrArg List.length hk
      simpa using this
    have lz : ((l.map (·.1)).zip (es.toList.map (·.val))).map (·.1) = l.map (·.1) := List.map_fst_zip (by simp only [List.length_map]; omega)
    have at_ : s.heap.DictAt (strKind X.prog X.w) d ((l.map (·.1)).zip (es.toList.map (·.val))) n := by
      refine ⟨_, es, I.kIn _ _ D.at_, ⟨rfl, rfl, rfl⟩, rfl, fun e he => ?_, pairs_lit hk, by rw [lz]; exact nd⟩
      obtain ⟨x, t, e1, e2⟩ := D.lit.all e (Array.mem_toList_iff.mpr he)
      exact ⟨x, by rw [e1]; exact strKind_is X.prog X.w x t, e2⟩
    have hn : ((l.map (·.1)).zip (es.toList.map (·.val))).length ≤ sizeLine := by
      rw [List.length_zip, List.length_map, List.length_map, len, Nat.min_self, sizeLine_eq]
      omega
    have hlen : ((l.map (·.1)).zip (es.toList.map (·.val))).length = l.length := by
      rw [List.length_zip, List.length_map, List.length_map, len, Nat.min_self]
    refine call_tuple_src (PySem.W.kdl_dict (knd := strKind X.prog X.w) (ep := n) D.low) (I.ok.hd hc) at_ hn fun h' tk acc hkp hacc => ?_
    have hv : Vals (l.map fun q => V.str q.1) acc.toList := by
      have := vals_of (prog := X.prog) (w := X.w) (l := acc.toList) (fun j v e => hacc.2 j v (by rw [← Array.getElem?_toList]; exact e)) lz (by rw [Array.length_toList, hacc.1, hlen, List.length_map])
      rw [List.map_map] at this
      exact this
    have I1 : Inv X pins σ H { s with heap := h', toks := tk } := I.kept hkp
    refine ⟨.ref h'.objs.size, upd H h'.objs.size (.tup (l.map fun q => V.str q.1)), I1.laid (t' := tk) (fun b o e => Heap.get?_push_of_some _ e) (Nat.le_refl _) ⟨by rw [List.length_map, sizeLine_eq]; omega, acc.toList, hv, ?_⟩, rfl, q _ (I1.hok.fresh (Nat.le_refl _))⟩
    rw [Array.toArray_toList]
    first | exact ⟨_, Heap.get?_push_size _ rfl, rfl, rfl⟩ | exact ⟨_, Heap.get?_push_size _ rfl, rfl, _, rfl⟩
end M
end
/-! ## M17 -/
section
set_option linter.all false
set_option maxRecDepth 100000
set_option maxHeartbeats 4000000
/-! Layer M, part 17: a program's defs as plain functions, level by level. -/
namespace M
open PySem L2
/-- a def: its text, its slots; la: what it asks if it makes lambdas -/
structure DefI where
  key : Str
  np : Nat
  mu : Bool
  N : List Str
  sc : Scope
  body : List Stmt
  la : Option (Addr × Addr × Str) := none
def Tab.withLa (t : Tab) (l : Option (Addr × Addr × Str)) : Tab := { t with la := l }
def fnsAt (t : Tab) (wf : Nat) (ds : List DefI) : Nat → Fns
  | 0 => fun _ _ _ => .stuck
  | n + 1 => fun key vs A => match ds.find? (fun d => decide (d.key = key)) with
    | some d => runF (t.withLa d.la) (fnsAt t wf ds n) wf d.mu d.N d.sc d.body vs A
    | none => .stuck
section
variable {t : Tab} {ds : List DefI} {P : Program} {w : World} {K : PySem.W.Frag} {mg : Str → Option Value} {base : Heap} {T : List (Addr × Str)} {wf : Nat}
/-- what the head tells of a def -/
structure DefHd (t : Tab) (K : PySem.W.Frag) (mg : Str → Option Value) (base : Heap) (T : List (Addr × Str)) (d : DefI) (f : Addr) (fd : FuncData) (ps : List Str) : Prop where
  ex : ∃ (x qual : Str) (params : Arguments) (dV kV doc pm cdv ct oc : Value) (an od : Option Addr) (osl : Array (Option Value)), fd = PySem.W.fnOf x qual params d.body d.sc dV kV doc pm an cdv ct ∧ K.lookup f = some ⟨oc, od, .func fd, osl⟩ ∧ PySem.W.codeIn K cdv qual = true ∧ LaOk (t.withLa d.la) T base mg qual cdv
  sc : FnScope d.N ps d.sc
/-- the head's facts of the table t and the defs ds -/
structure HdOk (t : Tab) (ds : List DefI) (P : Program) (w : World) (K : PySem.W.Frag) (mg : Str → Option Value) (base : Heap) (T : List (Addr × Str)) : Prop where
  dat : ∀ x d, t.gs.lookup x = some (.dat d) → ∃ u v, mg x = some u ∧ RelV v u ∧ sv d = some v
  fn : ∀ x np dl, t.gs.lookup x = some (.fn np dl) → ∃ d f fd ps, ds.find? (fun d => decide (d.key = x)) = some d ∧ mg x = some (.ref f) ∧ PySem.W.keepIn K (.ref f) = true ∧ PadOk K fd ps np dl ∧ DefHd t K mg base T d f fd ps
  cls : ∀ x C init np dl, t.gs.lookup x = some (.cls C init np dl) → mg x = some (.ref C) ∧ ∃ d f fd ps, ds.find? (fun d => decide (d.key = init)) = some d ∧ Mk K C f ∧ PadOk K fd ps np dl ∧ DefHd t K mg base T d f fd ps
  ms : ∀ m l, t.ms.lookup m = some l → ∀ i ∈ l, Cls K i.C ∧ ∃ d f fd ps, ds.find? (fun d => decide (d.key = i.key)) = some d ∧ Meth K i.C m f ∧ PadOk K fd ps i.np i.dl ∧ DefHd t K mg base T d f fd ps
  cs : ∀ C names, t.cs.lookup C = some names → Cls K C ∧ ∀ f ∈ names, NoAttr K C f
  bi : ∀ x, t.gs.lookup x = none → x ∈ biNames → mg x = none
  S : SOk t.S K w
  lam : ∀ x kd, t.lm.lookup x = some kd → LamTxt t K mg x kd
  rs : ∀ x C wd, t.gs.lookup x = some (.exc C wd) → ∃ Rc fR fC, MR.SubTxt K P C Rc fR fC wd ∧ mg x = some (.ref C) ∧ mg "super" = none ∧ PySem.W.subIn K (.ref C) (.type "BaseException") = some true ∧ PySem.W.typeIn K (.ref C) = some (.type "type")
theorem tok_la {Φ : Fns} {k : Nat} (l : Option (Addr × Addr × Str)) (h : TOk t Φ k P w K mg base T) : TOk (t.withLa l) Φ k P w K mg base T :=
  ⟨h.dat, h.fn, h.cls, h.ms, h.cs, h.bi, h.S, fun x kd e => ⟨⟨(h.lam x kd e).hd.ex⟩, (h.lam x kd e).kd⟩, h.rs⟩
theorem fn_zero {f : Addr} {fd : FuncData} {ps : List Str} {np k : Nat} (e : ps.length = np) : FnOk P w K mg base (L2N.CX P w) k f fd ps (spM K T np (fun _ _ => .stuck)) :=
  ⟨fun vs H Q E ⟨Z, ds, A, ρ, h1, h2, _⟩ => by rw [VRs.length h2, h1, e], fun A outer s H args us vs Q E _ _ _ _ ⟨_, _, _, _, _, _, _, h⟩ => absurd h id⟩
theorem fn_succ {n : Nat} {d : DefI} {f : Addr} {fd : FuncData} {ps : List Str} {key : Str} {np : Nat} (to : TOk t (fnsAt t wf ds n) (8 * n) P w K mg base T) (e : ps.length = np) (hf : ds.find? (fun d => decide (d.key = key)) = some d) (h : DefHd t K mg base T d f fd ps) :
    FnOk P w K mg base (L2N.CX P w) (8 * (n + 1)) f fd ps (spM K T np (fnsAt t wf ds (n + 1) key)) := by
  obtain ⟨x, qual, params, dV, kV, doc, pm, cdv, ct, oc, an, od, osl, rfl, lk, hcd, hla⟩ := h.ex
  have z := fn_M (wf := wf) (mu := d.mu) lk hcd h.sc (tok_la d.la to) hla
  have e2 : fnsAt t wf ds (n + 1) key = runF (t.withLa d.la) (fnsAt t wf ds n) wf d.mu d.N d.sc d.body := by
    funext vs A
    show (match ds.find? (fun d => decide (d.key = key)) with
      | some d => runF (t.withLa d.la) (fnsAt t wf ds n) wf d.mu d.N d.sc d.body vs A
      | none => .stuck) = _
    rw [hf]
  rw [e2, ← e]
  exact z
theorem fn_lvl (n : Nat) {d : DefI} {f : Addr} {fd : FuncData} {ps : List Str} {key : Str} {np : Nat} (to : ∀ m, n = m + 1 → TOk t (fnsAt t wf ds m) (8 * m) P w K mg base T) (e : ps.length = np) (hf : ds.find? (fun d => decide (d.key = key)) = some d) (h : DefHd t K mg base T d f fd ps) :
    FnOk P w K mg base (L2N.CX P w) (8 * n) f fd ps (spM K T np (fnsAt t wf ds n key)) := by
  cases n with
  | zero => exact fn_zero e
  | succ m => exact fn_succ (to m rfl) e hf h
theorem tok_step (h : HdOk t ds P w K mg base T) (n : Nat) (to : ∀ m, n = m + 1 → TOk t (fnsAt t wf ds m) (8 * m) P w K mg base T) : TOk t (fnsAt t wf ds n) (8 * n) P w K mg base T where
  dat := h.dat
  fn := fun x np dl e => by
    obtain ⟨d, f, fd, ps, h1, h2, h3, h4, h5⟩ := h.fn x np dl e
    exact ⟨f, fd, ps, h2, h3, h4, fn_lvl n to h4.1 h1 h5⟩
  cls := fun x C init np dl e => by
    obtain ⟨h0, d, f, fd, ps, h1, h2, h4, h5⟩ := h.cls x C init np dl e
    exact ⟨h0, f, fd, ps, h2, h4, fn_lvl n to h4.1 h1 h5⟩
  ms := fun m l e i hi => by
    obtain ⟨h0, d, f, fd, ps, h1, h2, h4, h5⟩ := h.ms m l e i hi
    exact ⟨h0, f, fd, ps, h2, h4, fn_lvl n to h4.1 h1 h5⟩
  cs := h.cs
  bi := h.bi
  S := h.S
  lam := h.lam
  rs := fun x C wd e X e1 e2 e3 e4 e5 hr hc hg hp ex p pos ta hs ha => by
    obtain ⟨Rc, fR, fC, h1, h2, h3, h4, h5⟩ := h.rs x C wd e
    subst e1 e2 e3 e4 e5
    exact pmk_exc h1 h2 h3 h4 h5 hr hg hp hs ha
theorem tok_all (h : HdOk t ds P w K mg base T) : ∀ n, TOk t (fnsAt t wf ds n) (8 * n) P w K mg base T
  | 0 => tok_step h 0 fun m e => by omega
  | n + 1 => tok_step h (n + 1) fun m e => by
    obtain rfl : n = m := by omega
    exact tok_all h n
end
end M
end
/-! ## M18 -/
section
set_option linter.all false
set_option maxRecDepth 100000
set_option maxHeartbeats 4000000
/-! Layer M, part 18: names for the interpreter's forms (a def's text as such a term is checked by rfl). -/
namespace M
open PySem L2
def eOp (op : BoolOp) (a b : ME) : ME := fun L A => ((e1 a (fun x A => .ok x A)) L A).bind fun x A1 => (truR A1 x).bind fun k A2 => match op, k with
  | .Or, true => .ok x A2
  | .And, false => .ok x A2
  | _, _ => b L A2
def tNot (t : MT) : MT := fun L A => (t L A).bind fun k A1 => .ok (!k) A1
def tOp (op : BoolOp) (a b : MT) : MT := fun L A => (a L A).bind fun k A1 => match op, k with
  | .Or, true => .ok true A1
  | .And, false => .ok false A1
  | _, _ => b L A1
def tCmp (S : Stat) (op : CmpOp) (a b : ME) : MT := fun L A => (a L A).bind fun x A1 => (b L A1).bind fun y A2 => blT (cmpM S op x y) A2
def tVal (a : ME) : MT := fun L A => (a L A).bind fun x A1 => truR A1 x
def tTrue : MT := fun _ A => .ok true A
def a0 : MA := fun _ A => .ok [] A
def aC (a : ME) (m : MA) : MA := fun L A => (a L A).bind fun x A1 => (m L A1).bind fun ys A2 => .ok (x :: ys) A2
def aS (a : ME) (m : MA) : MA := fun L A => (a L A).bind fun x A1 => (match x with
  | .tup ds => (m L A1).bind fun ys A2 => .ok (ds ++ ys) A2
  | .lst ds => (m L A1).bind fun ys A2 => .ok (ds ++ ys) A2
  | _ => .stuck)
def eCall (Φ : Fns) (np : Nat) (key : Str) (dvs : List D) (m : MA) : ME := aR m fun ds A => callF np (Φ key) (ds ++ dvs) A
def eNew (Φ : Fns) (np : Nat) (init : Str) (C : Addr) (dvs : List D) (m : MA) : ME := aR m fun ds A => (callF np (Φ init) (.obj A.length :: (ds ++ dvs)) (A ++ [.ins C []])).bind fun r A1 => match r with
  | .non => .ok (.obj A.length) A1
  | _ => .stuck
def eMt (t : Tab) (Φ : Fns) (m : Str) (n : Nat) (o : ME) (as : MA) : ME := fun L A => (o L A).bind fun x A1 => match x with
  | .obj k => (match A1[k]? with
    | some (.ins C fs) => (match methGo t m C fs n with
      | some (dvs, i) => (as L A1).bind fun ds A2 => callF i.np (Φ i.key) (.obj k :: (ds ++ dvs)) A2
      | none => .stuck)
    | _ => .stuck)
  | _ => (match mNames.lookup m with
    | some b => if rcv b x then (as L A1).bind fun ds A2 => mtM b x ds A2 else .stuck
    | none => .stuck)
def oN : M.Loc → AH → Res (Option Int) := fun _ A => .ok none A
def oS (a : ME) : M.Loc → AH → Res (Option Int) := fun L A => (a L A).bind fun x A1 => match x with
  | .int i => .ok (some i) A1
  | _ => .stuck
def eDic (ks : List Str) (m : MA) : ME := aR m fun ds A => .ok (.dic (ks.map .inr) ds) A
def iGen (a : ME) : M.Loc → AH → Res (List D) := fun L A => (a L A).bind itemsM
def iR1 (a : ME) : M.Loc → AH → Res (List D) := fun L A => (a L A).bind rng1
def iR2 (a b : ME) : M.Loc → AH → Res (List D) := fun L A => (a L A).bind fun x A1 => (b L A1).bind fun y A2 => rng2 x y A2
def eLc (x : Bool) (own : List Nat) (it : M.Loc → AH → Res (List D)) (tg : D → M.Loc → Option M.Loc) (tt : MT) (te : ME) : ME := fun L A => (it L A).bind fun ds A1 => lcGo x tg tt te (wipeL L own) ds [] A1
def gN (i : Nat) : D → M.Loc → Option M.Loc := fun d L => some (L.set i (some d))
def gNs : List Nat → List D → M.Loc → Option M.Loc
  | [], [], L => some L
  | i :: is, d :: ds, L => gNs is ds (L.set i (some d))
  | _, _, _ => none
def gT (is : List Nat) : D → M.Loc → Option M.Loc := fun d L => match d with
  | .tup ds => gNs is ds L
  | _ => none
def lHeard (t : Tab) (m : ME) : ME := fun L A => heardR t (m L A)
def lTells (t : Tab) (Φ : Fns) (m a : ME) : ME := fun L A => (a L A).bind fun o A1 => (heardR t (m L A1)).bind fun h A2 => callF 2 (Φ "_law_same") [h, .tup [.str "told", o]] A2
def lRefuses (t : Tab) (Φ : Fns) (m a b : ME) : ME := fun L A => (a L A).bind fun o A1 => (b L A1).bind fun u A2 => (heardR t (m L A2)).bind fun h A3 => callF 2 (Φ "_law_same") [h, .tup [o, u]] A3
def sNx : MS := fun L A => .nx L A
def sRet (a : ME) : MS := fun L A => onR (a L A) fun d A1 => .rt d A1
def sRetN : MS := fun _ A => .rt .non A
def sExp (a : ME) : MS := fun L A => onR (a L A) fun _ A1 => .nx L A1
def sSet (i : Nat) (a : ME) : MS := fun L A => onR (a L A) fun d A1 => .nx (L.set i (some d)) A1
def sIf (c : MT) (a b : MS) : MS := fun L A => onR (c L A) fun k A1 => if k then a L A1 else b L A1
def sPar (i j : Nat) (a b : ME) : MS := fun L A => onR ((a L A).bind fun x A1 => (b L A1).bind fun y A2 => .ok (x, y) A2) fun p A1 => .nx ((L.set i (some p.1)).set j (some p.2)) A1
def sTup (tg : D → M.Loc → Option M.Loc) (a : ME) : MS := fun L A => onR (a L A) fun d A1 => match tg d L with
  | some L1 => .nx L1 A1
  | none => .stuck
def sFld (t : Tab) (f : Str) (o a : ME) : MS := fun L A => onR (a L A) fun d A1 => onR (o L A1) fun x A2 => setFld t f x d L A2
def sIx (o i a : ME) : MS := fun L A => onR (a L A) fun d A1 => onR (o L A1) fun x A2 => onR (i L A2) fun y A3 => setIx x y d L A3
def sInc (t : Tab) (f : Str) (o a : ME) : MS := fun L A => onR (o L A) fun x A1 => onR (fldM t f x A1) fun y A2 => onR (a L A2) fun z A3 => match incM y z with
  | some w => if clsOf x A1 = clsOf x A3 then setFld t f x w L A3 else .stuck
  | none => .stuck
def sRaise (C : Addr) (w : Str) (a : ME) : MS := fun L A => onR (a L A) fun d A1 => .exc ⟨C, d, w⟩ A1
def sForE (it : M.Loc → AH → Res (List D)) (tg : D → M.Loc → Option M.Loc) (b : MS) : MS := fun L A => onR (it L A) fun ds A1 => sFor tg b ds L A1
end M
end
/-! ## F83 -/
section
set_option maxRecDepth 100000
set_option linter.all false
open PySem M
def excT : List (Addr × Str) := [(966, ("BadDeed" : Str)), (1197, ("BadText" : Str)), (1218, ("WrongLine" : Str)), (1302, ("TooMany" : Str))]
def lamT : List (Str × LK) := [(("_law_heard" : Str), .heard), (("_law_tells" : Str), .tells), (("_law_refuses" : Str), .refuses)]
def fnT : List (Str × GV) := [(("whole" : Str), .fn 3 []), (("is_deed" : Str), .fn 1 []), (("lines_of" : Str), .fn 1 []), (("words_of" : Str), .fn 1 []), (("number_of" : Str), .fn 1 []), (("reader_at" : Str), .fn 2 []), (("end_lines" : Str), .fn 2 []), (("deed_text" : Str), .fn 1 []), (("deed_in" : Str), .fn 1 []), (("read_deed" : Str), .fn 1 []), (("_law_pool" : Str), .fn 2 []), (("_law_take" : Str), .fn 2 []), (("_law_one" : Str), .fn 2 []), (("_law_long_number" : Str), .fn 2 []), (("_law_is_deed" : Str), .fn 1 []), (("_law_text_wrong" : Str), .fn 1 []), (("_law_word_number" : Str), .fn 1 []), (("_law_lot_word" : Str), .fn 1 []), (("_law_word_at" : Str), .fn 2 []), (("_law_wrong_at" : Str), .fn 2 []), (("_law_spoken" : Str), .fn 1 []), (("_law_deed_sizes" : Str), .fn 0 []), (("_law_read_deed_words" : Str), .fn 1 []), (("_law_read_deed" : Str), .fn 1 []), (("_law_bent_text" : Str), .fn 2 []), (("_law_is_whole" : Str), .fn 1 []), (("_law_same" : Str), .fn 2 []), (("_law_some_number" : Str), .fn 1 []), (("_law_some_deed" : Str), .fn 1 []), (("_law_odd_deed_of" : Str), .fn 2 []), (("_law_some_text" : Str), .fn 2 []), (("_law_lines_right" : Str), .fn 1 []), (("_law_long_right" : Str), .fn 1 []), (("law" : Str), .fn 1 [])]
def msT : List (Str × List MI) := [(("refuse" : Str), [⟨RC, ("Reader.refuse" : Str), 2, []⟩]), (("is_over" : Str), [⟨RC, ("Reader.is_over" : Str), 1, []⟩]), (("word" : Str), [⟨RC, ("Reader.word" : Str), 1, []⟩]), (("one_of" : Str), [⟨RC, ("Reader.one_of" : Str), 2, []⟩]), (("natural" : Str), [⟨RC, ("Reader.natural" : Str), 3, [.int 0, .non]⟩]), (("end" : Str), [⟨RC, ("Reader.end" : Str), 1, []⟩])]
def tab : Tab where
  gs := fnT ++ excT.map (fun p => (p.2, GV.exc p.1 p.2)) ++ ([("Reader", .cls RC "Reader.__init__" 3 []), ("GREATEST", .dat (.int (10 ^ 20 - 1))), ("MOST_SIGNS", .dat (.int 400000)), ("FIGURES", .dat (.int 20)), ("FORMS", .dat (.con FA))] : List (Str × GV))
  lm := lamT
  xn := excT
  ms := msT
  cs := [(RC, ["words", "line", "at"])]
  S := ⟨[(FA, formsT)]⟩
open PySem L2
set_option maxRecDepth 100000
set_option linter.all false
def N_whole : List Str := ["thing", "low", "high"]
def c_whole (Φ : Fns) : MS := sSeq (sIf (tOp .Or (tNot (tVal (aR (aC (eVar 0) (aC (eK (.ty "int")) (a0))) (biS tab.S .isi)))) (tVal (aR (aC (eVar 0) (aC (eK (.ty "bool")) (a0))) (biS tab.S .isi)))) (sRet (eK (.bl false))) (sNx)) (sRet (eOp .And (e2 (eVar 1) (eVar 0) (cmpO tab.S .LtE)) (eOp .Or (e2 (eVar 2) (eK .non) (cmpO tab.S .Is)) (e2 (eVar 0) (eVar 2) (cmpO tab.S .LtE)))))
theorem f_whole (Φ : Fns) : sBlock (cS tab Φ 100000 ⟨N_whole, (defScope (stAt 63)).names, false, false⟩ 40) (defBody (stAt 63)) = c_whole Φ := by kernel_rfl
def N_is_deed : List Str := ["thing", "number"]
def c_is_deed (Φ : Fns) : MS := sSeq (sIf (tOp .Or (tNot (tVal (aR (aC (eVar 0) (aC (eK (.ty "tuple")) (a0))) (biS tab.S .isi)))) (tOp .Or (tCmp tab.S .Eq (aR (aC (eVar 0) (a0)) (biS tab.S .len)) (eK (.int 0))) (tNot (tVal (aR (aC (e2 (eVar 0) (eK (.int 0)) (ixM tab.S)) (aC (eK (.ty "str")) (a0))) (biS tab.S .isi)))))) (sRet (eK (.bl false))) (sNx)) (sSeq (sIf (tOp .Or (tCmp tab.S .NotIn (e2 (eVar 0) (eK (.int 0)) (ixM tab.S)) (eK (.con FA))) (tCmp tab.S .NotEq (e2 (eK (.con FA)) (e2 (eVar 0) (eK (.int 0)) (ixM tab.S)) (ixM tab.S)) (aR (aC (eVar 0) (a0)) (biS tab.S .len)))) (sRet (eK (.bl false))) (sNx)) (sRet (aR (aC (eLc true [1] (iGen (eSl (eVar 0) (oS (eK (.int 1))) (oN))) (gN 1) (tTrue) (eCall Φ 3 "whole" [] (aC (eVar 1) (aC (eK (.int 0)) (aC (eK (.int (10 ^ 20 - 1))) (a0)))))) (a0)) (biS tab.S .all))))
theorem f_is_deed (Φ : Fns) : sBlock (cS tab Φ 100000 ⟨N_is_deed, (defScope (stAt 67)).names, false, false⟩ 40) (defBody (stAt 67)) = c_is_deed Φ := by kernel_rfl
def N_lines_of : List Str := ["text"]
def c_lines_of (Φ : Fns) : MS := sSeq (sIf (tNot (tVal (aR (aC (eVar 0) (aC (eK (.ty "str")) (a0))) (biS tab.S .isi)))) (sRaise 1197 "BadText" (e1 (eK (.int 1)) negM)) (sNx)) (sSeq (sIf (tCmp tab.S .Gt (aR (aC (eVar 0) (a0)) (biS tab.S .len)) (eK (.int 400000))) (sRaise 1302 "TooMany" (aR (aC (eVar 0) (a0)) (biS tab.S .len))) (sNx)) (sRet (eMt tab Φ "split" 1 (eVar 0) (aC (eK (.str "\n")) (a0)))))
theorem f_lines_of (Φ : Fns) : sBlock (cS tab Φ 100000 ⟨N_lines_of, (defScope (stAt 71)).names, false, false⟩ 40) (defBody (stAt 71)) = c_lines_of Φ := by kernel_rfl
def N_words_of : List Str := ["line"]
def c_words_of (Φ : Fns) : MS := sRet (eMt tab Φ "split" 1 (eVar 0) (aC (eK (.str " ")) (a0)))
theorem f_words_of (Φ : Fns) : sBlock (cS tab Φ 100000 ⟨N_words_of, (defScope (stAt 72)).names, false, false⟩ 40) (defBody (stAt 72)) = c_words_of Φ := by kernel_rfl
def N_number_of : List Str := ["word", "sign"]
def c_number_of (Φ : Fns) : MS := sSeq (sIf (tOp .Or (tCmp tab.S .Lt (aR (aC (eVar 0) (a0)) (biS tab.S .len)) (eK (.int 1))) (tCmp tab.S .Gt (aR (aC (eVar 0) (a0)) (biS tab.S .len)) (eK (.int 20)))) (sRet (eK .non)) (sNx)) (sSeq (sForE (iGen (eVar 0)) (gN 1) (sIf (tCmp tab.S .NotIn (eVar 1) (eK (.str "0123456789"))) (sRet (eK .non)) (sNx))) (sSeq (sIf (tOp .And (tCmp tab.S .Eq (e2 (eVar 0) (eK (.int 0)) (ixM tab.S)) (eK (.str "0"))) (tCmp tab.S .NotEq (eVar 0) (eK (.str "0")))) (sRet (eK .non)) (sNx)) (sRet (aR (aC (eVar 0) (a0)) (biS tab.S .int)))))
theorem f_number_of (Φ : Fns) : sBlock (cS tab Φ 100000 ⟨N_number_of, (defScope (stAt 73)).names, false, false⟩ 40) (defBody (stAt 73)) = c_number_of Φ := by kernel_rfl
def N_Reader___init__ : List Str := ["self", "words", "line"]
def c_Reader___init__ (Φ : Fns) : MS := sSeq (sFld tab "words" (eVar 0) (eVar 1)) (sSeq (sFld tab "line" (eVar 0) (eVar 2)) (sFld tab "at" (eVar 0) (eK (.int 0))))
theorem f_Reader___init__ (Φ : Fns) : sBlock (cS tab Φ 100000 ⟨N_Reader___init__, (defScope (mtAt 75 0)).names, false, false⟩ 40) (defBody (mtAt 75 0)) = c_Reader___init__ Φ := by kernel_rfl
def N_Reader_refuse : List Str := ["self", "at"]
def c_Reader_refuse (Φ : Fns) : MS := sRaise 1218 "WrongLine" (aR (aC (e1 (eVar 0) (fldM tab "line")) (aC (eVar 1) (a0))) tupR)
theorem f_Reader_refuse (Φ : Fns) : sBlock (cS tab Φ 100000 ⟨N_Reader_refuse, (defScope (mtAt 75 1)).names, false, false⟩ 40) (defBody (mtAt 75 1)) = c_Reader_refuse Φ := by kernel_rfl
def N_Reader_is_over : List Str := ["self"]
def c_Reader_is_over (Φ : Fns) : MS := sRet (e2 (e1 (eVar 0) (fldM tab "at")) (aR (aC (e1 (eVar 0) (fldM tab "words")) (a0)) (biS tab.S .len)) (cmpO tab.S .Eq))
theorem f_Reader_is_over (Φ : Fns) : sBlock (cS tab Φ 100000 ⟨N_Reader_is_over, (defScope (mtAt 75 2)).names, false, false⟩ 40) (defBody (mtAt 75 2)) = c_Reader_is_over Φ := by kernel_rfl
def N_Reader_word : List Str := ["self"]
def c_Reader_word (Φ : Fns) : MS := sSeq (sIf (tVal (eMt tab Φ "is_over" 0 (eVar 0) (a0))) (sExp (eMt tab Φ "refuse" 1 (eVar 0) (aC (e1 (eVar 0) (fldM tab "at")) (a0)))) (sNx)) (sSeq (sInc tab "at" (eVar 0) (eK (.int 1))) (sRet (e2 (e1 (eVar 0) (fldM tab "words")) (e2 (e1 (eVar 0) (fldM tab "at")) (eK (.int 1)) (opM .Sub)) (ixM tab.S))))
theorem f_Reader_word (Φ : Fns) : sBlock (cS tab Φ 100000 ⟨N_Reader_word, (defScope (mtAt 75 3)).names, false, false⟩ 40) (defBody (mtAt 75 3)) = c_Reader_word Φ := by kernel_rfl
def N_Reader_one_of : List Str := ["self", "choices", "found"]
def c_Reader_one_of (Φ : Fns) : MS := sSeq (sSet 2 (eMt tab Φ "word" 0 (eVar 0) (a0))) (sSeq (sIf (tCmp tab.S .NotIn (eVar 2) (eVar 1)) (sExp (eMt tab Φ "refuse" 1 (eVar 0) (aC (e2 (e1 (eVar 0) (fldM tab "at")) (eK (.int 1)) (opM .Sub)) (a0)))) (sNx)) (sRet (eVar 2)))
theorem f_Reader_one_of (Φ : Fns) : sBlock (cS tab Φ 100000 ⟨N_Reader_one_of, (defScope (mtAt 75 4)).names, false, false⟩ 40) (defBody (mtAt 75 4)) = c_Reader_one_of Φ := by kernel_rfl
def N_Reader_natural : List Str := ["self", "low", "high", "found"]
def c_Reader_natural (Φ : Fns) : MS := sSeq (sSet 3 (eCall Φ 1 "number_of" [] (aC (eMt tab Φ "word" 0 (eVar 0) (a0)) (a0)))) (sSeq (sIf (tOp .Or (tCmp tab.S .Is (eVar 3) (eK .non)) (tOp .Or (tCmp tab.S .Lt (eVar 3) (eVar 1)) (tOp .And (tCmp tab.S .IsNot (eVar 2) (eK .non)) (tCmp tab.S .Gt (eVar 3) (eVar 2))))) (sExp (eMt tab Φ "refuse" 1 (eVar 0) (aC (e2 (e1 (eVar 0) (fldM tab "at")) (eK (.int 1)) (opM .Sub)) (a0)))) (sNx)) (sRet (eVar 3)))
theorem f_Reader_natural (Φ : Fns) : sBlock (cS tab Φ 100000 ⟨N_Reader_natural, (defScope (mtAt 75 5)).names, false, false⟩ 40) (defBody (mtAt 75 5)) = c_Reader_natural Φ := by kernel_rfl
def N_Reader_end : List Str := ["self"]
def c_Reader_end (Φ : Fns) : MS := sIf (tNot (tVal (eMt tab Φ "is_over" 0 (eVar 0) (a0)))) (sExp (eMt tab Φ "refuse" 1 (eVar 0) (aC (e1 (eVar 0) (fldM tab "at")) (a0)))) (sNx)
theorem f_Reader_end (Φ : Fns) : sBlock (cS tab Φ 100000 ⟨N_Reader_end, (defScope (mtAt 75 7)).names, false, false⟩ 40) (defBody (mtAt 75 7)) = c_Reader_end Φ := by kernel_rfl
def N_reader_at : List Str := ["lines", "index"]
def c_reader_at (Φ : Fns) : MS := sSeq (sIf (tCmp tab.S .Eq (eVar 1) (aR (aC (eVar 0) (a0)) (biS tab.S .len))) (sRaise 1218 "WrongLine" (aR (aC (eVar 1) (aC (eK (.int 0)) (a0))) tupR)) (sNx)) (sRet (eNew Φ 3 "Reader.__init__" RC [] (aC (eCall Φ 1 "words_of" [] (aC (e2 (eVar 0) (eVar 1) (ixM tab.S)) (a0))) (aC (eVar 1) (a0)))))
theorem f_reader_at (Φ : Fns) : sBlock (cS tab Φ 100000 ⟨N_reader_at, (defScope (stAt 76)).names, false, false⟩ 40) (defBody (stAt 76)) = c_reader_at Φ := by kernel_rfl
def N_end_lines : List Str := ["lines", "many"]
def c_end_lines (Φ : Fns) : MS := sIf (tCmp tab.S .Gt (aR (aC (eVar 0) (a0)) (biS tab.S .len)) (eVar 1)) (sRaise 1218 "WrongLine" (aR (aC (eVar 1) (aC (eK (.int 0)) (a0))) tupR)) (sNx)
theorem f_end_lines (Φ : Fns) : sBlock (cS tab Φ 100000 ⟨N_end_lines, (defScope (stAt 77)).names, false, false⟩ 40) (defBody (stAt 77)) = c_end_lines Φ := by kernel_rfl
def N_deed_text : List Str := ["deed", "number"]
def c_deed_text (Φ : Fns) : MS := sSeq (sIf (tNot (tVal (eCall Φ 1 "is_deed" [] (aC (eVar 0) (a0))))) (sRaise 966 "BadDeed" (eK (.int 0))) (sNx)) (sRet (eMt tab Φ "join" 1 (eK (.str " ")) (aC (aR (aC (e2 (eVar 0) (eK (.int 0)) (ixM tab.S)) (aS (eLc true [1] (iGen (eSl (eVar 0) (oS (eK (.int 1))) (oN))) (gN 1) (tTrue) (aR (aC (eVar 1) (a0)) (biS tab.S .str))) (a0))) lstR) (a0))))
theorem f_deed_text (Φ : Fns) : sBlock (cS tab Φ 100000 ⟨N_deed_text, (defScope (stAt 79)).names, false, false⟩ 40) (defBody (stAt 79)) = c_deed_text Φ := by kernel_rfl
def N_deed_in : List Str := ["reader", "word", "found", "_"]
def c_deed_in (Φ : Fns) : MS := sSeq (sSet 1 (eMt tab Φ "one_of" 1 (eVar 0) (aC (aR (aC (eK (.con FA)) (a0)) (biS tab.S .tuple)) (a0)))) (sSeq (sSet 2 (aR (aC (eVar 1) (aS (eLc true [3] (iR1 (e2 (e2 (eK (.con FA)) (eVar 1) (ixM tab.S)) (eK (.int 1)) (opM .Sub))) (gN 3) (tTrue) (eMt tab Φ "natural" 0 (eVar 0) (a0))) (a0))) tupR)) (sSeq (sExp (eMt tab Φ "end" 0 (eVar 0) (a0))) (sRet (eVar 2))))
theorem f_deed_in (Φ : Fns) : sBlock (cS tab Φ 100000 ⟨N_deed_in, (defScope (stAt 80)).names, false, false⟩ 40) (defBody (stAt 80)) = c_deed_in Φ := by kernel_rfl
def N_read_deed : List Str := ["text", "lines", "found"]
def c_read_deed (Φ : Fns) : MS := sSeq (sSet 1 (eCall Φ 1 "lines_of" [] (aC (eVar 0) (a0)))) (sSeq (sSet 2 (eCall Φ 1 "deed_in" [] (aC (eCall Φ 2 "reader_at" [] (aC (eVar 1) (aC (eK (.int 0)) (a0)))) (a0)))) (sSeq (sExp (eCall Φ 2 "end_lines" [] (aC (eVar 1) (aC (eK (.int 1)) (a0))))) (sRet (eVar 2))))
theorem f_read_deed (Φ : Fns) : sBlock (cS tab Φ 100000 ⟨N_read_deed, (defScope (stAt 81)).names, false, false⟩ 40) (defBody (stAt 81)) = c_read_deed Φ := by kernel_rfl
def N__law_pool : List Str := ["script", "k", "cell", "big", "mixed"]
def c__law_pool (Φ : Fns) : MS := sSeq (sSet 2 (eK (.int 0))) (sSeq (sIf (tCmp tab.S .Lt (eVar 1) (aR (aC (eVar 0) (a0)) (biS tab.S .len))) (sSet 2 (e2 (eVar 0) (eVar 1) (ixM tab.S))) (sIf (tCmp tab.S .NotEq (eVar 0) (aR (a0) lstR)) (sSet 2 (e2 (eVar 0) (eK (.int 0)) (ixM tab.S))) (sNx))) (sSeq (sSet 3 (aR (aC (aR (aC (eVar 2) (a0)) (biS tab.S .int)) (aC (aR (aC (e2 (e1 (eK (.int 1)) negM) (eVar 2) (opM .Sub)) (a0)) (biS tab.S .int)) (a0))) (biS tab.S .max))) (sSeq (sSet 4 (e2 (aR (aC (e2 (e2 (e2 (e2 (e2 (aR (aC (eVar 3) (a0)) (biS tab.S .int)) (eK (.int 2147483629)) (opM .Mod)) (e2 (e2 (eK (.int 7919)) (eVar 1) (opM .Mult)) (eVar 1) (opM .Mult)) (opM .Add)) (e2 (eK (.int 31)) (eVar 1) (opM .Mult)) (opM .Add)) (eK (.int 17)) (opM .Add)) (eK (.int 48271)) (opM .Mult)) (a0)) (biS tab.S .int)) (eK (.int 2147483647)) (opM .Mod))) (sRet (aR (aC (e2 (eVar 3) (aR (aC (eOp .And (e2 (eVar 3) (e2 (eK (.int 10)) (eK (.int 18)) (opM .Pow)) (cmpO tab.S .GtE)) (e2 (eVar 1) (aR (aC (eVar 0) (a0)) (biS tab.S .len)) (cmpO tab.S .Lt))) (a0)) (biS tab.S .int)) (opM .Mult)) (aC (eVar 4) (a0))) objR)))))
theorem f__law_pool (Φ : Fns) : sBlock (cS tab Φ 100000 ⟨N__law_pool, (defScope (stAt 83)).names, true, false⟩ 40) (defBody (stAt 83)) = c__law_pool Φ := by kernel_rfl
def N__law_take : List Str := ["jar", "top", "number"]
def c__law_take (Φ : Fns) : MS := sSeq (sIf (tCmp tab.S .Gt (e2 (eVar 0) (eK (.int 0)) (ixM tab.S)) (eK (.int 0))) (sSeq (sSet 2 (e2 (aR (aC (e2 (eVar 0) (eK (.int 0)) (ixM tab.S)) (a0)) (biS tab.S .int)) (eVar 1) (opM .Mod))) (sSeq (sIx (eVar 0) (eK (.int 0)) (e2 (e2 (eVar 0) (eK (.int 0)) (ixM tab.S)) (eVar 1) (opM .FloorDiv))) (sRet (eVar 2)))) (sNx)) (sSeq (sIx (eVar 0) (eK (.int 1)) (e2 (aR (aC (e2 (e2 (e2 (eVar 0) (eK (.int 1)) (ixM tab.S)) (eK (.int 39373)) (opM .Mult)) (eK (.int 7)) (opM .Add)) (a0)) (biS tab.S .int)) (eK (.int 2147483647)) (opM .Mod))) (sRet (e2 (aR (aC (e2 (e2 (aR (aC (e2 (e2 (eVar 0) (eK (.int 1)) (ixM tab.S)) (e2 (eVar 0) (eK (.int 1)) (ixM tab.S)) (opM .Mult)) (a0)) (biS tab.S .int)) (eK (.int 2147483629)) (opM .Mod)) (eK (.int 32)) (opM .FloorDiv)) (a0)) (biS tab.S .int)) (eVar 1) (opM .Mod))))
theorem f__law_take (Φ : Fns) : sBlock (cS tab Φ 100000 ⟨N__law_take, (defScope (stAt 84)).names, false, false⟩ 40) (defBody (stAt 84)) = c__law_take Φ := by kernel_rfl
def N__law_one : List Str := ["jar", "things"]
def c__law_one (Φ : Fns) : MS := sRet (e2 (eVar 1) (eCall Φ 2 "_law_take" [] (aC (eVar 0) (aC (aR (aC (eVar 1) (a0)) (biS tab.S .len)) (a0)))) (ixM tab.S))
theorem f__law_one (Φ : Fns) : sBlock (cS tab Φ 100000 ⟨N__law_one, (defScope (stAt 85)).names, false, false⟩ 40) (defBody (stAt 85)) = c__law_one Φ := by kernel_rfl
def N__law_long_number : List Str := ["jar", "figures", "number", "go"]
def c__law_long_number (Φ : Fns) : MS := sSeq (sSet 2 (e2 (eK (.int 1)) (eCall Φ 2 "_law_take" [] (aC (eVar 0) (aC (eK (.int 9)) (a0)))) (opM .Add))) (sSeq (sForE (iR1 (e2 (eVar 1) (eK (.int 1)) (opM .Sub))) (gN 3) (sSet 2 (e2 (e2 (eVar 2) (eK (.int 10)) (opM .Mult)) (eCall Φ 2 "_law_take" [] (aC (eVar 0) (aC (eK (.int 10)) (a0)))) (opM .Add)))) (sRet (eVar 2)))
theorem f__law_long_number (Φ : Fns) : sBlock (cS tab Φ 100000 ⟨N__law_long_number, (defScope (stAt 86)).names, false, false⟩ 40) (defBody (stAt 86)) = c__law_long_number Φ := by kernel_rfl
def N__law_is_deed : List Str := ["thing", "parts", "x"]
def c__law_is_deed (Φ : Fns) : MS := sSeq (sIf (tOp .Or (tNot (tVal (aR (aC (eVar 0) (aC (eK (.ty "tuple")) (a0))) (biS tab.S .isi)))) (tOp .Or (tCmp tab.S .Eq (aR (aC (eVar 0) (a0)) (biS tab.S .len)) (eK (.int 0))) (tNot (tVal (aR (aC (e2 (eVar 0) (eK (.int 0)) (ixM tab.S)) (aC (eK (.ty "str")) (a0))) (biS tab.S .isi)))))) (sRet (eK (.bl false))) (sNx)) (sSeq (sIf (tCmp tab.S .NotEq (eLc true [2] (iGen (eSl (eVar 0) (oS (eK (.int 1))) (oN))) (gN 2) (tOp .Or (tNot (tVal (eCall Φ 1 "_law_is_whole" [] (aC (eVar 2) (a0))))) (tOp .Or (tCmp tab.S .Lt (eVar 2) (eK (.int 0))) (tCmp tab.S .GtE (eVar 2) (e2 (eK (.int 10)) (eK (.int 20)) (opM .Pow))))) (eVar 2)) (aR (a0) lstR)) (sRet (eK (.bl false))) (sNx)) (sSeq (sSet 1 (eMt tab Φ "get" 2 (eDic ["open", "close", "bar", "part", "wire", "cut"] (aC (eK (.int 0)) (aC (eK (.int 1)) (aC (eK (.int 2)) (aC (eK (.int 2)) (aC (eK (.int 3)) (aC (eK (.int 2)) (a0)))))))) (aC (e2 (eVar 0) (eK (.int 0)) (ixM tab.S)) (aC (e1 (eK (.int 1)) negM) (a0))))) (sRet (e2 (aR (aC (eVar 0) (a0)) (biS tab.S .len)) (e2 (eVar 1) (eK (.int 1)) (opM .Add)) (cmpO tab.S .Eq)))))
theorem f__law_is_deed (Φ : Fns) : sBlock (cS tab Φ 100000 ⟨N__law_is_deed, (defScope (stAt 87)).names, false, false⟩ 40) (defBody (stAt 87)) = c__law_is_deed Φ := by kernel_rfl
def N__law_text_wrong : List Str := ["thing"]
def c__law_text_wrong (Φ : Fns) : MS := sSeq (sIf (tNot (tVal (aR (aC (eVar 0) (aC (eK (.ty "str")) (a0))) (biS tab.S .isi)))) (sRet (aR (aC (eK (.str "BadText")) (aC (e1 (eK (.int 1)) negM) (a0))) tupR)) (sNx)) (sRet (eIf (tCmp tab.S .Gt (aR (aC (eVar 0) (a0)) (biS tab.S .len)) (eK (.int 400000))) (aR (aC (eK (.str "TooMany")) (aC (aR (aC (eVar 0) (a0)) (biS tab.S .len)) (a0))) tupR) (eK .non)))
theorem f__law_text_wrong (Φ : Fns) : sBlock (cS tab Φ 100000 ⟨N__law_text_wrong, (defScope (stAt 88)).names, false, false⟩ 40) (defBody (stAt 88)) = c__law_text_wrong Φ := by kernel_rfl
def N__law_word_number : List Str := ["word", "sign"]
def c__law_word_number (Φ : Fns) : MS := sSeq (sIf (tOp .Or (tCmp tab.S .Eq (eVar 0) (eK (.str ""))) (tOp .Or (tCmp tab.S .Gt (aR (aC (eVar 0) (a0)) (biS tab.S .len)) (eK (.int 20))) (tCmp tab.S .NotEq (eLc true [1] (iGen (eVar 0)) (gN 1) (tCmp tab.S .NotIn (eVar 1) (eK (.str "0123456789"))) (eVar 1)) (aR (a0) lstR)))) (sRet (eK .non)) (sNx)) (sRet (eIf (tOp .Or (tCmp tab.S .Eq (eVar 0) (eK (.str "0"))) (tCmp tab.S .NotEq (e2 (eVar 0) (eK (.int 0)) (ixM tab.S)) (eK (.str "0")))) (aR (aC (eVar 0) (a0)) (biS tab.S .int)) (eK .non)))
theorem f__law_word_number (Φ : Fns) : sBlock (cS tab Φ 100000 ⟨N__law_word_number, (defScope (stAt 89)).names, false, false⟩ 40) (defBody (stAt 89)) = c__law_word_number Φ := by kernel_rfl
def N__law_lot_word : List Str := ["lot", "one"]
def c__law_lot_word (Φ : Fns) : MS := sRet (eIf (tCmp tab.S .NotEq (eVar 0) (aR (a0) tupR)) (eMt tab Φ "join" 1 (eK (.str ",")) (aC (eLc true [1] (iGen (eVar 0)) (gN 1) (tTrue) (aR (aC (eVar 1) (a0)) (biS tab.S .str))) (a0))) (eK (.str "none")))
theorem f__law_lot_word (Φ : Fns) : sBlock (cS tab Φ 100000 ⟨N__law_lot_word, (defScope (stAt 90)).names, false, false⟩ 40) (defBody (stAt 90)) = c__law_lot_word Φ := by kernel_rfl
def N__law_word_at : List Str := ["said", "at"]
def c__law_word_at (Φ : Fns) : MS := sRet (eIf (tCmp tab.S .Lt (eVar 1) (aR (aC (eVar 0) (a0)) (biS tab.S .len))) (e2 (eVar 0) (eVar 1) (ixM tab.S)) (eK (.str "")))
theorem f__law_word_at (Φ : Fns) : sBlock (cS tab Φ 100000 ⟨N__law_word_at, (defScope (stAt 91)).names, false, false⟩ 40) (defBody (stAt 91)) = c__law_word_at Φ := by kernel_rfl
def N__law_wrong_at : List Str := ["said", "lets", "at"]
def c__law_wrong_at (Φ : Fns) : MS := sSeq (sForE (iR1 (aR (aC (eVar 1) (a0)) (biS tab.S .len))) (gN 2) (sIf (tOp .Or (tCmp tab.S .GtE (eVar 2) (aR (aC (eVar 0) (a0)) (biS tab.S .len))) (tNot (tVal (e2 (eVar 1) (eVar 2) (ixM tab.S))))) (sRet (eVar 2)) (sNx))) (sRet (eIf (tCmp tab.S .Gt (aR (aC (eVar 0) (a0)) (biS tab.S .len)) (aR (aC (eVar 1) (a0)) (biS tab.S .len))) (aR (aC (eVar 1) (a0)) (biS tab.S .len)) (eK .non)))
theorem f__law_wrong_at (Φ : Fns) : sBlock (cS tab Φ 100000 ⟨N__law_wrong_at, (defScope (stAt 92)).names, false, false⟩ 40) (defBody (stAt 92)) = c__law_wrong_at Φ := by kernel_rfl
def N__law_spoken : List Str := ["some", "one"]
def c__law_spoken (Φ : Fns) : MS := sRet (eMt tab Φ "join" 1 (eK (.str " ")) (aC (eLc true [1] (iGen (eVar 0)) (gN 1) (tTrue) (eIf (tVal (aR (aC (eVar 1) (aC (eK (.ty "tuple")) (a0))) (biS tab.S .isi))) (eCall Φ 1 "_law_lot_word" [] (aC (eVar 1) (a0))) (aR (aC (eVar 1) (a0)) (biS tab.S .str)))) (a0)))
theorem f__law_spoken (Φ : Fns) : sBlock (cS tab Φ 100000 ⟨N__law_spoken, (defScope (stAt 93)).names, false, false⟩ 40) (defBody (stAt 93)) = c__law_spoken Φ := by kernel_rfl
def N__law_deed_sizes : List Str := []
def c__law_deed_sizes (Φ : Fns) : MS := sRet (eDic ["open", "close", "bar", "part", "wire", "cut"] (aC (eK (.int 0)) (aC (eK (.int 1)) (aC (eK (.int 2)) (aC (eK (.int 2)) (aC (eK (.int 3)) (aC (eK (.int 2)) (a0))))))))
theorem f__law_deed_sizes (Φ : Fns) : sBlock (cS tab Φ 100000 ⟨N__law_deed_sizes, (defScope (stAt 94)).names, false, false⟩ 40) (defBody (stAt 94)) = c__law_deed_sizes Φ := by kernel_rfl
def N__law_read_deed_words : List Str := ["said", "sizes", "found", "at", "one"]
def c__law_read_deed_words (Φ : Fns) : MS := sSeq (sSet 1 (eCall Φ 0 "_law_deed_sizes" [] (a0))) (sSeq (sIf (tCmp tab.S .NotIn (e2 (eVar 0) (eK (.int 0)) (ixM tab.S)) (eVar 1)) (sRet (aR (aC (eK (.int 0)) (aC (aR (a0) tupR) (a0))) tupR)) (sNx)) (sSeq (sSet 2 (eLc true [3] (iR1 (e2 (eVar 1) (e2 (eVar 0) (eK (.int 0)) (ixM tab.S)) (ixM tab.S))) (gN 3) (tTrue) (eCall Φ 1 "_law_word_number" [] (aC (eCall Φ 2 "_law_word_at" [] (aC (eVar 0) (aC (e2 (eK (.int 1)) (eVar 3) (opM .Add)) (a0)))) (a0))))) (sRet (aR (aC (eCall Φ 2 "_law_wrong_at" [] (aC (eVar 0) (aC (e2 (aR (aC (eK (.bl true)) (a0)) lstR) (eLc true [4] (iGen (eVar 2)) (gN 4) (tTrue) (e2 (eVar 4) (eK .non) (cmpO tab.S .IsNot))) (opM .Add)) (a0)))) (aC (e2 (aR (aC (e2 (eVar 0) (eK (.int 0)) (ixM tab.S)) (a0)) tupR) (aR (aC (eVar 2) (a0)) (biS tab.S .tuple)) (opM .Add)) (a0))) tupR))))
theorem f__law_read_deed_words (Φ : Fns) : sBlock (cS tab Φ 100000 ⟨N__law_read_deed_words, (defScope (stAt 95)).names, false, false⟩ 40) (defBody (stAt 95)) = c__law_read_deed_words Φ := by kernel_rfl
def N__law_read_deed : List Str := ["text", "wrong", "rows", "deed"]
def c__law_read_deed (Φ : Fns) : MS := sSeq (sSet 1 (eCall Φ 1 "_law_text_wrong" [] (aC (eVar 0) (a0)))) (sSeq (sIf (tCmp tab.S .IsNot (eVar 1) (eK .non)) (sRet (eVar 1)) (sNx)) (sSeq (sSet 2 (eMt tab Φ "split" 1 (eVar 0) (aC (eK (.str "\n")) (a0)))) (sSeq (sTup (gT [1, 3]) (eCall Φ 1 "_law_read_deed_words" [] (aC (eMt tab Φ "split" 1 (e2 (eVar 2) (eK (.int 0)) (ixM tab.S)) (aC (eK (.str " ")) (a0))) (a0)))) (sSeq (sIf (tCmp tab.S .IsNot (eVar 1) (eK .non)) (sRet (aR (aC (eK (.str "WrongLine")) (aC (aR (aC (eK (.int 0)) (aC (eVar 1) (a0))) tupR) (a0))) tupR)) (sNx)) (sRet (eIf (tCmp tab.S .Eq (aR (aC (eVar 2) (a0)) (biS tab.S .len)) (eK (.int 1))) (aR (aC (eK (.str "told")) (aC (eVar 3) (a0))) tupR) (aR (aC (eK (.str "WrongLine")) (aC (aR (aC (eK (.int 1)) (aC (eK (.int 0)) (a0))) tupR) (a0))) tupR)))))))
theorem f__law_read_deed (Φ : Fns) : sBlock (cS tab Φ 100000 ⟨N__law_read_deed, (defScope (stAt 96)).names, false, false⟩ 40) (defBody (stAt 96)) = c__law_read_deed Φ := by kernel_rfl
def N__law_bent_text : List Str := ["jar", "text", "rows", "k", "form", "at", "sign"]
def c__law_bent_text (Φ : Fns) : MS := sSeq (sPar 4 5 (eCall Φ 2 "_law_take" [] (aC (eVar 0) (aC (eK (.int 6)) (a0)))) (eCall Φ 2 "_law_take" [] (aC (eVar 0) (aC (e2 (aR (aC (eVar 1) (a0)) (biS tab.S .len)) (eK (.int 1)) (opM .Add)) (a0))))) (sSeq (sSet 2 (eMt tab Φ "split" 1 (eVar 1) (aC (eK (.str "\n")) (a0)))) (sSeq (sSet 3 (eCall Φ 2 "_law_take" [] (aC (eVar 0) (aC (aR (aC (eVar 2) (a0)) (biS tab.S .len)) (a0))))) (sSeq (sIf (tCmp tab.S .Eq (eVar 4) (eK (.int 0))) (sRet (e2 (eSl (eVar 1) (oN) (oS (eVar 5))) (eSl (eVar 1) (oS (e2 (eVar 5) (eK (.int 1)) (opM .Add))) (oN)) (opM .Add))) (sNx)) (sSeq (sIf (tCmp tab.S .Lt (eVar 4) (eK (.int 4))) (sSeq (sSet 6 (eCall Φ 2 "_law_one" [] (aC (eVar 0) (aC (aR (aC (eK (.str " ")) (aC (eK (.str "\n")) (aC (eK (.str "-")) (aC (eK (.str "0")) (aC (eK (.str "1")) (aC (eK (.str "7")) (aC (eK (.str ",")) (aC (eK (.str "a")) (aC (eK (.str "none")) (aC (eK (.str "x")) (aC (eK (.str "+")) (aC (eK (.str "\t")) (aC (eK (.str "(")) (aC (eK (.str "not")) (aC (eK (.str "and")) (a0)))))))))))))))) lstR) (a0))))) (sRet (e2 (e2 (eSl (eVar 1) (oN) (oS (eVar 5))) (eVar 6) (opM .Add)) (eSl (eVar 1) (oS (e2 (eVar 5) (aR (aC (e2 (eVar 4) (eK (.int 3)) (cmpO tab.S .Eq)) (a0)) (biS tab.S .int)) (opM .Add))) (oN)) (opM .Add)))) (sNx)) (sRet (eIf (tCmp tab.S .Eq (eVar 4) (eK (.int 4))) (eMt tab Φ "join" 1 (eK (.str "\n")) (aC (e2 (eSl (eVar 2) (oN) (oS (e2 (eVar 3) (eK (.int 1)) (opM .Add)))) (eSl (eVar 2) (oS (eVar 3)) (oN)) (opM .Add)) (a0))) (eMt tab Φ "join" 1 (eK (.str "\n")) (aC (e2 (eSl (eVar 2) (oN) (oS (eVar 3))) (eSl (eVar 2) (oS (e2 (eVar 3) (eK (.int 1)) (opM .Add))) (oN)) (opM .Add)) (a0)))))))))
theorem f__law_bent_text (Φ : Fns) : sBlock (cS tab Φ 100000 ⟨N__law_bent_text, (defScope (stAt 97)).names, false, false⟩ 40) (defBody (stAt 97)) = c__law_bent_text Φ := by kernel_rfl
def N__law_is_whole : List Str := ["thing"]
def c__law_is_whole (Φ : Fns) : MS := sRet (eOp .And (aR (aC (eVar 0) (aC (eK (.ty "int")) (a0))) (biS tab.S .isi)) (eNot (aR (aC (eVar 0) (aC (eK (.ty "bool")) (a0))) (biS tab.S .isi))))
theorem f__law_is_whole (Φ : Fns) : sBlock (cS tab Φ 100000 ⟨N__law_is_whole, (defScope (stAt 98)).names, false, false⟩ 40) (defBody (stAt 98)) = c__law_is_whole Φ := by kernel_rfl
def N__law_same : List Str := ["told", "owed", "at"]
def c__law_same (Φ : Fns) : MS := sSeq (sIf (tCmp tab.S .Is (eVar 1) (eK .non)) (sRet (e2 (eVar 0) (eK .non) (cmpO tab.S .Is))) (sNx)) (sSeq (sIf (tVal (aR (aC (eVar 1) (aC (eK (.ty "bool")) (a0))) (biS tab.S .isi))) (sRet (eIf (tVal (eVar 1)) (e2 (eVar 0) (eK (.bl true)) (cmpO tab.S .Is)) (e2 (eVar 0) (eK (.bl false)) (cmpO tab.S .Is)))) (sNx)) (sSeq (sIf (tVal (aR (aC (eVar 1) (aC (eK (.ty "int")) (a0))) (biS tab.S .isi))) (sRet (eOp .And (eCall Φ 1 "_law_is_whole" [] (aC (eVar 0) (a0))) (e2 (eVar 0) (eVar 1) (cmpO tab.S .Eq)))) (sNx)) (sSeq (sIf (tVal (aR (aC (eVar 1) (aC (eK (.ty "str")) (a0))) (biS tab.S .isi))) (sRet (eOp .And (aR (aC (eVar 0) (aC (eK (.ty "str")) (a0))) (biS tab.S .isi)) (e2 (eVar 0) (eVar 1) (cmpO tab.S .Eq)))) (sNx)) (sSeq (sIf (tOp .Or (tOp .And (tVal (aR (aC (eVar 1) (aC (eK (.ty "tuple")) (a0))) (biS tab.S .isi))) (tNot (tVal (aR (aC (eVar 0) (aC (eK (.ty "tuple")) (a0))) (biS tab.S .isi))))) (tOp .And (tVal (aR (aC (eVar 1) (aC (eK (.ty "list")) (a0))) (biS tab.S .isi))) (tNot (tVal (aR (aC (eVar 0) (aC (eK (.ty "list")) (a0))) (biS tab.S .isi)))))) (sRet (eK (.bl false))) (sNx)) (sSeq (sIf (tCmp tab.S .NotEq (aR (aC (eVar 0) (a0)) (biS tab.S .len)) (aR (aC (eVar 1) (a0)) (biS tab.S .len))) (sRet (eK (.bl false))) (sNx)) (sSeq (sForE (iR1 (aR (aC (eVar 1) (a0)) (biS tab.S .len))) (gN 2) (sIf (tNot (tVal (eCall Φ 2 "_law_same" [] (aC (e2 (eVar 0) (eVar 2) (ixM tab.S)) (aC (e2 (eVar 1) (eVar 2) (ixM tab.S)) (a0)))))) (sRet (eK (.bl false))) (sNx))) (sRet (eK (.bl true)))))))))
theorem f__law_same (Φ : Fns) : sBlock (cS tab Φ 100000 ⟨N__law_same, (defScope (stAt 99)).names, false, false⟩ 40) (defBody (stAt 99)) = c__law_same Φ := by kernel_rfl
def N__law_some_number : List Str := ["jar", "form"]
def c__law_some_number (Φ : Fns) : MS := sSeq (sSet 1 (eCall Φ 2 "_law_take" [] (aC (eVar 0) (aC (eK (.int 5)) (a0))))) (sSeq (sIf (tCmp tab.S .Lt (eVar 1) (eK (.int 3))) (sRet (eCall Φ 2 "_law_take" [] (aC (eVar 0) (aC (eK (.int 30)) (a0))))) (sNx)) (sRet (eCall Φ 2 "_law_long_number" [] (aC (eVar 0) (aC (eIf (tCmp tab.S .Eq (eVar 1) (eK (.int 3))) (eK (.int 20)) (e2 (eK (.int 1)) (eCall Φ 2 "_law_take" [] (aC (eVar 0) (aC (eK (.int 19)) (a0)))) (opM .Add))) (a0))))))
theorem f__law_some_number (Φ : Fns) : sBlock (cS tab Φ 100000 ⟨N__law_some_number, (defScope (stAt 104)).names, false, false⟩ 40) (defBody (stAt 104)) = c__law_some_number Φ := by kernel_rfl
def N__law_some_deed : List Str := ["jar", "word", "go"]
def c__law_some_deed (Φ : Fns) : MS := sSeq (sSet 1 (eCall Φ 2 "_law_one" [] (aC (eVar 0) (aC (aR (aC (eK (.str "open")) (aC (eK (.str "close")) (aC (eK (.str "bar")) (aC (eK (.str "part")) (aC (eK (.str "wire")) (aC (eK (.str "cut")) (a0))))))) lstR) (a0))))) (sRet (e2 (aR (aC (eVar 1) (a0)) tupR) (aR (aC (eLc true [2] (iR1 (e2 (eCall Φ 0 "_law_deed_sizes" [] (a0)) (eVar 1) (ixM tab.S))) (gN 2) (tTrue) (eCall Φ 1 "_law_some_number" [] (aC (eVar 0) (a0)))) (a0)) (biS tab.S .tuple)) (opM .Add)))
theorem f__law_some_deed (Φ : Fns) : sBlock (cS tab Φ 100000 ⟨N__law_some_deed, (defScope (stAt 105)).names, false, false⟩ 40) (defBody (stAt 105)) = c__law_some_deed Φ := by kernel_rfl
def N__law_odd_deed_of : List Str := ["jar", "deed", "at", "odd", "some"]
def c__law_odd_deed_of (Φ : Fns) : MS := sSeq (sSet 2 (eCall Φ 2 "_law_take" [] (aC (eVar 0) (aC (e2 (aR (aC (eVar 1) (a0)) (biS tab.S .len)) (eK (.int 1)) (opM .Add)) (a0))))) (sSeq (sSet 3 (eCall Φ 2 "_law_one" [] (aC (eVar 0) (aC (aR (aC (e1 (eK (.int 1)) negM) (aC (eK (.bl true)) (aC (eK .non) (aC (eK (.str "1")) (aC (e2 (eK (.int 10)) (eK (.int 20)) (opM .Pow)) (aC (e2 (e2 (eK (.int 10)) (eK (.int 20)) (opM .Pow)) (eK (.int 1)) (opM .Sub)) (aC (aR (aC (eK (.int 0)) (a0)) tupR) (aC (eK (.int 0)) (aC (eK (.str "open")) (aC (eK (.str "undo")) (a0))))))))))) lstR) (a0))))) (sSeq (sSet 4 (aR (aC (e2 (e2 (eSl (eVar 1) (oN) (oS (eVar 2))) (aR (aC (eVar 3) (a0)) tupR) (opM .Add)) (eSl (eVar 1) (oS (e2 (eVar 2) (eK (.int 1)) (opM .Add))) (oN)) (opM .Add)) (aC (e2 (e2 (eSl (eVar 1) (oN) (oS (eVar 2))) (aR (aC (eVar 3) (a0)) tupR) (opM .Add)) (eSl (eVar 1) (oS (e2 (eVar 2) (eK (.int 1)) (opM .Add))) (oN)) (opM .Add)) (aC (e2 (e2 (eSl (eVar 1) (oN) (oS (eVar 2))) (aR (aC (eVar 3) (a0)) tupR) (opM .Add)) (eSl (eVar 1) (oS (eVar 2)) (oN)) (opM .Add)) (aC (eSl (eVar 1) (oN) (oS (e1 (eK (.int 1)) negM))) (aC (aR (aC (eVar 1) (a0)) (biS tab.S .list)) (a0)))))) lstR)) (sRet (eCall Φ 2 "_law_one" [] (aC (eVar 0) (aC (e2 (eVar 4) (aR (aC (eK .non) (aC (aR (a0) tupR) (aC (aR (aC (eK (.str "undo")) (a0)) tupR) (aC (aR (aC (eK (.str "redo")) (a0)) tupR) (aC (eK (.str "open")) (aC (aR (aC (eK (.str "Open")) (a0)) tupR) (aC (aR (aC (eK (.int 0)) (a0)) tupR) (aC (aR (aC (eK (.str "open")) (aC (eK (.int 0)) (a0))) tupR) (aC (aR (aC (eK (.str "wire")) (aC (eK (.int 0)) (aC (eK (.int 1)) (a0)))) tupR) (aC (e2 (aR (aC (eK .non) (a0)) tupR) (eSl (eVar 1) (oS (eK (.int 1))) (oN)) (opM .Add)) (aC (eK (.int 7)) (a0)))))))))))) lstR) (opM .Add)) (a0)))))))
theorem f__law_odd_deed_of (Φ : Fns) : sBlock (cS tab Φ 100000 ⟨N__law_odd_deed_of, (defScope (stAt 106)).names, false, false⟩ 40) (defBody (stAt 106)) = c__law_odd_deed_of Φ := by kernel_rfl
def N__law_some_text : List Str := ["jar", "text", "form"]
def c__law_some_text (Φ : Fns) : MS := sSeq (sSet 2 (eCall Φ 2 "_law_take" [] (aC (eVar 0) (aC (eK (.int 5)) (a0))))) (sSeq (sIf (tCmp tab.S .Lt (eVar 2) (eK (.int 3))) (sRet (eCall Φ 2 "_law_bent_text" [] (aC (eVar 0) (aC (eVar 1) (a0))))) (sNx)) (sSeq (sIf (tCmp tab.S .Eq (eVar 2) (eK (.int 3))) (sRet (eCall Φ 2 "_law_one" [] (aC (eVar 0) (aC (aR (aC (eK (.str "undo")) (aC (eK (.str "redo")) (aC (eK (.str "")) (aC (eK (.str " ")) (aC (eK (.str "open ")) (aC (eK (.str " open")) (aC (eK (.str "open 0")) (aC (eK (.str "close")) (aC (eK (.str "close 00")) (aC (eK (.str "close 01")) (aC (eK (.str "close -1")) (aC (eK (.str "close 1 ")) (aC (eK (.str "wire 0 1")) (aC (eK (.str "wire 0 1 2 3")) (a0))))))))))))))) lstR) (a0))))) (sNx)) (sRet (eCall Φ 2 "_law_one" [] (aC (eVar 0) (aC (aR (aC (e2 (eK (.str "close ")) (e2 (eK (.str "9")) (eK (.int 20)) (opM .Mult)) (opM .Add)) (aC (e2 (eK (.str "close ")) (e2 (eK (.str "9")) (eK (.int 21)) (opM .Mult)) (opM .Add)) (aC (e2 (eK (.str "close 1")) (e2 (eK (.str "0")) (eK (.int 20)) (opM .Mult)) (opM .Add)) (aC (eK (.str "Open")) (aC (eK (.str "bar 0,1")) (aC (eK (.str "bar  0 1")) (aC (eK (.str "cut 0 1 2")) (aC (e2 (eVar 1) (eK (.str " 0")) (opM .Add)) (aC (eMt tab Φ "upper" 0 (eVar 1) (a0)) (aC (e2 (eVar 1) (eK (.str " ")) (opM .Add)) (a0))))))))))) lstR) (a0)))))))
theorem f__law_some_text (Φ : Fns) : sBlock (cS tab Φ 100000 ⟨N__law_some_text, (defScope (stAt 107)).names, false, false⟩ 40) (defBody (stAt 107)) = c__law_some_text Φ := by kernel_rfl
def N__law_lines_right : List Str := ["jar", "deed", "text", "go", "odd", "is_right", "owed", "thing", "other"]
def c__law_lines_right (Φ : Fns) : MS := sSeq (sSet 1 (eCall Φ 1 "_law_some_deed" [] (aC (eVar 0) (a0)))) (sSeq (sSet 2 (eCall Φ 1 "_law_spoken" [] (aC (eVar 1) (a0)))) (sSeq (sIf (tNot (tVal (lTells tab Φ (eCall Φ 1 "deed_text" [] (aC (eVar 1) (a0))) (eVar 2)))) (sRet (eK (.bl false))) (sNx)) (sSeq (sIf (tNot (tVal (lTells tab Φ (eCall Φ 1 "read_deed" [] (aC (eVar 2) (a0))) (eVar 1)))) (sRet (eK (.bl false))) (sNx)) (sSeq (sIf (tNot (tVal (lTells tab Φ (eCall Φ 1 "is_deed" [] (aC (eVar 1) (a0))) (eK (.bl true))))) (sRet (eK (.bl false))) (sNx)) (sSeq (sForE (iR1 (eK (.int 4))) (gN 3) (sSeq (sPar 7 8 (eCall Φ 2 "_law_odd_deed_of" [] (aC (eVar 0) (aC (eVar 1) (a0)))) (eCall Φ 2 "_law_some_text" [] (aC (eVar 0) (aC (eVar 2) (a0))))) (sSeq (sSet 5 (eCall Φ 1 "_law_is_deed" [] (aC (eVar 7) (a0)))) (sSeq (sIf (tNot (tVal (lTells tab Φ (eCall Φ 1 "is_deed" [] (aC (eVar 7) (a0))) (eVar 5)))) (sRet (eK (.bl false))) (sNx)) (sSeq (sSet 6 (eIf (tVal (eVar 5)) (aR (aC (eK (.str "told")) (aC (eCall Φ 1 "_law_spoken" [] (aC (eVar 7) (a0))) (a0))) tupR) (aR (aC (eK (.str "BadDeed")) (aC (eK (.int 0)) (a0))) tupR))) (sSeq (sIf (tNot (tVal (eCall Φ 2 "_law_same" [] (aC (lHeard tab (eCall Φ 1 "deed_text" [] (aC (eVar 7) (a0)))) (aC (eVar 6) (a0)))))) (sRet (eK (.bl false))) (sNx)) (sIf (tNot (tVal (eCall Φ 2 "_law_same" [] (aC (lHeard tab (eCall Φ 1 "read_deed" [] (aC (eVar 8) (a0)))) (aC (eCall Φ 1 "_law_read_deed" [] (aC (eVar 8) (a0))) (a0)))))) (sRet (eK (.bl false))) (sNx)))))))) (sSeq (sSet 4 (eCall Φ 2 "_law_one" [] (aC (eVar 0) (aC (aR (aC (eK .non) (aC (eK (.int 0)) (aC (aR (aC (eVar 2) (a0)) tupR) (aC (aR (aC (eVar 2) (a0)) lstR) (aC (eK (.bl true)) (aC (eVar 1) (a0))))))) lstR) (a0))))) (sRet (lRefuses tab Φ (eCall Φ 1 "read_deed" [] (aC (eVar 4) (a0))) (eK (.str "BadText")) (e1 (eK (.int 1)) negM)))))))))
theorem f__law_lines_right (Φ : Fns) : sBlock (cS (tab.withLa (some (1607, 1603, "_law_lines_right.<locals>.<lambda>"))) Φ 100000 ⟨N__law_lines_right, (defScope (stAt 108)).names, false, false⟩ 40) (defBody (stAt 108)) = c__law_lines_right Φ := by kernel_rfl
def N__law_long_right : List Str := ["jar", "word", "text"]
def c__law_long_right (Φ : Fns) : MS := sSeq (sSet 1 (eCall Φ 2 "_law_one" [] (aC (eVar 0) (aC (aR (aC (eK (.str "open")) (aC (eK (.str "close 0")) (aC (eK (.str "x")) (aC (eK (.str " ")) (a0))))) lstR) (a0))))) (sSeq (sSet 2 (e2 (eVar 1) (e2 (eCall Φ 2 "_law_one" [] (aC (eVar 0) (aC (aR (aC (eK (.str " ")) (aC (eK (.str "0")) (aC (eK (.str "x")) (a0)))) lstR) (a0)))) (e2 (eK (.int 400000)) (aR (aC (eVar 1) (a0)) (biS tab.S .len)) (opM .Sub)) (opM .Mult)) (opM .Add))) (sSeq (sIf (tNot (tVal (eCall Φ 2 "_law_same" [] (aC (lHeard tab (eCall Φ 1 "read_deed" [] (aC (eVar 2) (a0)))) (aC (eCall Φ 1 "_law_read_deed" [] (aC (eVar 2) (a0))) (a0)))))) (sRet (eK (.bl false))) (sNx)) (sRet (lRefuses tab Φ (eCall Φ 1 "read_deed" [] (aC (e2 (eVar 2) (eK (.str "0")) (opM .Add)) (a0))) (eK (.str "TooMany")) (eK (.int 400001))))))
theorem f__law_long_right (Φ : Fns) : sBlock (cS (tab.withLa (some (1614, 1610, "_law_long_right.<locals>.<lambda>"))) Φ 100000 ⟨N__law_long_right, (defScope (stAt 109)).names, false, false⟩ 40) (defBody (stAt 109)) = c__law_long_right Φ := by kernel_rfl
def N_law : List Str := ["script", "go", "jar", "turn"]
def c_law (Φ : Fns) : MS := sSeq (sForE (iR1 (eK (.int 6))) (gN 1) (sSeq (sSet 2 (eCall Φ 2 "_law_pool" [] (aC (eVar 0) (aC (eVar 1) (a0))))) (sForE (iR1 (eK (.int 6))) (gN 3) (sIf (tNot (tVal (eCall Φ 1 "_law_lines_right" [] (aC (eVar 2) (a0))))) (sRet (eK (.bl false))) (sNx))))) (sRet (eOp .Or (e2 (eCall Φ 2 "_law_take" [] (aC (eVar 2) (aC (eK (.int 20)) (a0)))) (eK (.int 0)) (cmpO tab.S .Gt)) (eCall Φ 1 "_law_long_right" [] (aC (eVar 2) (a0)))))
theorem f_law (Φ : Fns) : sBlock (cS tab Φ 100000 ⟨N_law, (defScope (stAt 110)).names, false, false⟩ 40) (defBody (stAt 110)) = c_law Φ := by kernel_rfl
def d_whole : DefI := ⟨"whole", 3, false, N_whole, defScope (stAt 63), defBody (stAt 63), none⟩
def d_is_deed : DefI := ⟨"is_deed", 1, false, N_is_deed, defScope (stAt 67), defBody (stAt 67), none⟩
def d_lines_of : DefI := ⟨"lines_of", 1, false, N_lines_of, defScope (stAt 71), defBody (stAt 71), none⟩
def d_words_of : DefI := ⟨"words_of", 1, false, N_words_of, defScope (stAt 72), defBody (stAt 72), none⟩
def d_number_of : DefI := ⟨"number_of", 1, false, N_number_of, defScope (stAt 73), defBody (stAt 73), none⟩
def d_Reader___init__ : DefI := ⟨"Reader.__init__", 3, false, N_Reader___init__, defScope (mtAt 75 0), defBody (mtAt 75 0), none⟩
def d_Reader_refuse : DefI := ⟨"Reader.refuse", 2, false, N_Reader_refuse, defScope (mtAt 75 1), defBody (mtAt 75 1), none⟩
def d_Reader_is_over : DefI := ⟨"Reader.is_over", 1, false, N_Reader_is_over, defScope (mtAt 75 2), defBody (mtAt 75 2), none⟩
def d_Reader_word : DefI := ⟨"Reader.word", 1, false, N_Reader_word, defScope (mtAt 75 3), defBody (mtAt 75 3), none⟩
def d_Reader_one_of : DefI := ⟨"Reader.one_of", 2, false, N_Reader_one_of, defScope (mtAt 75 4), defBody (mtAt 75 4), none⟩
def d_Reader_natural : DefI := ⟨"Reader.natural", 3, false, N_Reader_natural, defScope (mtAt 75 5), defBody (mtAt 75 5), none⟩
def d_Reader_end : DefI := ⟨"Reader.end", 1, false, N_Reader_end, defScope (mtAt 75 7), defBody (mtAt 75 7), none⟩
def d_reader_at : DefI := ⟨"reader_at", 2, false, N_reader_at, defScope (stAt 76), defBody (stAt 76), none⟩
def d_end_lines : DefI := ⟨"end_lines", 2, false, N_end_lines, defScope (stAt 77), defBody (stAt 77), none⟩
def d_deed_text : DefI := ⟨"deed_text", 1, false, N_deed_text, defScope (stAt 79), defBody (stAt 79), none⟩
def d_deed_in : DefI := ⟨"deed_in", 1, false, N_deed_in, defScope (stAt 80), defBody (stAt 80), none⟩
def d_read_deed : DefI := ⟨"read_deed", 1, false, N_read_deed, defScope (stAt 81), defBody (stAt 81), none⟩
def d__law_pool : DefI := ⟨"_law_pool", 2, true, N__law_pool, defScope (stAt 83), defBody (stAt 83), none⟩
def d__law_take : DefI := ⟨"_law_take", 2, false, N__law_take, defScope (stAt 84), defBody (stAt 84), none⟩
def d__law_one : DefI := ⟨"_law_one", 2, false, N__law_one, defScope (stAt 85), defBody (stAt 85), none⟩
def d__law_long_number : DefI := ⟨"_law_long_number", 2, false, N__law_long_number, defScope (stAt 86), defBody (stAt 86), none⟩
def d__law_is_deed : DefI := ⟨"_law_is_deed", 1, false, N__law_is_deed, defScope (stAt 87), defBody (stAt 87), none⟩
def d__law_text_wrong : DefI := ⟨"_law_text_wrong", 1, false, N__law_text_wrong, defScope (stAt 88), defBody (stAt 88), none⟩
def d__law_word_number : DefI := ⟨"_law_word_number", 1, false, N__law_word_number, defScope (stAt 89), defBody (stAt 89), none⟩
def d__law_lot_word : DefI := ⟨"_law_lot_word", 1, false, N__law_lot_word, defScope (stAt 90), defBody (stAt 90), none⟩
def d__law_word_at : DefI := ⟨"_law_word_at", 2, false, N__law_word_at, defScope (stAt 91), defBody (stAt 91), none⟩
def d__law_wrong_at : DefI := ⟨"_law_wrong_at", 2, false, N__law_wrong_at, defScope (stAt 92), defBody (stAt 92), none⟩
def d__law_spoken : DefI := ⟨"_law_spoken", 1, false, N__law_spoken, defScope (stAt 93), defBody (stAt 93), none⟩
def d__law_deed_sizes : DefI := ⟨"_law_deed_sizes", 0, false, N__law_deed_sizes, defScope (stAt 94), defBody (stAt 94), none⟩
def d__law_read_deed_words : DefI := ⟨"_law_read_deed_words", 1, false, N__law_read_deed_words, defScope (stAt 95), defBody (stAt 95), none⟩
def d__law_read_deed : DefI := ⟨"_law_read_deed", 1, false, N__law_read_deed, defScope (stAt 96), defBody (stAt 96), none⟩
def d__law_bent_text : DefI := ⟨"_law_bent_text", 2, false, N__law_bent_text, defScope (stAt 97), defBody (stAt 97), none⟩
def d__law_is_whole : DefI := ⟨"_law_is_whole", 1, false, N__law_is_whole, defScope (stAt 98), defBody (stAt 98), none⟩
def d__law_same : DefI := ⟨"_law_same", 2, false, N__law_same, defScope (stAt 99), defBody (stAt 99), none⟩
def d__law_some_number : DefI := ⟨"_law_some_number", 1, false, N__law_some_number, defScope (stAt 104), defBody (stAt 104), none⟩
def d__law_some_deed : DefI := ⟨"_law_some_deed", 1, false, N__law_some_deed, defScope (stAt 105), defBody (stAt 105), none⟩
def d__law_odd_deed_of : DefI := ⟨"_law_odd_deed_of", 2, false, N__law_odd_deed_of, defScope (stAt 106), defBody (stAt 106), none⟩
def d__law_some_text : DefI := ⟨"_law_some_text", 2, false, N__law_some_text, defScope (stAt 107), defBody (stAt 107), none⟩
def d__law_lines_right : DefI := ⟨"_law_lines_right", 1, false, N__law_lines_right, defScope (stAt 108), defBody (stAt 108), (some (1607, 1603, "_law_lines_right.<locals>.<lambda>"))⟩
def d__law_long_right : DefI := ⟨"_law_long_right", 1, false, N__law_long_right, defScope (stAt 109), defBody (stAt 109), (some (1614, 1610, "_law_long_right.<locals>.<lambda>"))⟩
def d_law : DefI := ⟨"law", 1, false, N_law, defScope (stAt 110), defBody (stAt 110), none⟩
def defsL : List DefI := [d_whole, d_is_deed, d_lines_of, d_words_of, d_number_of, d_Reader___init__, d_Reader_refuse, d_Reader_is_over, d_Reader_word, d_Reader_one_of, d_Reader_natural, d_Reader_end, d_reader_at, d_end_lines, d_deed_text, d_deed_in, d_read_deed, d__law_pool, d__law_take, d__law_one, d__law_long_number, d__law_is_deed, d__law_text_wrong, d__law_word_number, d__law_lot_word, d__law_word_at, d__law_wrong_at, d__law_spoken, d__law_deed_sizes, d__law_read_deed_words, d__law_read_deed, d__law_bent_text, d__law_is_whole, d__law_same, d__law_some_number, d__law_some_deed, d__law_odd_deed_of, d__law_some_text, d__law_lines_right, d__law_long_right, d_law]
def fns (n : Nat) : Fns := fnsAt tab 100000 defsL n
theorem g_whole (n : Nat) (x0 x1 x2 : D) (A : AH) : fns (n + 1) "whole" [x0, x1, x2] A = toRes (c_whole (fns n) [some x0, some x1, some x2] A) := by
  rw [← f_whole]; kernel_rfl
theorem g_is_deed (n : Nat) (x0 : D) (A : AH) : fns (n + 1) "is_deed" [x0] A = toRes (c_is_deed (fns n) [some x0, none] A) := by
  rw [← f_is_deed]; kernel_rfl
theorem g_lines_of (n : Nat) (x0 : D) (A : AH) : fns (n + 1) "lines_of" [x0] A = toRes (c_lines_of (fns n) [some x0] A) := by
  rw [← f_lines_of]; kernel_rfl
theorem g_words_of (n : Nat) (x0 : D) (A : AH) : fns (n + 1) "words_of" [x0] A = toRes (c_words_of (fns n) [some x0] A) := by
  rw [← f_words_of]; kernel_rfl
theorem g_number_of (n : Nat) (x0 : D) (A : AH) : fns (n + 1) "number_of" [x0] A = toRes (c_number_of (fns n) [some x0, none] A) := by
  rw [← f_number_of]; kernel_rfl
theorem g_Reader___init__ (n : Nat) (x0 x1 x2 : D) (A : AH) : fns (n + 1) "Reader.__init__" [x0, x1, x2] A = toRes (c_Reader___init__ (fns n) [some x0, some x1, some x2] A) := by
  rw [← f_Reader___init__]; kernel_rfl
theorem g_Reader_refuse (n : Nat) (x0 x1 : D) (A : AH) : fns (n + 1) "Reader.refuse" [x0, x1] A = toRes (c_Reader_refuse (fns n) [some x0, some x1] A) := by
  rw [← f_Reader_refuse]; kernel_rfl
theorem g_Reader_is_over (n : Nat) (x0 : D) (A : AH) : fns (n + 1) "Reader.is_over" [x0] A = toRes (c_Reader_is_over (fns n) [some x0] A) := by
  rw [← f_Reader_is_over]; kernel_rfl
theorem g_Reader_word (n : Nat) (x0 : D) (A : AH) : fns (n + 1) "Reader.word" [x0] A = toRes (c_Reader_word (fns n) [some x0] A) := by
  rw [← f_Reader_word]; kernel_rfl
theorem g_Reader_one_of (n : Nat) (x0 x1 : D) (A : AH) : fns (n + 1) "Reader.one_of" [x0, x1] A = toRes (c_Reader_one_of (fns n) [some x0, some x1, none] A) := by
  rw [← f_Reader_one_of]; kernel_rfl
theorem g_Reader_natural (n : Nat) (x0 x1 x2 : D) (A : AH) : fns (n + 1) "Reader.natural" [x0, x1, x2] A = toRes (c_Reader_natural (fns n) [some x0, some x1, some x2, none] A) := by
  rw [← f_Reader_natural]; kernel_rfl
theorem g_Reader_end (n : Nat) (x0 : D) (A : AH) : fns (n + 1) "Reader.end" [x0] A = toRes (c_Reader_end (fns n) [some x0] A) := by
  rw [← f_Reader_end]; kernel_rfl
theorem g_reader_at (n : Nat) (x0 x1 : D) (A : AH) : fns (n + 1) "reader_at" [x0, x1] A = toRes (c_reader_at (fns n) [some x0, some x1] A) := by
  rw [← f_reader_at]; kernel_rfl
theorem g_end_lines (n : Nat) (x0 x1 : D) (A : AH) : fns (n + 1) "end_lines" [x0, x1] A = toRes (c_end_lines (fns n) [some x0, some x1] A) := by
  rw [← f_end_lines]; kernel_rfl
theorem g_deed_text (n : Nat) (x0 : D) (A : AH) : fns (n + 1) "deed_text" [x0] A = toRes (c_deed_text (fns n) [some x0, none] A) := by
  rw [← f_deed_text]; kernel_rfl
theorem g_deed_in (n : Nat) (x0 : D) (A : AH) : fns (n + 1) "deed_in" [x0] A = toRes (c_deed_in (fns n) [some x0, none, none, none] A) := by
  rw [← f_deed_in]; kernel_rfl
theorem g_read_deed (n : Nat) (x0 : D) (A : AH) : fns (n + 1) "read_deed" [x0] A = toRes (c_read_deed (fns n) [some x0, none, none] A) := by
  rw [← f_read_deed]; kernel_rfl
theorem g__law_pool (n : Nat) (x0 x1 : D) (A : AH) : fns (n + 1) "_law_pool" [x0, x1] A = toRes (c__law_pool (fns n) [some x0, some x1, none, none, none] A) := by
  rw [← f__law_pool]; kernel_rfl
theorem g__law_take (n : Nat) (x0 x1 : D) (A : AH) : fns (n + 1) "_law_take" [x0, x1] A = toRes (c__law_take (fns n) [some x0, some x1, none] A) := by
  rw [← f__law_take]; kernel_rfl
theorem g__law_one (n : Nat) (x0 x1 : D) (A : AH) : fns (n + 1) "_law_one" [x0, x1] A = toRes (c__law_one (fns n) [some x0, some x1] A) := by
  rw [← f__law_one]; kernel_rfl
theorem g__law_long_number (n : Nat) (x0 x1 : D) (A : AH) : fns (n + 1) "_law_long_number" [x0, x1] A = toRes (c__law_long_number (fns n) [some x0, some x1, none, none] A) := by
  rw [← f__law_long_number]; kernel_rfl
theorem g__law_is_deed (n : Nat) (x0 : D) (A : AH) : fns (n + 1) "_law_is_deed" [x0] A = toRes (c__law_is_deed (fns n) [some x0, none, none] A) := by
  rw [← f__law_is_deed]; kernel_rfl
theorem g__law_text_wrong (n : Nat) (x0 : D) (A : AH) : fns (n + 1) "_law_text_wrong" [x0] A = toRes (c__law_text_wrong (fns n) [some x0] A) := by
  rw [← f__law_text_wrong]; kernel_rfl
theorem g__law_word_number (n : Nat) (x0 : D) (A : AH) : fns (n + 1) "_law_word_number" [x0] A = toRes (c__law_word_number (fns n) [some x0, none] A) := by
  rw [← f__law_word_number]; kernel_rfl
theorem g__law_lot_word (n : Nat) (x0 : D) (A : AH) : fns (n + 1) "_law_lot_word" [x0] A = toRes (c__law_lot_word (fns n) [some x0, none] A) := by
  rw [← f__law_lot_word]; kernel_rfl
theorem g__law_word_at (n : Nat) (x0 x1 : D) (A : AH) : fns (n + 1) "_law_word_at" [x0, x1] A = toRes (c__law_word_at (fns n) [some x0, some x1] A) := by
  rw [← f__law_word_at]; kernel_rfl
theorem g__law_wrong_at (n : Nat) (x0 x1 : D) (A : AH) : fns (n + 1) "_law_wrong_at" [x0, x1] A = toRes (c__law_wrong_at (fns n) [some x0, some x1, none] A) := by
  rw [← f__law_wrong_at]; kernel_rfl
theorem g__law_spoken (n : Nat) (x0 : D) (A : AH) : fns (n + 1) "_law_spoken" [x0] A = toRes (c__law_spoken (fns n) [some x0, none] A) := by
  rw [← f__law_spoken]; kernel_rfl
theorem g__law_deed_sizes (n : Nat) (A : AH) : fns (n + 1) "_law_deed_sizes" [] A = toRes (c__law_deed_sizes (fns n) [] A) := by
  rw [← f__law_deed_sizes]; kernel_rfl
theorem g__law_read_deed_words (n : Nat) (x0 : D) (A : AH) : fns (n + 1) "_law_read_deed_words" [x0] A = toRes (c__law_read_deed_words (fns n) [some x0, none, none, none, none] A) := by
  rw [← f__law_read_deed_words]; kernel_rfl
theorem g__law_read_deed (n : Nat) (x0 : D) (A : AH) : fns (n + 1) "_law_read_deed" [x0] A = toRes (c__law_read_deed (fns n) [some x0, none, none, none] A) := by
  rw [← f__law_read_deed]; kernel_rfl
theorem g__law_bent_text (n : Nat) (x0 x1 : D) (A : AH) : fns (n + 1) "_law_bent_text" [x0, x1] A = toRes (c__law_bent_text (fns n) [some x0, some x1, none, none, none, none, none] A) := by
  rw [← f__law_bent_text]; kernel_rfl
theorem g__law_is_whole (n : Nat) (x0 : D) (A : AH) : fns (n + 1) "_law_is_whole" [x0] A = toRes (c__law_is_whole (fns n) [some x0] A) := by
  rw [← f__law_is_whole]; kernel_rfl
theorem g__law_same (n : Nat) (x0 x1 : D) (A : AH) : fns (n + 1) "_law_same" [x0, x1] A = toRes (c__law_same (fns n) [some x0, some x1, none] A) := by
  rw [← f__law_same]; kernel_rfl
theorem g__law_some_number (n : Nat) (x0 : D) (A : AH) : fns (n + 1) "_law_some_number" [x0] A = toRes (c__law_some_number (fns n) [some x0, none] A) := by
  rw [← f__law_some_number]; kernel_rfl
theorem g__law_some_deed (n : Nat) (x0 : D) (A : AH) : fns (n + 1) "_law_some_deed" [x0] A = toRes (c__law_some_deed (fns n) [some x0, none, none] A) := by
  rw [← f__law_some_deed]; kernel_rfl
theorem g__law_odd_deed_of (n : Nat) (x0 x1 : D) (A : AH) : fns (n + 1) "_law_odd_deed_of" [x0, x1] A = toRes (c__law_odd_deed_of (fns n) [some x0, some x1, none, none, none] A) := by
  rw [← f__law_odd_deed_of]; kernel_rfl
theorem g__law_some_text (n : Nat) (x0 x1 : D) (A : AH) : fns (n + 1) "_law_some_text" [x0, x1] A = toRes (c__law_some_text (fns n) [some x0, some x1, none] A) := by
  rw [← f__law_some_text]; kernel_rfl
theorem g__law_lines_right (n : Nat) (x0 : D) (A : AH) : fns (n + 1) "_law_lines_right" [x0] A = toRes (c__law_lines_right (fns n) [some x0, none, none, none, none, none, none, none, none] A) := by
  rw [← f__law_lines_right]; kernel_rfl
theorem g__law_long_right (n : Nat) (x0 : D) (A : AH) : fns (n + 1) "_law_long_right" [x0] A = toRes (c__law_long_right (fns n) [some x0, none, none] A) := by
  rw [← f__law_long_right]; kernel_rfl
theorem g_law (n : Nat) (x0 : D) (A : AH) : fns (n + 1) "law" [x0] A = toRes (c_law (fns n) [some x0, none, none, none] A) := by
  rw [← f_law]; kernel_rfl
end
/-! ## HK2 -/
section
set_option linter.all false
set_option maxRecDepth 100000
set_option maxHeartbeats 4000000
/-! Facts of the head as Bools, and what they say. -/
namespace HK
open PySem PySem.Spec PyProof.Rows L2 PySem.W
/-! ### a written dict of texts to numbers -/
theorem pair_at : ∀ {es : List DictEntry} {l : List (Str × Int)}, es.map pairO = l.map some → ∀ z, (l.lookup z = none ∧ es.find? (·.key.isStr z) = none) ∨ ∃ i e t, l.lookup z = some i ∧ es.find? (·.key.isStr z) = some e ∧ e.val = .int i t
  | [], [], _, z => .inl ⟨rfl, rfl⟩
  | [], _ :: _, h, z => by simp at h
  | _ :: _, [], h, z => by simp at h
  | e :: es, (x, i) :: l, h, z => by
    simp only [List.map_cons, List.cons.injEq] at h
    obtain ⟨h1, h2⟩ := h
    unfold pairO at h1
    split at h1
    · rename_i y t j u ek ev
      simp only [Option.some.injEq, Prod.mk.injEq] at h1
      obtain ⟨rfl, rfl⟩ := h1
      have es1 : e.key.isStr z = Value.isStrOf z e.key := isStr_of z e.key
      by_cases hz : z = y
      · subst hz
        refine .inr ⟨j, e, u, by simp [List.lookup], ?_, ev⟩
        rw [List.find?_cons_of_pos]
        rw [ek]
        simp [Value.isStr]
      · have hn : e.key.isStr z = false := by
          rw [ek]
          simp only [Value.isStr]
          simpa using fun q => hz q.symm
        rcases pair_at h2 z with ⟨q1, q2⟩ | ⟨i', e', t', q1, q2, q3⟩
        · refine .inl ⟨by rw [List.lookup_cons, beq_eq_false_iff_ne.mpr hz]; exact q1, ?_⟩
          rw [List.find?_cons_of_neg (by rw [hn]; decide), q2]
        · refine .inr ⟨i', e', t', by rw [List.lookup_cons, beq_eq_false_iff_ne.mpr hz]; exact q1, ?_, q3⟩
          rw [List.find?_cons_of_neg (by rw [hn]; decide), q2]
    · cases h1
theorem keys_of : ∀ {es : List DictEntry} {l : List (Str × Int)}, es.map pairO = l.map some → es.map M.keyS = (l.map (·.1)).map some
  | [], [], _ => rfl
  | [], _ :: _, h => by simp at h
  | _ :: _, [], h => by simp at h
  | e :: es, (x, i) :: l, h => by
    simp only [List.map_cons, List.cons.injEq] at h ⊢
    obtain ⟨h1, h2⟩ := h
    refine ⟨?_, keys_of h2⟩
    unfold pairO at h1
    split at h1
    · rename_i y t j u ek ev
      simp only [Option.some.injEq, Prod.mk.injEq] at h1
      unfold M.keyS
      rw [ek, h1.1]
    · cases h1
theorem norefs : ∀ {es : List DictEntry} {l : List (Str × Int)}, es.map pairO = l.map some → es.any (·.refKey) = false
  | [], [], _ => rfl
  | [], _ :: _, h => by simp at h
  | _ :: _, [], h => by simp at h
  | e :: es, (x, i) :: l, h => by
    simp only [List.map_cons, List.cons.injEq] at h
    obtain ⟨h1, h2⟩ := h
    rw [List.any_cons, norefs h2, Bool.or_false]
    unfold pairO at h1
    split at h1
    · rename_i y t j u ek ev
      unfold DictEntry.refKey
      rw [ek]
    · cases h1
theorem sok_of {K : Frag} {w : World} {a : Addr} {l : List (Str × Int)} (h1 : He.dicW K a = some (He.keysIn w.params (l.map (·.1)))) (h2 : dicB a l K = true) (nd : (l.map (·.1)).Nodup) (hz : l.length < 1000) : M.SOk ⟨[(a, l)]⟩ K w := by
  obtain ⟨es, n, D⟩ := He.dicW_ok h1
  have e : es.toList.map pairO = l.map some := by
    unfold dicB at h2
    rw [D.at_] at h2
    exact of_decide_eq_true h2
  have one : ∀ d l', List.lookup d [(a, l)] = some l' → d = a ∧ l' = l := fun d l' z => by
    simp only [List.lookup] at z
    split at z
    · rename_i q
      exact ⟨eq_of_beq q, (Option.some.inj z).symm⟩
    · cases z
  refine ⟨fun d l' z X hK hw hc => ?_, fun d l' z => ?_⟩
  · obtain ⟨rfl, rfl⟩ := one d l' z
    exact M.tp_of D (keys_of e) nd hz X hK hw hc
  · obtain ⟨rfl, rfl⟩ := one d l' z
    refine ⟨⟨es, n, D⟩, fun z => ?_⟩
    have en : nsIn K d z = (match es.toList.find? (·.key.isStr z) with
      | some e => some (some e.val)
      | none => if es.toList.any (·.refKey) then none else some none) := by
      unfold nsIn
      rw [D.at_]
      rfl
    rw [norefs e] at en
    rcases pair_at e z with ⟨q1, q2⟩ | ⟨i, e', t, q1, q2, q3⟩
    · rw [q2] at en
      exact .inl ⟨q1, en⟩
    · rw [q2] at en
      refine .inr ⟨i, e'.val, q1, en, ?_⟩
      rw [q3]
      exact ⟨t, rfl⟩
end HK
end
/-! ## HK3 -/
section
set_option linter.all false
set_option maxRecDepth 100000
set_option maxHeartbeats 4000000
/-! Facts of own exceptions. -/
namespace HK
open PySem PySem.Spec PyProof.Rows L2 PySem.W PySem.Calls
def vB (a b : Option (Option Value)) : Bool := He.eqO a b
theorem excCls_ok {K : Frag} {C : Addr} (q : excClsB C K = true) : ∃ nm q N bs bm sn sub ab col dd k0 k1 k2 k3 k5, K.lookup C = some (excClassObj nm q C N bs bm true sn sub ab col dd k0 k1 k2 k3 k5 "ValueError.__new__") ∧ HandSPX.refsVE bm = true := by
  unfold excClsB at q
  split at q
  · rename_i dd cd sl ho
    split at q
    · rename_i C' bm k0 k1 k2 k3 n k5 hm hs
      simp only [Bool.and_eq_true, beq_iff_eq, Bool.not_eq_true'] at q
      obtain ⟨⟨⟨⟨rfl, rfl⟩, hdel⟩, hd1⟩, ht⟩ := q
      obtain ⟨nm, bs, mro, ns, qn, hd, sn, sub, ab, col, del⟩ := cd
      dsimp only at hm hdel hd1
      subst hm hdel hd1
      have hsl : sl = #[k0, k1, k2, k3, some (.builtin "ValueError.__new__"), k5] := by
        obtain ⟨l⟩ := sl
        simp only at hs
        rw [hs]
      subst hsl
      exact ⟨nm, qn, ns, bs, bm, sn, sub, ab, col, dd, k0, k1, k2, k3, k5, ho, ht⟩
    · cases q
  · cases q
theorem cell_ok {K : Frag} {cc D : Addr} (h : cellB cc D K = true) : ∃ cl cld csl, K.lookup cc = some ⟨cl, cld, .cell (some (.ref D)), csl⟩ := by
  unfold cellB at h
  split at h
  · rename_i cl cld D' csl q
    obtain rfl : D' = D := eq_of_beq h
    exact ⟨cl, cld, csl, q⟩
  · cases h
theorem file_ok {K : Frag} {c : Addr} {file : Str} (h : fileB c file K = true) : ∃ ccl cdd vs ccs tf, K.lookup c = some ⟨ccl, cdd, .fields vs, ccs⟩ ∧ vs[2]? = some (.str file tf) := by
  unfold fileB at h
  split at h
  · rename_i ccl cdd vs ccs q
    split at h
    · rename_i f tf q2
      obtain rfl : f = file := eq_of_beq h
      exact ⟨ccl, cdd, vs, ccs, tf, q, q2⟩
    · cases h
  · cases h
/-- what a fact of a def is -/
abbrev Got (K : Frag) (x : DefA) : Prop := ∃ (oc dV kV doc pm ct : Value) (an od : Option Addr) (osl : Array (Option Value)),
    K.lookup x.f = some ⟨oc, od, .func (fnX x.name x.qual x.params x.body x.scope x.clo dV kV doc pm an (.ref x.c) ct), osl⟩ ∧ codeIn K (.ref x.c) x.qual = true ∧ DflV K dV x.dfl
theorem sup_ok {K : Frag} {prog : Program} {x : DefA} {cc D : Addr} (g : Got K x) (hn : x.name = "__init__") (hc : x.clo = [(("__class__" : Str), cc)]) (h1 : cellB cc D K = true) (h2 : fileB x.c prog.main.file K = true) : ∃ dV, MR.SupFn K prog x.f D x.qual x.params x.body x.scope dV ∧ DflV K dV x.dfl := by
  obtain ⟨oc, dV, kV, doc, pm, ct, an, od, osl, lk, hcd, hd⟩ := g
  obtain ⟨cl, cld, csl, e1⟩ := cell_ok h1
  obtain ⟨ccl, cdd, vs, ccs, tf, e2, e3⟩ := file_ok h2
  rw [hn, hc] at lk
  exact ⟨dV, ⟨oc, od, kV, doc, pm, an, x.c, ct, osl, cc, ccl, cdd, vs, ccs, prog.main.file, tf, cl, cld, csl, lk, hcd, e2, e3, beq_self_eq_true _, e1⟩, hd⟩
/-! ### the texts of the two __init__ -/
def initPos3 : List Stmt → List Pos
  | [.Expr (.Call (.Attribute (.Call (.Name _ p0) [] [] p1) _ p2) [.Name _ p3] [] p4) p5, .Assign [.Attribute (.Name _ q1) _ q2] (.Name _ q3) q4, .Assign [.Attribute (.Name _ r1) _ r2] (.Name _ r3) r4] => [p0, p1, p2, p3, p4, p5, q1, q2, q3, q4, r1, r2, r3, r4]
  | _ => []
def initPos2 : List Stmt → List Pos × Nat
  | [.Expr (.Call (.Attribute (.Call (.Name _ p0) [] [] p1) _ p2) [.Name _ p3, .Constant _ j p6] [] p4) p5] => ([p0, p1, p2, p3, p4, p5, p6], j)
  | _ => ([], 0)
def argPos (a : Arguments) : List Pos := a.args.map (·.pos)
def argDef (a : Arguments) : Expr := match a.defaults with
  | [e] => e
  | _ => .Name "" default
def at3 (l : List Pos) (i : Nat) : Pos := l.getD i default
/-- Refused.__init__ as it must be -/
def isInit3 (a : Arguments) (b : List Stmt) (s : Scope) : Prop := a = MR.iA3 (at3 (argPos a) 0) (at3 (argPos a) 1) (at3 (argPos a) 2) (argDef a) ∧
  b = MR.iB3 (at3 (initPos3 b) 0) (at3 (initPos3 b) 1) (at3 (initPos3 b) 2) (at3 (initPos3 b) 3) (at3 (initPos3 b) 4) (at3 (initPos3 b) 5) (at3 (initPos3 b) 6) (at3 (initPos3 b) 7) (at3 (initPos3 b) 8) (at3 (initPos3 b) 9) (at3 (initPos3 b) 10) (at3 (initPos3 b) 11) (at3 (initPos3 b) 12) (at3 (initPos3 b) 13) ∧ s = MR.iS3 ∧
  ((at3 (initPos3 b) 2).endLine == (at3 (initPos3 b) 4).line) = true
def isInit2 (wd : Str) (a : Arguments) (b : List Stmt) (s : Scope) : Prop := a = MR.iA2 (at3 (argPos a) 0) (at3 (argPos a) 1) ∧
  b = MR.iB2 wd (initPos2 b).2 (at3 (initPos2 b).1 0) (at3 (initPos2 b).1 1) (at3 (initPos2 b).1 2) (at3 (initPos2 b).1 3) (at3 (initPos2 b).1 4) (at3 (initPos2 b).1 5) (at3 (initPos2 b).1 6) ∧ s = MR.iS2 ∧
  ((at3 (initPos2 b).1 2).endLine == (at3 (initPos2 b).1 4).line) = true
/-! ### a raised class -/
theorem sub_ok {K : Frag} {prog : Program} {C R : Addr} {wd : Str} {xR xC : DefA} {ccR ccC : Addr} {v0 : V} (h : subB C R xR.f xC.f K = true) (gR : Got K xR) (gC : Got K xC)
    (nR : xR.name = "__init__") (nC : xC.name = "__init__") (cR : xR.clo = [(("__class__" : Str), ccR)]) (cC : xC.clo = [(("__class__" : Str), ccC)]) (h1 : cellB ccR R K = true) (h2 : cellB ccC C K = true)
    (f1 : fileB xR.c prog.main.file K = true) (f2 : fileB xC.c prog.main.file K = true) (dR : xR.dfl = [v0]) (dC : xC.dfl = []) (iR : isInit3 xR.params xR.body xR.scope) (iC : isInit2 wd xC.params xC.body xC.scope)
    (htop : (prog.main.scope.names.lookup ("super" : Str)).isSome = false) : MR.SubTxt K prog C R xR.f xC.f wd ∧ subIn K (.ref C) (.type "BaseException") = some true ∧ typeIn K (.ref C) = some (.type "type") := by
  obtain ⟨k1, h⟩ := He.ba h
  obtain ⟨k2, h⟩ := He.ba h
  obtain ⟨k3, h⟩ := He.ba h
  obtain ⟨k4, h⟩ := He.ba h
  obtain ⟨k5, h⟩ := He.ba h
  obtain ⟨k6, h⟩ := He.ba h
  obtain ⟨k7, h⟩ := He.ba h
  obtain ⟨k8, h⟩ := He.ba h
  obtain ⟨k9, h⟩ := He.ba h
  obtain ⟨k10, h⟩ := He.ba h
  obtain ⟨k11, h⟩ := He.ba h
  obtain ⟨k12, h⟩ := He.ba h
  obtain ⟨k13, h⟩ := He.ba h
  obtain ⟨k14, h⟩ := He.ba h
  obtain ⟨k15, h⟩ := He.ba h
  obtain ⟨k16, h⟩ := He.ba h
  obtain ⟨k17, k18⟩ := He.ba h
  obtain ⟨dV, sR, hdR⟩ := sup_ok gR nR cR h1 f1
  obtain ⟨dV2, sC, hdC⟩ := sup_ok gC nC cC h2 f2
  rw [dR] at hdR
  rw [dC] at hdC
  obtain ⟨i1, i2, i3, i4⟩ := iR
  obtain ⟨j1, j2, j3, j4⟩ := iC
  rcases hdC with ⟨_, rfl⟩ | ⟨z, _⟩
  · rcases hdR with ⟨z, _⟩ | ⟨_, T, o, its, n, rfl, lT, oT, vT⟩
    · cases z
    · cases vT with
      | cons rv rr =>
        cases rr
        rename_i d0
        refine ⟨{ cls := excCls_ok k1, sa := He.eqO_ok k2, n1 := He.eqO_ok k3, n2 := He.eqO_ok k4, subR := of_decide_eq_true k5, any := He.eqO_ok k6, supR := He.eqO_ok k7, subV := of_decide_eq_true k8, clR := Option.isSome_iff_exists.mp k9, fn := ?_, htop := htop, subC := of_decide_eq_true k10, supC := He.eqO_ok k11, fnR := k12, tR := of_decide_eq_true k13, iC := He.eqO_ok k14, tC := of_decide_eq_true k15, kC := k16, fnC := ?_ }, of_decide_eq_true k17, of_decide_eq_true k18⟩
        · refine ⟨T, o, d0, n, lT, oT, xR.qual, at3 (argPos xR.params) 0, at3 (argPos xR.params) 1, at3 (argPos xR.params) 2, argDef xR.params, at3 (initPos3 xR.body) 0, at3 (initPos3 xR.body) 1, at3 (initPos3 xR.body) 2, at3 (initPos3 xR.body) 3, at3 (initPos3 xR.body) 4, at3 (initPos3 xR.body) 5, at3 (initPos3 xR.body) 6, at3 (initPos3 xR.body) 7, at3 (initPos3 xR.body) 8, at3 (initPos3 xR.body) 9, at3 (initPos3 xR.body) 10, at3 (initPos3 xR.body) 11, at3 (initPos3 xR.body) 12, at3 (initPos3 xR.body) 13, ?_, i4⟩
          rw [← i1, ← i2, ← i3]
          exact sR
        · refine ⟨xC.qual, at3 (argPos xC.params) 0, at3 (argPos xC.params) 1, (initPos2 xC.body).2, at3 (initPos2 xC.body).1 0, at3 (initPos2 xC.body).1 1, at3 (initPos2 xC.body).1 2, at3 (initPos2 xC.body).1 3, at3 (initPos2 xC.body).1 4, at3 (initPos2 xC.body).1 5, at3 (initPos2 xC.body).1 6, ?_, j4⟩
          rw [← j1, ← j2, ← j3]
          exact sC
  · exact absurd rfl z
/-! ### a class that is heard -/
def rowsN (l : List (Str × Addr)) (nm : Str) : List (Str × Bool) := l.map fun p => (p.1, decide (p.1 = nm))
def ansN (l : List (Str × Addr)) (nm : Str) (z : Str) : Option Bool := (l.lookup z).map fun _ => decide (z = nm)
theorem mem_of_lookup {z : Str} {a : Addr} : ∀ {l : List (Str × Addr)}, l.lookup z = some a → (z, a) ∈ l
  | (y, b) :: l, h => by
    rw [List.lookup_cons] at h
    split at h
    · rename_i q
      rw [eq_of_beq q, Option.some.inj h]
      exact List.mem_cons_self
    · exact List.mem_cons_of_mem _ (mem_of_lookup h)
theorem mem_of_lookupA {z : Addr} {a : Str} : ∀ {l : List (Addr × Str)}, l.lookup z = some a → (z, a) ∈ l
  | (y, b) :: l, h => by
    rw [List.lookup_cons] at h
    split at h
    · rename_i q
      rw [eq_of_beq q, Option.some.inj h]
      exact List.mem_cons_self
    · exact List.mem_cons_of_mem _ (mem_of_lookupA h)
theorem exn_ok {K : Frag} {h : Heap} {mg : Str → Option Value} (X : K.In h) (G : h.Ns mainGlobals mg) {D R : Addr} {nm : Str} {l : List (Str × Addr)} {sgK : Scope} {es : List Expr} (h1 : exnB D R K = true) (h2 : kitB D l nm K = true) (h3 : glsB l K = true)
    (hl : nm.length < 1000) (hz : l.length < 1000) (hw : M.wordsOf (rowsN l nm) = [nm]) (hr : ∀ (a : Addr) (A : M.AH), M.aR (M.aE (M.clsRow sgK.names a (ansN l nm)) es) M.lstR [some (.con a)] A = .ok (.lst (M.rowsD (rowsN l nm))) A) : M.ExnTxt K mg R sgK es D nm := by
  obtain ⟨k1, h1⟩ := He.ba h1
  obtain ⟨k2, h1⟩ := He.ba h1
  obtain ⟨k3, h1⟩ := He.ba h1
  obtain ⟨k4, h1⟩ := He.ba h1
  obtain ⟨k5, h1⟩ := He.ba h1
  obtain ⟨k6, h1⟩ := He.ba h1
  obtain ⟨k7, h1⟩ := He.ba h1
  obtain ⟨k8, h1⟩ := He.ba h1
  obtain ⟨k9, k10⟩ := He.ba h1
  refine ⟨⟨He.eqO_ok k1, He.eqO_ok k2, of_decide_eq_true k3, k4, He.eqO_ok k5, He.eqO_ok k6, of_decide_eq_true k7, of_decide_eq_true k8⟩, ⟨He.eqO_ok k1, He.eqO_ok k2, of_decide_eq_true k3, k4⟩, He.eqO_ok k9, of_decide_eq_true k10, hl, rowsN l nm, ansN l nm, by unfold rowsN; rw [List.length_map]; exact hz, hw, fun z b e => ?_, hr⟩
  unfold ansN at e
  cases q : l.lookup z with
  | none => rw [q] at e; cases e
  | some C' =>
    rw [q] at e
    have e2 : decide (z = nm) = b := Option.some.inj e
    have m := mem_of_lookup q
    exact ⟨C', gl_ok X G (List.all_eq_true.mp h3 _ m), by rw [← e2]; exact of_decide_eq_true (List.all_eq_true.mp h2 _ m)⟩
end HK
end
/-! ## HK4 -/
section
set_option linter.all false
set_option maxRecDepth 100000
set_option maxHeartbeats 4000000
/-! From facts to the table's promises. -/
namespace HK
open PySem PySem.Spec PyProof.Rows L2 PySem.W PySem.Calls
def plainA (as : List Arg) : Arguments := ⟨[], as, none, [], [], none, []⟩
def BindsP (as : List Arg) : Prop := ∀ (x q : Str) (body : List Stmt) (sc : Scope) (kV doc pm cdv ct : Value) (an : Option Addr) (us : List Value), us.length = as.length → bindArgs (fnOf x q (plainA as) body sc .none kV doc pm an cdv ct) ⟨us, []⟩ = pure ((as.map (·.arg)).zip us)
variable {K : Frag} {h base : Heap} {mg : Str → Option Value} {T : List (Addr × Str)} {t : M.Tab} {d : M.DefI} {x : DefA}
/-- a def whose parameters are all given -/
theorem pad0 {fd : FuncData} {ps : List Str} (h : L2.Binds K fd ps []) : M.PadOk K fd ps ps.length [] := ⟨rfl, fun n ds e => by
  unfold M.padN at e
  split at e
  · rename_i hn
    simp only [List.length_nil, Nat.zero_sub, List.drop_nil, Option.some.injEq] at e
    exact ⟨[], [], h, .nil, by rw [← e]; rfl⟩
  · cases e⟩
theorem binds0 {dV : Value} {kV doc pm ct cdv : Value} {an : Option Addr} {as : List Arg} {n q : Str} {body : List Stmt} {sc : Scope} (h : DflV K dV []) (l5 : BindsP as) : L2.Binds K (fnOf n q (plainA as) body sc dV kV doc pm an cdv ct) (as.map (·.arg)) [] := by
  rcases h with ⟨_, rfl⟩ | ⟨z, _⟩
  · exact .all fun us hu => l5 _ _ _ _ _ _ _ _ _ _ us (by rw [hu, List.length_map])
  · exact absurd rfl z
theorem la_none {c : Value} {q : Str} (e : d.la = none) : M.LaOk (t.withLa d.la) T base mg q c := fun _ _ _ z => by
  rw [e] at z
  cases z
theorem la_some {c P : Addr} {q l : Str} (e : d.la = some (c, P, l)) (TB : LamX.TabB base mg c P) (hq : (q ++ ".<locals>.") ++ "<lambda>" = l) (m : (P, l) ∈ T) (u : ∀ p ∈ T, p.1 = P → p.2 = l) : M.LaOk (t.withLa d.la) T base mg q (.ref c) := fun _ _ _ z => by
  rw [e] at z
  cases z
  exact ⟨rfl, TB, hq, m, u⟩
theorem binds_of {as : List Arg} {np : Nat} (hn : as.length = np) (h : ∀ (us : List Value), us.length = np → ∀ (x q : Str) (body : List Stmt) (sc : Scope) (kV doc pm cdv ct : Value) (an : Option Addr), bindArgs (fnOf x q (plainA as) body sc .none kV doc pm an cdv ct) ⟨us, []⟩ = pure ((as.map (·.arg)).zip us)) : BindsP as :=
  fun x q body sc kV doc pm cdv ct an us hu => h us (by rw [hu, hn]) x q body sc kV doc pm cdv ct an
theorem def_hd {as : List Arg} {ps : List Str} {np : Nat} (g : Got K x) (hc : x.clo = []) (hd : x.dfl = []) (hp : x.params = plainA as) (hps : as.map (·.arg) = ps) (hn : as.length = np) (l5 : BindsP as) (hb : d.body = x.body) (hs : d.sc = x.scope) (S : FnScope d.N ps d.sc) (hla : M.LaOk (t.withLa d.la) T base mg x.qual (.ref x.c)) :
    ∃ fd, M.PadOk K fd ps np [] ∧ M.DefHd t K mg base T d x.f fd ps := by
  subst hps hn
  obtain ⟨oc, dV, kV, doc, pm, ct, an, od, osl, lk, hcd, hD⟩ := g
  rw [hc, hp, ← hb, ← hs] at lk
  rw [hd] at hD
  have e : as.length = (as.map (·.arg)).length := by rw [List.length_map]
  refine ⟨_, ?_, ⟨x.name, x.qual, plainA as, dV, kV, doc, pm, .ref x.c, ct, oc, an, od, osl, rfl, lk, hcd, hla⟩, S⟩
  rw [e]
  exact pad0 (binds0 hD l5)
/-- what the table's row of a def asks -/
def FnRow (t : M.Tab) (ds : List M.DefI) (K : Frag) (mg : Str → Option Value) (base : Heap) (T : List (Addr × Str)) (y : Str) (np : Nat) (dl : List M.D) : Prop :=
  ∃ d f fd ps, ds.find? (fun d => decide (d.key = y)) = some d ∧ mg y = some (.ref f) ∧ keepIn K (.ref f) = true ∧ M.PadOk K fd ps np dl ∧ M.DefHd t K mg base T d f fd ps
theorem fn_case {as : List Arg} {ps : List Str} {np : Nat} {ds : List M.DefI} {y : Str} (X : K.In h) (G : h.Ns mainGlobals mg) (d : M.DefI) (x : DefA) (g : Got K x) (h1 : gl y x.f K = true) (h2 : kp x.f K = true) (hf : ds.find? (fun d => decide (d.key = y)) = some d) (hc : x.clo = []) (hd : x.dfl = []) (hp : x.params = plainA as) (hps : as.map (·.arg) = ps) (hn : as.length = np) (l5 : BindsP as)
    (hb : d.body = x.body) (hs : d.sc = x.scope) (S : FnScope d.N ps d.sc) (hla : M.LaOk (t.withLa d.la) T base mg x.qual (.ref x.c)) : FnRow t ds K mg base T y np [] := by
  obtain ⟨fd, q1, q2⟩ := def_hd (t := t) g hc hd hp hps hn l5 hb hs S hla
  exact ⟨d, x.f, fd, _, hf, gl_ok X G h1, h2, q1, q2⟩
def MsRow (t : M.Tab) (ds : List M.DefI) (K : Frag) (mg : Str → Option Value) (base : Heap) (T : List (Addr × Str)) (C : Addr) (m key : Str) (np : Nat) (dl : List M.D) : Prop :=
  ∃ d f fd ps, ds.find? (fun d => decide (d.key = key)) = some d ∧ Meth K C m f ∧ M.PadOk K fd ps np dl ∧ M.DefHd t K mg base T d f fd ps
theorem ms_case {as : List Arg} {ps : List Str} {np : Nat} {ds : List M.DefI} {C : Addr} {m key : Str} (d : M.DefI) (x : DefA) (g : Got K x) (h1 : methB C m x.f K = true) (hf : ds.find? (fun d => decide (d.key = key)) = some d) (hc : x.clo = []) (hd : x.dfl = []) (hp : x.params = plainA as) (hps : as.map (·.arg) = ps) (hn : as.length = np) (l5 : BindsP as)
    (hb : d.body = x.body) (hs : d.sc = x.scope) (S : FnScope d.N ps d.sc) (hla : M.LaOk (t.withLa d.la) T base mg x.qual (.ref x.c)) : MsRow t ds K mg base T C m key np [] := by
  obtain ⟨fd, q1, q2⟩ := def_hd (t := t) g hc hd hp hps hn l5 hb hs S hla
  exact ⟨d, x.f, fd, _, hf, meth_ok h1, q1, q2⟩
theorem cls_case {as : List Arg} {ps : List Str} {np : Nat} {ds : List M.DefI} {C : Addr} {y key : Str} (X : K.In h) (G : h.Ns mainGlobals mg) (d : M.DefI) (x : DefA) (g : Got K x) (h1 : gl y C K = true) (h2 : mkB C x.f K = true) (hf : ds.find? (fun d => decide (d.key = key)) = some d) (hc : x.clo = []) (hd : x.dfl = []) (hp : x.params = plainA as) (hps : as.map (·.arg) = ps) (hn : as.length = np) (l5 : BindsP as)
    (hb : d.body = x.body) (hs : d.sc = x.scope) (S : FnScope d.N ps d.sc) (hla : M.LaOk (t.withLa d.la) T base mg x.qual (.ref x.c)) :
    mg y = some (.ref C) ∧ ∃ d f fd ps, ds.find? (fun d => decide (d.key = key)) = some d ∧ Mk K C f ∧ M.PadOk K fd ps np [] ∧ M.DefHd t K mg base T d f fd ps := by
  obtain ⟨fd, q1, q2⟩ := def_hd (t := t) g hc hd hp hps hn l5 hb hs S hla
  exact ⟨gl_ok X G h1, d, x.f, fd, _, hf, mk_ok h2, q1, q2⟩
/-- a def with defaults -/
theorem padD {fd : FuncData} {ps : List Str} {dl : List M.D} {dvs : List V} (hl : dl.length = dvs.length)
    (h : ∀ n j, n + (dvs.length - j) = ps.length → n ≤ ps.length → j ≤ dvs.length → ∃ ds, Vals (dvs.drop j) ds ∧ L2.Binds K fd ps ds) (sv : ∀ j, M.svs (dl.drop j) = some (dvs.drop j)) : M.PadOk K fd ps ps.length dl := ⟨rfl, fun n ds e => by
  unfold M.padN at e
  split at e
  · rename_i hn
    simp only [Option.some.injEq] at e
    obtain ⟨us, h1, h2⟩ := h n (dl.length - (ps.length - n)) (by omega) hn.1 (by omega)
    exact ⟨us, _, h2, h1, by rw [← e]; exact sv _⟩
  · cases e⟩
theorem ms_caseD {ps : List Str} {np : Nat} {ds : List M.DefI} {C : Addr} {m key : Str} {dl : List M.D} (d : M.DefI) (x : DefA) (g : Got K x) (h1 : methB C m x.f K = true) (hf : ds.find? (fun d => decide (d.key = key)) = some d) (hc : x.clo = []) (hn : ps.length = np) (hd : x.dfl ≠ []) (hl : dl.length = x.dfl.length) (sv : ∀ j, M.svs (dl.drop j) = some (x.dfl.drop j))
    (hbind : ∀ n j, n + (x.dfl.length - j) = ps.length → n ≤ ps.length → j ≤ x.dfl.length → ∀ (T : Addr) (kV doc pm : Value) (an : Option Addr) (cdv ct : Value) (us its : List Value), us.length = n → its.length = x.dfl.length →
      ∃ k, bindArgs (fnOf x.name x.qual x.params x.body x.scope (.ref T) kV doc pm an cdv ct) ⟨us, []⟩ = seqItems? (.ref T) >>= k ∧ k (some its.toArray) = pure (ps.zip (us ++ its.drop j)))
    (hb : d.body = x.body) (hs : d.sc = x.scope) (S : FnScope d.N ps d.sc) (hla : M.LaOk (t.withLa d.la) T base mg x.qual (.ref x.c)) : MsRow t ds K mg base T C m key np dl := by
  subst hn
  have M0 := meth_ok h1
  obtain ⟨oc, dV, kV, doc, pm, ct, an, od, osl, lk, hcd, hD⟩ := g
  rw [hc] at lk
  have F : FunD K x.name x.qual x.params x.body x.scope x.dfl [] x.f (fnOf x.name x.qual x.params x.body x.scope dV kV doc pm an (.ref x.c) ct) := ⟨⟨oc, od, dV, kV, doc, pm, an, .ref x.c, ct, osl, rfl, lk, hcd, hD, .inl rfl⟩, M0.kp⟩
  refine ⟨d, x.f, _, ps, hf, M0, padD hl (fun n j e1 e2 e3 => F.binds1 n j hd e1 (hbind n j e1 e2 e3)) sv, ⟨x.name, x.qual, x.params, dV, kV, doc, pm, .ref x.c, ct, oc, an, od, osl, ?_, lk, hcd, hla⟩, S⟩
  rw [hb, hs]
/-- the def that a DefTxt tells of -/
theorem def_txt {as : List Arg} {ps : List Str} {N : List Str} {y : Str} {body : List Stmt} {sg : Scope} (X : K.In h) (G : h.Ns mainGlobals mg) (x : DefA) (g : Got K x) (h1 : gl y x.f K = true) (h2 : kp x.f K = true) (hn : x.name = y) (hq : x.qual = y) (hc : x.clo = []) (hd : x.dfl = []) (hp : x.params = plainA as) (hps : as.map (·.arg) = ps) (l5 : BindsP as)
    (hb : x.body = body) (hs : x.scope = sg) (S : FnScope N ps sg) : M.DefTxt K mg y N ps x.f (plainA as) body sg := by
  subst hps
  obtain ⟨oc, dV, kV, doc, pm, ct, an, od, osl, lk, hcd, hD⟩ := g
  rw [hc, hp, hn, hq, hb, hs] at lk
  rw [hq] at hcd
  rw [hd] at hD
  exact ⟨gl_ok X G h1, h2, ⟨oc, od, dV, kV, doc, pm, .ref x.c, ct, an, osl, lk, hcd, binds0 hD l5⟩, S⟩
/-! ### the texts of _law_heard, _law_tells, _law_refuses -/
def heardPos : List Stmt → List Pos × List Nat
  | [.Try [.Return (some (.Tuple [.Constant _ j4 q18, .Call (.Name _ q19) [] [] q20] j5 q21)) q22] [.ExceptHandler (some (.Name _ q23)) _ [.Return (some (.Tuple [.Call (.Attribute (.Constant _ j0 q0) _ q1) [.ListComp (.Subscript (.Name _ q7) (.Constant _ j1 q8) q9) [⟨.Name _ q10, .Call (.Name _ q11) [.Name _ q12] [] q13, [.Subscript (.Name _ q14) (.Constant _ j2 q15) q16], _⟩] _ q17] [] q2,
      .Attribute (.Name _ q3) _ q4] j3 q5)) q6] q24] [] [] q25] => ([q0, q1, q2, q3, q4, q5, q6, q7, q8, q9, q10, q11, q12, q13, q14, q15, q16, q17, q18, q19, q20, q21, q22, q23, q24, q25], [j0, j1, j2, j3, j4, j5])
  | _ => ([], [])
def tellsPos : List Stmt → List Pos × List Nat
  | [.Return (some (.Call (.Name _ q0) [.Call (.Name _ q1) [.Name _ q2] [] q3, .Tuple [.Constant _ j0 q4, .Name _ q5] j1 q6] [] q7)) q8] => ([q0, q1, q2, q3, q4, q5, q6, q7, q8], [j0, j1])
  | [.Return (some (.Call (.Name _ q0) [.Call (.Name _ q1) [.Name _ q2] [] q3, .Tuple [.Name _ q4, .Name _ q5] j1 q6] [] q7)) q8] => ([q0, q1, q2, q3, q4, q5, q6, q7, q8], [0, j1])
  | _ => ([], [])
def listOf : List Stmt → List Expr × Pos × Pos
  | [.Return (some (.List es p1)) p2] => (es, p1, p2)
  | _ => ([], default, default)
def atP (l : List Pos × List Nat) (i : Nat) : Pos := l.1.getD i default
def atJ (l : List Pos × List Nat) (i : Nat) : Nat := l.2.getD i 0
/-! ### the rows of _law_classes -/
def rowP (nk : List (Str × NameKind)) (ans : Str → Option Bool) : Expr → Option (Str × Bool)
  | .Tuple [.Constant (.str x) _ _, .Call (.Name f _) [.Name y _, .Name z _] [] _] _ _ => if f = "isinstance" ∧ y = "refused_one" ∧ M.isGl ⟨[], nk, false, false⟩ z = true ∧ M.plainName z = true then (ans z).map fun b => (x, b) else none
  | _ => none
def rowsP (nk : List (Str × NameKind)) (ans : Str → Option Bool) : List Expr → Option (List (Str × Bool))
  | [] => some []
  | e :: es => (rowP nk ans e).bind fun r => (rowsP nk ans es).map fun rs => r :: rs
theorem rowP_ok {nk : List (Str × NameKind)} {ans : Str → Option Bool} {e : Expr} {r : Str × Bool} (h : rowP nk ans e = some r) (a : Addr) (A : M.AH) : (∀ x p, e ≠ .Starred x p) ∧ M.clsRow nk a ans e [some (.con a)] A = .ok (.tup [.str r.1, .bl r.2]) A := by
  unfold rowP at h
  split at h
  · rename_i x j p f p1 y p2 z p3 p4 k p5
    split at h
    · rename_i c
      cases q : ans z with
      | none => rw [q] at h; cases h
      | some b =>
        rw [q] at h
        obtain rfl := Option.some.inj h
        refine ⟨fun _ _ z => (by cases z), ?_⟩
        have e1 : M.clsCell nk a ans (.Constant (.str x) j p) [some (.con a)] A = .ok (.str x) A := rfl
        have e2 : M.clsCell nk a ans (.Call (.Name f p1) [.Name y p2, .Name z p3] [] p4) [some (.con a)] A = .ok (.bl b) A := by
          simp only [M.clsCell]
          rw [if_pos c, q]
          simp [M.conIs, M.eVar, M.Res.bind]
        simp only [M.clsRow, M.aR, M.aE, e1, e2, M.Res.bind]
        rfl
    · cases h
  · cases h
theorem rowsA {nk : List (Str × NameKind)} {ans : Str → Option Bool} (a : Addr) (A : M.AH) : ∀ {es : List Expr} {rs : List (Str × Bool)}, rowsP nk ans es = some rs → M.aE (M.clsRow nk a ans) es [some (.con a)] A = .ok (M.rowsD rs) A
  | [], rs, h => by
    obtain rfl := Option.some.inj h
    rfl
  | e :: es, rs, h => by
    unfold rowsP at h
    cases q1 : rowP nk ans e with
    | none => rw [q1] at h; cases h
    | some r =>
      rw [q1] at h
      cases q2 : rowsP nk ans es with
      | none => rw [q2] at h; cases h
      | some rs' =>
        rw [q2] at h
        obtain rfl := Option.some.inj h
        obtain ⟨n, o⟩ := rowP_ok q1 a A
        have ih := rowsA a A q2
        have st : M.aE (M.clsRow nk a ans) (e :: es) [some (.con a)] A = (M.clsRow nk a ans e [some (.con a)] A).bind fun x A1 => (M.aE (M.clsRow nk a ans) es [some (.con a)] A1).bind fun ys A2 => .ok (x :: ys) A2 := by
          cases e <;> first | rfl | exact absurd rfl (n _ _)
        rw [st, o]
        show (M.aE (M.clsRow nk a ans) es [some (.con a)] A).bind _ = _
        rw [ih]
        rfl
theorem rows_ok {nk : List (Str × NameKind)} {ans : Str → Option Bool} {es : List Expr} {rs : List (Str × Bool)} (h : rowsP nk ans es = some rs) (hl : rs.length < 1000) (a : Addr) (A : M.AH) : M.aR (M.aE (M.clsRow nk a ans) es) M.lstR [some (.con a)] A = .ok (.lst (M.rowsD rs)) A := by
  unfold M.aR
  rw [rowsA a A h]
  show M.lstR (M.rowsD rs) A = _
  unfold M.lstR
  rw [if_pos (by unfold M.rowsD; rw [List.length_map, sizeLine_eq]; omega)]
/-! ### Reader.natural(self, low = 0, high = None) -/
def natA (p1 p2 p3 : Pos) (e1 e2 : Expr) : Arguments := ⟨[], [⟨"self", none, p1⟩, ⟨"low", none, p2⟩, ⟨"high", none, p3⟩], none, [], [], none, [e1, e2]⟩
theorem nat_bind {p1 p2 p3 : Pos} {d1 d2 : Expr} {x q : Str} {body : List Stmt} {sc : Scope} (n j : Nat) (h1 : n + (2 - j) = 3) (h2 : n ≤ 3) (h3 : j ≤ 2) (T : Addr) (kV doc pm : Value) (an : Option Addr) (cdv ct : Value) (us its : List Value) (h4 : us.length = n) (h5 : its.length = 2) :
    ∃ k, bindArgs (fnOf x q (natA p1 p2 p3 d1 d2) body sc (.ref T) kV doc pm an cdv ct) ⟨us, []⟩ = seqItems? (.ref T) >>= k ∧ k (some its.toArray) = pure ((["self", "low", "high"] : List Str).zip (us ++ its.drop j)) := by
  match j, us, its, h5 with
  | 0, [u], [a, b], _ => exact ⟨_, rfl, rfl⟩
  | 1, [u, v], [a, b], _ => exact ⟨_, rfl, rfl⟩
  | 2, [u, v, z], [a, b], _ => exact ⟨_, rfl, rfl⟩
  | 0, [], _, _ => simp at h4; omega
  | 0, _ :: _ :: _, _, _ => simp at h4; omega
  | 1, [], _, _ => simp at h4; omega
  | 1, [_], _, _ => simp at h4; omega
  | 1, _ :: _ :: _ :: _, _, _ => simp at h4; omega
  | 2, [], _, _ => simp at h4; omega
  | 2, [_], _, _ => simp at h4; omega
  | 2, [_, _], _, _ => simp at h4; omega
  | 2, _ :: _ :: _ :: _ :: _, _, _ => simp at h4; omega
  | j + 3, _, _, _ => omega
def argDefs (a : Arguments) (i : Nat) : Expr := a.defaults.getD i (.Name "" default)
end HK
end
/-! ## H83T -/
section
set_option linter.all false
set_option maxRecDepth 100000
set_option maxHeartbeats 4000000
/-! The table is true of the top. -/
open PySem PySem.Spec PyProof.Rows L2 PySem.W PySem.Calls M
def argsA (s : Stmt) : List Arg := (defArgs s).args
abbrev PP : Program := PySem.Challenge.rw_slotsbehind_k83_lines_of_deeds.prog
def lamTb : List (Addr × Str) := [(1603, "_law_lines_right.<locals>.<lambda>"), (1610, "_law_long_right.<locals>.<lambda>")]
abbrev Kn (K : Frag) (w : World) : Prop := HK.obsK hd K = HK.valK hd w
theorem s_whole : FnScope N_whole ["thing", "low", "high"] (defScope (stAt 63)) := ⟨by kernel_rfl, by kernel_rfl, by kernel_rfl, by decide +kernel, by kernel_rfl, by decide +kernel, by decide +kernel⟩
theorem s_is_deed : FnScope N_is_deed ["thing"] (defScope (stAt 67)) := ⟨by kernel_rfl, by kernel_rfl, by kernel_rfl, by decide +kernel, by kernel_rfl, by decide +kernel, by decide +kernel⟩
theorem s_lines_of : FnScope N_lines_of ["text"] (defScope (stAt 71)) := ⟨by kernel_rfl, by kernel_rfl, by kernel_rfl, by decide +kernel, by kernel_rfl, by decide +kernel, by decide +kernel⟩
theorem s_words_of : FnScope N_words_of ["line"] (defScope (stAt 72)) := ⟨by kernel_rfl, by kernel_rfl, by kernel_rfl, by decide +kernel, by kernel_rfl, by decide +kernel, by decide +kernel⟩
theorem s_number_of : FnScope N_number_of ["word"] (defScope (stAt 73)) := ⟨by kernel_rfl, by kernel_rfl, by kernel_rfl, by decide +kernel, by kernel_rfl, by decide +kernel, by decide +kernel⟩
theorem s_Reader___init__ : FnScope N_Reader___init__ ["self", "words", "line"] (defScope (mtAt 75 0)) := ⟨by kernel_rfl, by kernel_rfl, by kernel_rfl, by decide +kernel, by kernel_rfl, by decide +kernel, by decide +kernel⟩
theorem s_Reader_refuse : FnScope N_Reader_refuse ["self", "at"] (defScope (mtAt 75 1)) := ⟨by kernel_rfl, by kernel_rfl, by kernel_rfl, by decide +kernel, by kernel_rfl, by decide +kernel, by decide +kernel⟩
theorem s_Reader_is_over : FnScope N_Reader_is_over ["self"] (defScope (mtAt 75 2)) := ⟨by kernel_rfl, by kernel_rfl, by kernel_rfl, by decide +kernel, by kernel_rfl, by decide +kernel, by decide +kernel⟩
theorem s_Reader_word : FnScope N_Reader_word ["self"] (defScope (mtAt 75 3)) := ⟨by kernel_rfl, by kernel_rfl, by kernel_rfl, by decide +kernel, by kernel_rfl, by decide +kernel, by decide +kernel⟩
theorem s_Reader_one_of : FnScope N_Reader_one_of ["self", "choices"] (defScope (mtAt 75 4)) := ⟨by kernel_rfl, by kernel_rfl, by kernel_rfl, by decide +kernel, by kernel_rfl, by decide +kernel, by decide +kernel⟩
theorem s_Reader_natural : FnScope N_Reader_natural ["self", "low", "high"] (defScope (mtAt 75 5)) := ⟨by kernel_rfl, by kernel_rfl, by kernel_rfl, by decide +kernel, by kernel_rfl, by decide +kernel, by decide +kernel⟩
theorem s_Reader_end : FnScope N_Reader_end ["self"] (defScope (mtAt 75 7)) := ⟨by kernel_rfl, by kernel_rfl, by kernel_rfl, by decide +kernel, by kernel_rfl, by decide +kernel, by decide +kernel⟩
theorem s_reader_at : FnScope N_reader_at ["lines", "index"] (defScope (stAt 76)) := ⟨by kernel_rfl, by kernel_rfl, by kernel_rfl, by decide +kernel, by kernel_rfl, by decide +kernel, by decide +kernel⟩
theorem s_end_lines : FnScope N_end_lines ["lines", "many"] (defScope (stAt 77)) := ⟨by kernel_rfl, by kernel_rfl, by kernel_rfl, by decide +kernel, by kernel_rfl, by decide +kernel, by decide +kernel⟩
theorem s_deed_text : FnScope N_deed_text ["deed"] (defScope (stAt 79)) := ⟨by kernel_rfl, by kernel_rfl, by kernel_rfl, by decide +kernel, by kernel_rfl, by decide +kernel, by decide +kernel⟩
theorem s_deed_in : FnScope N_deed_in ["reader"] (defScope (stAt 80)) := ⟨by kernel_rfl, by kernel_rfl, by kernel_rfl, by decide +kernel, by kernel_rfl, by decide +kernel, by decide +kernel⟩
theorem s_read_deed : FnScope N_read_deed ["text"] (defScope (stAt 81)) := ⟨by kernel_rfl, by kernel_rfl, by kernel_rfl, by decide +kernel, by kernel_rfl, by decide +kernel, by decide +kernel⟩
theorem s__law_pool : FnScope N__law_pool ["script", "k"] (defScope (stAt 83)) := ⟨by kernel_rfl, by kernel_rfl, by kernel_rfl, by decide +kernel, by kernel_rfl, by decide +kernel, by decide +kernel⟩
theorem s__law_take : FnScope N__law_take ["jar", "top"] (defScope (stAt 84)) := ⟨by kernel_rfl, by kernel_rfl, by kernel_rfl, by decide +kernel, by kernel_rfl, by decide +kernel, by decide +kernel⟩
theorem s__law_one : FnScope N__law_one ["jar", "things"] (defScope (stAt 85)) := ⟨by kernel_rfl, by kernel_rfl, by kernel_rfl, by decide +kernel, by kernel_rfl, by decide +kernel, by decide +kernel⟩
theorem s__law_long_number : FnScope N__law_long_number ["jar", "figures"] (defScope (stAt 86)) := ⟨by kernel_rfl, by kernel_rfl, by kernel_rfl, by decide +kernel, by kernel_rfl, by decide +kernel, by decide +kernel⟩
theorem s__law_is_deed : FnScope N__law_is_deed ["thing"] (defScope (stAt 87)) := ⟨by kernel_rfl, by kernel_rfl, by kernel_rfl, by decide +kernel, by kernel_rfl, by decide +kernel, by decide +kernel⟩
theorem s__law_text_wrong : FnScope N__law_text_wrong ["thing"] (defScope (stAt 88)) := ⟨by kernel_rfl, by kernel_rfl, by kernel_rfl, by decide +kernel, by kernel_rfl, by decide +kernel, by decide +kernel⟩
theorem s__law_word_number : FnScope N__law_word_number ["word"] (defScope (stAt 89)) := ⟨by kernel_rfl, by kernel_rfl, by kernel_rfl, by decide +kernel, by kernel_rfl, by decide +kernel, by decide +kernel⟩
theorem s__law_lot_word : FnScope N__law_lot_word ["lot"] (defScope (stAt 90)) := ⟨by kernel_rfl, by kernel_rfl, by kernel_rfl, by decide +kernel, by kernel_rfl, by decide +kernel, by decide +kernel⟩
theorem s__law_word_at : FnScope N__law_word_at ["said", "at"] (defScope (stAt 91)) := ⟨by kernel_rfl, by kernel_rfl, by kernel_rfl, by decide +kernel, by kernel_rfl, by decide +kernel, by decide +kernel⟩
theorem s__law_wrong_at : FnScope N__law_wrong_at ["said", "lets"] (defScope (stAt 92)) := ⟨by kernel_rfl, by kernel_rfl, by kernel_rfl, by decide +kernel, by kernel_rfl, by decide +kernel, by decide +kernel⟩
theorem s__law_spoken : FnScope N__law_spoken ["some"] (defScope (stAt 93)) := ⟨by kernel_rfl, by kernel_rfl, by kernel_rfl, by decide +kernel, by kernel_rfl, by decide +kernel, by decide +kernel⟩
theorem s__law_deed_sizes : FnScope N__law_deed_sizes [] (defScope (stAt 94)) := ⟨by kernel_rfl, by kernel_rfl, by kernel_rfl, by decide +kernel, by kernel_rfl, by decide +kernel, by decide +kernel⟩
theorem s__law_read_deed_words : FnScope N__law_read_deed_words ["said"] (defScope (stAt 95)) := ⟨by kernel_rfl, by kernel_rfl, by kernel_rfl, by decide +kernel, by kernel_rfl, by decide +kernel, by decide +kernel⟩
theorem s__law_read_deed : FnScope N__law_read_deed ["text"] (defScope (stAt 96)) := ⟨by kernel_rfl, by kernel_rfl, by kernel_rfl, by decide +kernel, by kernel_rfl, by decide +kernel, by decide +kernel⟩
theorem s__law_bent_text : FnScope N__law_bent_text ["jar", "text"] (defScope (stAt 97)) := ⟨by kernel_rfl, by kernel_rfl, by kernel_rfl, by decide +kernel, by kernel_rfl, by decide +kernel, by decide +kernel⟩
theorem s__law_is_whole : FnScope N__law_is_whole ["thing"] (defScope (stAt 98)) := ⟨by kernel_rfl, by kernel_rfl, by kernel_rfl, by decide +kernel, by kernel_rfl, by decide +kernel, by decide +kernel⟩
theorem s__law_same : FnScope N__law_same ["told", "owed"] (defScope (stAt 99)) := ⟨by kernel_rfl, by kernel_rfl, by kernel_rfl, by decide +kernel, by kernel_rfl, by decide +kernel, by decide +kernel⟩
theorem s__law_some_number : FnScope N__law_some_number ["jar"] (defScope (stAt 104)) := ⟨by kernel_rfl, by kernel_rfl, by kernel_rfl, by decide +kernel, by kernel_rfl, by decide +kernel, by decide +kernel⟩
theorem s__law_some_deed : FnScope N__law_some_deed ["jar"] (defScope (stAt 105)) := ⟨by kernel_rfl, by kernel_rfl, by kernel_rfl, by decide +kernel, by kernel_rfl, by decide +kernel, by decide +kernel⟩
theorem s__law_odd_deed_of : FnScope N__law_odd_deed_of ["jar", "deed"] (defScope (stAt 106)) := ⟨by kernel_rfl, by kernel_rfl, by kernel_rfl, by decide +kernel, by kernel_rfl, by decide +kernel, by decide +kernel⟩
theorem s__law_some_text : FnScope N__law_some_text ["jar", "text"] (defScope (stAt 107)) := ⟨by kernel_rfl, by kernel_rfl, by kernel_rfl, by decide +kernel, by kernel_rfl, by decide +kernel, by decide +kernel⟩
theorem s__law_lines_right : FnScope N__law_lines_right ["jar"] (defScope (stAt 108)) := ⟨by kernel_rfl, by kernel_rfl, by kernel_rfl, by decide +kernel, by kernel_rfl, by decide +kernel, by decide +kernel⟩
theorem s__law_long_right : FnScope N__law_long_right ["jar"] (defScope (stAt 109)) := ⟨by kernel_rfl, by kernel_rfl, by kernel_rfl, by decide +kernel, by kernel_rfl, by decide +kernel, by decide +kernel⟩
theorem s_law : FnScope N_law ["script"] (defScope (stAt 110)) := ⟨by kernel_rfl, by kernel_rfl, by kernel_rfl, by decide +kernel, by kernel_rfl, by decide +kernel, by decide +kernel⟩
theorem s__law_heard : FnScope ["deed", "refused_one", "line"] ["deed"] (defScope (stAt 101)) := ⟨by kernel_rfl, by kernel_rfl, by kernel_rfl, by decide +kernel, by kernel_rfl, by decide +kernel, by decide +kernel⟩
theorem s__law_tells : FnScope ["deed", "owed"] ["deed", "owed"] (defScope (stAt 102)) := ⟨by kernel_rfl, by kernel_rfl, by kernel_rfl, by decide +kernel, by kernel_rfl, by decide +kernel, by decide +kernel⟩
theorem s__law_refuses : FnScope ["deed", "name", "what"] ["deed", "name", "what"] (defScope (stAt 103)) := ⟨by kernel_rfl, by kernel_rfl, by kernel_rfl, by decide +kernel, by kernel_rfl, by decide +kernel, by decide +kernel⟩
theorem s__law_classes : FnScope ["refused_one"] ["refused_one"] (defScope (stAt 100)) := ⟨by kernel_rfl, by kernel_rfl, by kernel_rfl, by decide +kernel, by kernel_rfl, by decide +kernel, by decide +kernel⟩
section
variable {w : World} {h base : Heap} {mg : Str → Option Value} {K : Frag}
theorem t_whole (e : Kn K w) (X : K.In h) (G : h.Ns mainGlobals mg) (TB : ∀ p ∈ hdTs, LamX.TabB base mg p.1 p.2) : HK.FnRow tab defsL K mg base lamTb "whole" 3 [] :=
  HK.fn_case (as := argsA (stAt 63)) (ps := ["thing", "low", "high"]) X G d_whole a_whole (HK.def_ e 0 rfl) (HK.fact e 2 rfl) (HK.fact e 3 rfl) (by kernel_rfl) rfl rfl (by kernel_rfl) (by kernel_rfl) (by kernel_rfl) (HK.binds_of (np := 3) (by kernel_rfl) fun us hu => by
    match us, hu with
    | [u, v, z], _ => intro x q body sc kV doc pm cdv ct an; kernel_rfl) (by kernel_rfl) (by kernel_rfl) s_whole (HK.la_none rfl)
theorem t_is_deed (e : Kn K w) (X : K.In h) (G : h.Ns mainGlobals mg) (TB : ∀ p ∈ hdTs, LamX.TabB base mg p.1 p.2) : HK.FnRow tab defsL K mg base lamTb "is_deed" 1 [] :=
  HK.fn_case (as := argsA (stAt 67)) (ps := ["thing"]) X G d_is_deed a_is_deed (HK.def_ e 1 rfl) (HK.fact e 4 rfl) (HK.fact e 5 rfl) (by kernel_rfl) rfl rfl (by kernel_rfl) (by kernel_rfl) (by kernel_rfl) (HK.binds_of (np := 1) (by kernel_rfl) fun us hu => by
    match us, hu with
    | [u], _ => intro x q body sc kV doc pm cdv ct an; kernel_rfl) (by kernel_rfl) (by kernel_rfl) s_is_deed (HK.la_none rfl)
theorem t_lines_of (e : Kn K w) (X : K.In h) (G : h.Ns mainGlobals mg) (TB : ∀ p ∈ hdTs, LamX.TabB base mg p.1 p.2) : HK.FnRow tab defsL K mg base lamTb "lines_of" 1 [] :=
  HK.fn_case (as := argsA (stAt 71)) (ps := ["text"]) X G d_lines_of a_lines_of (HK.def_ e 2 rfl) (HK.fact e 6 rfl) (HK.fact e 7 rfl) (by kernel_rfl) rfl rfl (by kernel_rfl) (by kernel_rfl) (by kernel_rfl) (HK.binds_of (np := 1) (by kernel_rfl) fun us hu => by
    match us, hu with
    | [u], _ => intro x q body sc kV doc pm cdv ct an; kernel_rfl) (by kernel_rfl) (by kernel_rfl) s_lines_of (HK.la_none rfl)
theorem t_words_of (e : Kn K w) (X : K.In h) (G : h.Ns mainGlobals mg) (TB : ∀ p ∈ hdTs, LamX.TabB base mg p.1 p.2) : HK.FnRow tab defsL K mg base lamTb "words_of" 1 [] :=
  HK.fn_case (as := argsA (stAt 72)) (ps := ["line"]) X G d_words_of a_words_of (HK.def_ e 3 rfl) (HK.fact e 8 rfl) (HK.fact e 9 rfl) (by kernel_rfl) rfl rfl (by kernel_rfl) (by kernel_rfl) (by kernel_rfl) (HK.binds_of (np := 1) (by kernel_rfl) fun us hu => by
    match us, hu with
    | [u], _ => intro x q body sc kV doc pm cdv ct an; kernel_rfl) (by kernel_rfl) (by kernel_rfl) s_words_of (HK.la_none rfl)
theorem t_number_of (e : Kn K w) (X : K.In h) (G : h.Ns mainGlobals mg) (TB : ∀ p ∈ hdTs, LamX.TabB base mg p.1 p.2) : HK.FnRow tab defsL K mg base lamTb "number_of" 1 [] :=
  HK.fn_case (as := argsA (stAt 73)) (ps := ["word"]) X G d_number_of a_number_of (HK.def_ e 4 rfl) (HK.fact e 10 rfl) (HK.fact e 11 rfl) (by kernel_rfl) rfl rfl (by kernel_rfl) (by kernel_rfl) (by kernel_rfl) (HK.binds_of (np := 1) (by kernel_rfl) fun us hu => by
    match us, hu with
    | [u], _ => intro x q body sc kV doc pm cdv ct an; kernel_rfl) (by kernel_rfl) (by kernel_rfl) s_number_of (HK.la_none rfl)
theorem t_Reader___init__ (e : Kn K w) (X : K.In h) (G : h.Ns mainGlobals mg) (TB : ∀ p ∈ hdTs, LamX.TabB base mg p.1 p.2) : mg "Reader" = some (.ref RC) ∧ ∃ d f fd ps, defsL.find? (fun d => decide (d.key = ("Reader.__init__" : Str))) = some d ∧ Mk K RC f ∧ PadOk K fd ps 3 [] ∧ DefHd tab K mg base lamTb d f fd ps :=
  HK.cls_case (as := argsA (mtAt 75 0)) (ps := ["self", "words", "line"]) X G d_Reader___init__ a_Reader___init__ (HK.def_ e 5 rfl) (HK.fact e 78 rfl) (HK.fact e 80 rfl) (by kernel_rfl) rfl rfl (by kernel_rfl) (by kernel_rfl) (by kernel_rfl) (HK.binds_of (np := 3) (by kernel_rfl) fun us hu => by
    match us, hu with
    | [u, v, z], _ => intro x q body sc kV doc pm cdv ct an; kernel_rfl) (by kernel_rfl) (by kernel_rfl) s_Reader___init__ (HK.la_none rfl)
theorem t_Reader_refuse (e : Kn K w) (X : K.In h) (G : h.Ns mainGlobals mg) (TB : ∀ p ∈ hdTs, LamX.TabB base mg p.1 p.2) : HK.MsRow tab defsL K mg base lamTb RC "refuse" "Reader.refuse" 2 [] :=
  HK.ms_case (as := argsA (mtAt 75 1)) (ps := ["self", "at"]) d_Reader_refuse a_Reader_refuse (HK.def_ e 6 rfl) (HK.fact e 81 rfl) (by kernel_rfl) rfl rfl (by kernel_rfl) (by kernel_rfl) (by kernel_rfl) (HK.binds_of (np := 2) (by kernel_rfl) fun us hu => by
    match us, hu with
    | [u, v], _ => intro x q body sc kV doc pm cdv ct an; kernel_rfl) (by kernel_rfl) (by kernel_rfl) s_Reader_refuse (HK.la_none rfl)
theorem t_Reader_is_over (e : Kn K w) (X : K.In h) (G : h.Ns mainGlobals mg) (TB : ∀ p ∈ hdTs, LamX.TabB base mg p.1 p.2) : HK.MsRow tab defsL K mg base lamTb RC "is_over" "Reader.is_over" 1 [] :=
  HK.ms_case (as := argsA (mtAt 75 2)) (ps := ["self"]) d_Reader_is_over a_Reader_is_over (HK.def_ e 7 rfl) (HK.fact e 82 rfl) (by kernel_rfl) rfl rfl (by kernel_rfl) (by kernel_rfl) (by kernel_rfl) (HK.binds_of (np := 1) (by kernel_rfl) fun us hu => by
    match us, hu with
    | [u], _ => intro x q body sc kV doc pm cdv ct an; kernel_rfl) (by kernel_rfl) (by kernel_rfl) s_Reader_is_over (HK.la_none rfl)
theorem t_Reader_word (e : Kn K w) (X : K.In h) (G : h.Ns mainGlobals mg) (TB : ∀ p ∈ hdTs, LamX.TabB base mg p.1 p.2) : HK.MsRow tab defsL K mg base lamTb RC "word" "Reader.word" 1 [] :=
  HK.ms_case (as := argsA (mtAt 75 3)) (ps := ["self"]) d_Reader_word a_Reader_word (HK.def_ e 8 rfl) (HK.fact e 83 rfl) (by kernel_rfl) rfl rfl (by kernel_rfl) (by kernel_rfl) (by kernel_rfl) (HK.binds_of (np := 1) (by kernel_rfl) fun us hu => by
    match us, hu with
    | [u], _ => intro x q body sc kV doc pm cdv ct an; kernel_rfl) (by kernel_rfl) (by kernel_rfl) s_Reader_word (HK.la_none rfl)
theorem t_Reader_one_of (e : Kn K w) (X : K.In h) (G : h.Ns mainGlobals mg) (TB : ∀ p ∈ hdTs, LamX.TabB base mg p.1 p.2) : HK.MsRow tab defsL K mg base lamTb RC "one_of" "Reader.one_of" 2 [] :=
  HK.ms_case (as := argsA (mtAt 75 4)) (ps := ["self", "choices"]) d_Reader_one_of a_Reader_one_of (HK.def_ e 9 rfl) (HK.fact e 84 rfl) (by kernel_rfl) rfl rfl (by kernel_rfl) (by kernel_rfl) (by kernel_rfl) (HK.binds_of (np := 2) (by kernel_rfl) fun us hu => by
    match us, hu with
    | [u, v], _ => intro x q body sc kV doc pm cdv ct an; kernel_rfl) (by kernel_rfl) (by kernel_rfl) s_Reader_one_of (HK.la_none rfl)
theorem t_Reader_natural (e : Kn K w) (X : K.In h) (G : h.Ns mainGlobals mg) (TB : ∀ p ∈ hdTs, LamX.TabB base mg p.1 p.2) : HK.MsRow tab defsL K mg base lamTb RC "natural" "Reader.natural" 3 [.int 0, .non] :=
  HK.ms_caseD (ps := ["self", "low", "high"]) d_Reader_natural a_Reader_natural (HK.def_ e 10 rfl) (HK.fact e 85 rfl) (by kernel_rfl) rfl (by kernel_rfl) (by decide +kernel) rfl (fun j => by match j with | 0 => rfl | 1 => rfl | j + 2 => exact (show svs (List.drop j []) = some (List.drop j []) by rw [List.drop_nil, List.drop_nil]; rfl))
    (fun n j h1 h2 h3 T kV doc pm an cdv ct us its h4 h5 => by
      have hp : a_Reader_natural.params = HK.natA (HK.at3 (HK.argPos (defArgs (mtAt 75 5))) 0) (HK.at3 (HK.argPos (defArgs (mtAt 75 5))) 1) (HK.at3 (HK.argPos (defArgs (mtAt 75 5))) 2) (HK.argDefs (defArgs (mtAt 75 5)) 0) (HK.argDefs (defArgs (mtAt 75 5)) 1) := by kernel_rfl
      rw [hp]
      exact HK.nat_bind n j h1 h2 h3 T kV doc pm an cdv ct us its h4 h5)
    (by kernel_rfl) (by kernel_rfl) s_Reader_natural (HK.la_none rfl)
theorem t_Reader_end (e : Kn K w) (X : K.In h) (G : h.Ns mainGlobals mg) (TB : ∀ p ∈ hdTs, LamX.TabB base mg p.1 p.2) : HK.MsRow tab defsL K mg base lamTb RC "end" "Reader.end" 1 [] :=
  HK.ms_case (as := argsA (mtAt 75 7)) (ps := ["self"]) d_Reader_end a_Reader_end (HK.def_ e 11 rfl) (HK.fact e 86 rfl) (by kernel_rfl) rfl rfl (by kernel_rfl) (by kernel_rfl) (by kernel_rfl) (HK.binds_of (np := 1) (by kernel_rfl) fun us hu => by
    match us, hu with
    | [u], _ => intro x q body sc kV doc pm cdv ct an; kernel_rfl) (by kernel_rfl) (by kernel_rfl) s_Reader_end (HK.la_none rfl)
theorem t_reader_at (e : Kn K w) (X : K.In h) (G : h.Ns mainGlobals mg) (TB : ∀ p ∈ hdTs, LamX.TabB base mg p.1 p.2) : HK.FnRow tab defsL K mg base lamTb "reader_at" 2 [] :=
  HK.fn_case (as := argsA (stAt 76)) (ps := ["lines", "index"]) X G d_reader_at a_reader_at (HK.def_ e 12 rfl) (HK.fact e 12 rfl) (HK.fact e 13 rfl) (by kernel_rfl) rfl rfl (by kernel_rfl) (by kernel_rfl) (by kernel_rfl) (HK.binds_of (np := 2) (by kernel_rfl) fun us hu => by
    match us, hu with
    | [u, v], _ => intro x q body sc kV doc pm cdv ct an; kernel_rfl) (by kernel_rfl) (by kernel_rfl) s_reader_at (HK.la_none rfl)
theorem t_end_lines (e : Kn K w) (X : K.In h) (G : h.Ns mainGlobals mg) (TB : ∀ p ∈ hdTs, LamX.TabB base mg p.1 p.2) : HK.FnRow tab defsL K mg base lamTb "end_lines" 2 [] :=
  HK.fn_case (as := argsA (stAt 77)) (ps := ["lines", "many"]) X G d_end_lines a_end_lines (HK.def_ e 13 rfl) (HK.fact e 14 rfl) (HK.fact e 15 rfl) (by kernel_rfl) rfl rfl (by kernel_rfl) (by kernel_rfl) (by kernel_rfl) (HK.binds_of (np := 2) (by kernel_rfl) fun us hu => by
    match us, hu with
    | [u, v], _ => intro x q body sc kV doc pm cdv ct an; kernel_rfl) (by kernel_rfl) (by kernel_rfl) s_end_lines (HK.la_none rfl)
theorem t_deed_text (e : Kn K w) (X : K.In h) (G : h.Ns mainGlobals mg) (TB : ∀ p ∈ hdTs, LamX.TabB base mg p.1 p.2) : HK.FnRow tab defsL K mg base lamTb "deed_text" 1 [] :=
  HK.fn_case (as := argsA (stAt 79)) (ps := ["deed"]) X G d_deed_text a_deed_text (HK.def_ e 14 rfl) (HK.fact e 16 rfl) (HK.fact e 17 rfl) (by kernel_rfl) rfl rfl (by kernel_rfl) (by kernel_rfl) (by kernel_rfl) (HK.binds_of (np := 1) (by kernel_rfl) fun us hu => by
    match us, hu with
    | [u], _ => intro x q body sc kV doc pm cdv ct an; kernel_rfl) (by kernel_rfl) (by kernel_rfl) s_deed_text (HK.la_none rfl)
theorem t_deed_in (e : Kn K w) (X : K.In h) (G : h.Ns mainGlobals mg) (TB : ∀ p ∈ hdTs, LamX.TabB base mg p.1 p.2) : HK.FnRow tab defsL K mg base lamTb "deed_in" 1 [] :=
  HK.fn_case (as := argsA (stAt 80)) (ps := ["reader"]) X G d_deed_in a_deed_in (HK.def_ e 15 rfl) (HK.fact e 18 rfl) (HK.fact e 19 rfl) (by kernel_rfl) rfl rfl (by kernel_rfl) (by kernel_rfl) (by kernel_rfl) (HK.binds_of (np := 1) (by kernel_rfl) fun us hu => by
    match us, hu with
    | [u], _ => intro x q body sc kV doc pm cdv ct an; kernel_rfl) (by kernel_rfl) (by kernel_rfl) s_deed_in (HK.la_none rfl)
theorem t_read_deed (e : Kn K w) (X : K.In h) (G : h.Ns mainGlobals mg) (TB : ∀ p ∈ hdTs, LamX.TabB base mg p.1 p.2) : HK.FnRow tab defsL K mg base lamTb "read_deed" 1 [] :=
  HK.fn_case (as := argsA (stAt 81)) (ps := ["text"]) X G d_read_deed a_read_deed (HK.def_ e 16 rfl) (HK.fact e 20 rfl) (HK.fact e 21 rfl) (by kernel_rfl) rfl rfl (by kernel_rfl) (by kernel_rfl) (by kernel_rfl) (HK.binds_of (np := 1) (by kernel_rfl) fun us hu => by
    match us, hu with
    | [u], _ => intro x q body sc kV doc pm cdv ct an; kernel_rfl) (by kernel_rfl) (by kernel_rfl) s_read_deed (HK.la_none rfl)
theorem t__law_pool (e : Kn K w) (X : K.In h) (G : h.Ns mainGlobals mg) (TB : ∀ p ∈ hdTs, LamX.TabB base mg p.1 p.2) : HK.FnRow tab defsL K mg base lamTb "_law_pool" 2 [] :=
  HK.fn_case (as := argsA (stAt 83)) (ps := ["script", "k"]) X G d__law_pool a__law_pool (HK.def_ e 17 rfl) (HK.fact e 22 rfl) (HK.fact e 23 rfl) (by kernel_rfl) rfl rfl (by kernel_rfl) (by kernel_rfl) (by kernel_rfl) (HK.binds_of (np := 2) (by kernel_rfl) fun us hu => by
    match us, hu with
    | [u, v], _ => intro x q body sc kV doc pm cdv ct an; kernel_rfl) (by kernel_rfl) (by kernel_rfl) s__law_pool (HK.la_none rfl)
theorem t__law_take (e : Kn K w) (X : K.In h) (G : h.Ns mainGlobals mg) (TB : ∀ p ∈ hdTs, LamX.TabB base mg p.1 p.2) : HK.FnRow tab defsL K mg base lamTb "_law_take" 2 [] :=
  HK.fn_case (as := argsA (stAt 84)) (ps := ["jar", "top"]) X G d__law_take a__law_take (HK.def_ e 18 rfl) (HK.fact e 24 rfl) (HK.fact e 25 rfl) (by kernel_rfl) rfl rfl (by kernel_rfl) (by kernel_rfl) (by kernel_rfl) (HK.binds_of (np := 2) (by kernel_rfl) fun us hu => by
    match us, hu with
    | [u, v], _ => intro x q body sc kV doc pm cdv ct an; kernel_rfl) (by kernel_rfl) (by kernel_rfl) s__law_take (HK.la_none rfl)
theorem t__law_one (e : Kn K w) (X : K.In h) (G : h.Ns mainGlobals mg) (TB : ∀ p ∈ hdTs, LamX.TabB base mg p.1 p.2) : HK.FnRow tab defsL K mg base lamTb "_law_one" 2 [] :=
  HK.fn_case (as := argsA (stAt 85)) (ps := ["jar", "things"]) X G d__law_one a__law_one (HK.def_ e 19 rfl) (HK.fact e 26 rfl) (HK.fact e 27 rfl) (by kernel_rfl) rfl rfl (by kernel_rfl) (by kernel_rfl) (by kernel_rfl) (HK.binds_of (np := 2) (by kernel_rfl) fun us hu => by
    match us, hu with
    | [u, v], _ => intro x q body sc kV doc pm cdv ct an; kernel_rfl) (by kernel_rfl) (by kernel_rfl) s__law_one (HK.la_none rfl)
theorem t__law_long_number (e : Kn K w) (X : K.In h) (G : h.Ns mainGlobals mg) (TB : ∀ p ∈ hdTs, LamX.TabB base mg p.1 p.2) : HK.FnRow tab defsL K mg base lamTb "_law_long_number" 2 [] :=
  HK.fn_case (as := argsA (stAt 86)) (ps := ["jar", "figures"]) X G d__law_long_number a__law_long_number (HK.def_ e 20 rfl) (HK.fact e 28 rfl) (HK.fact e 29 rfl) (by kernel_rfl) rfl rfl (by kernel_rfl) (by kernel_rfl) (by kernel_rfl) (HK.binds_of (np := 2) (by kernel_rfl) fun us hu => by
    match us, hu with
    | [u, v], _ => intro x q body sc kV doc pm cdv ct an; kernel_rfl) (by kernel_rfl) (by kernel_rfl) s__law_long_number (HK.la_none rfl)
theorem t__law_is_deed (e : Kn K w) (X : K.In h) (G : h.Ns mainGlobals mg) (TB : ∀ p ∈ hdTs, LamX.TabB base mg p.1 p.2) : HK.FnRow tab defsL K mg base lamTb "_law_is_deed" 1 [] :=
  HK.fn_case (as := argsA (stAt 87)) (ps := ["thing"]) X G d__law_is_deed a__law_is_deed (HK.def_ e 21 rfl) (HK.fact e 30 rfl) (HK.fact e 31 rfl) (by kernel_rfl) rfl rfl (by kernel_rfl) (by kernel_rfl) (by kernel_rfl) (HK.binds_of (np := 1) (by kernel_rfl) fun us hu => by
    match us, hu with
    | [u], _ => intro x q body sc kV doc pm cdv ct an; kernel_rfl) (by kernel_rfl) (by kernel_rfl) s__law_is_deed (HK.la_none rfl)
theorem t__law_text_wrong (e : Kn K w) (X : K.In h) (G : h.Ns mainGlobals mg) (TB : ∀ p ∈ hdTs, LamX.TabB base mg p.1 p.2) : HK.FnRow tab defsL K mg base lamTb "_law_text_wrong" 1 [] :=
  HK.fn_case (as := argsA (stAt 88)) (ps := ["thing"]) X G d__law_text_wrong a__law_text_wrong (HK.def_ e 22 rfl) (HK.fact e 32 rfl) (HK.fact e 33 rfl) (by kernel_rfl) rfl rfl (by kernel_rfl) (by kernel_rfl) (by kernel_rfl) (HK.binds_of (np := 1) (by kernel_rfl) fun us hu => by
    match us, hu with
    | [u], _ => intro x q body sc kV doc pm cdv ct an; kernel_rfl) (by kernel_rfl) (by kernel_rfl) s__law_text_wrong (HK.la_none rfl)
theorem t__law_word_number (e : Kn K w) (X : K.In h) (G : h.Ns mainGlobals mg) (TB : ∀ p ∈ hdTs, LamX.TabB base mg p.1 p.2) : HK.FnRow tab defsL K mg base lamTb "_law_word_number" 1 [] :=
  HK.fn_case (as := argsA (stAt 89)) (ps := ["word"]) X G d__law_word_number a__law_word_number (HK.def_ e 23 rfl) (HK.fact e 34 rfl) (HK.fact e 35 rfl) (by kernel_rfl) rfl rfl (by kernel_rfl) (by kernel_rfl) (by kernel_rfl) (HK.binds_of (np := 1) (by kernel_rfl) fun us hu => by
    match us, hu with
    | [u], _ => intro x q body sc kV doc pm cdv ct an; kernel_rfl) (by kernel_rfl) (by kernel_rfl) s__law_word_number (HK.la_none rfl)
theorem t__law_lot_word (e : Kn K w) (X : K.In h) (G : h.Ns mainGlobals mg) (TB : ∀ p ∈ hdTs, LamX.TabB base mg p.1 p.2) : HK.FnRow tab defsL K mg base lamTb "_law_lot_word" 1 [] :=
  HK.fn_case (as := argsA (stAt 90)) (ps := ["lot"]) X G d__law_lot_word a__law_lot_word (HK.def_ e 24 rfl) (HK.fact e 36 rfl) (HK.fact e 37 rfl) (by kernel_rfl) rfl rfl (by kernel_rfl) (by kernel_rfl) (by kernel_rfl) (HK.binds_of (np := 1) (by kernel_rfl) fun us hu => by
    match us, hu with
    | [u], _ => intro x q body sc kV doc pm cdv ct an; kernel_rfl) (by kernel_rfl) (by kernel_rfl) s__law_lot_word (HK.la_none rfl)
theorem t__law_word_at (e : Kn K w) (X : K.In h) (G : h.Ns mainGlobals mg) (TB : ∀ p ∈ hdTs, LamX.TabB base mg p.1 p.2) : HK.FnRow tab defsL K mg base lamTb "_law_word_at" 2 [] :=
  HK.fn_case (as := argsA (stAt 91)) (ps := ["said", "at"]) X G d__law_word_at a__law_word_at (HK.def_ e 25 rfl) (HK.fact e 38 rfl) (HK.fact e 39 rfl) (by kernel_rfl) rfl rfl (by kernel_rfl) (by kernel_rfl) (by kernel_rfl) (HK.binds_of (np := 2) (by kernel_rfl) fun us hu => by
    match us, hu with
    | [u, v], _ => intro x q body sc kV doc pm cdv ct an; kernel_rfl) (by kernel_rfl) (by kernel_rfl) s__law_word_at (HK.la_none rfl)
theorem t__law_wrong_at (e : Kn K w) (X : K.In h) (G : h.Ns mainGlobals mg) (TB : ∀ p ∈ hdTs, LamX.TabB base mg p.1 p.2) : HK.FnRow tab defsL K mg base lamTb "_law_wrong_at" 2 [] :=
  HK.fn_case (as := argsA (stAt 92)) (ps := ["said", "lets"]) X G d__law_wrong_at a__law_wrong_at (HK.def_ e 26 rfl) (HK.fact e 40 rfl) (HK.fact e 41 rfl) (by kernel_rfl) rfl rfl (by kernel_rfl) (by kernel_rfl) (by kernel_rfl) (HK.binds_of (np := 2) (by kernel_rfl) fun us hu => by
    match us, hu with
    | [u, v], _ => intro x q body sc kV doc pm cdv ct an; kernel_rfl) (by kernel_rfl) (by kernel_rfl) s__law_wrong_at (HK.la_none rfl)
theorem t__law_spoken (e : Kn K w) (X : K.In h) (G : h.Ns mainGlobals mg) (TB : ∀ p ∈ hdTs, LamX.TabB base mg p.1 p.2) : HK.FnRow tab defsL K mg base lamTb "_law_spoken" 1 [] :=
  HK.fn_case (as := argsA (stAt 93)) (ps := ["some"]) X G d__law_spoken a__law_spoken (HK.def_ e 27 rfl) (HK.fact e 42 rfl) (HK.fact e 43 rfl) (by kernel_rfl) rfl rfl (by kernel_rfl) (by kernel_rfl) (by kernel_rfl) (HK.binds_of (np := 1) (by kernel_rfl) fun us hu => by
    match us, hu with
    | [u], _ => intro x q body sc kV doc pm cdv ct an; kernel_rfl) (by kernel_rfl) (by kernel_rfl) s__law_spoken (HK.la_none rfl)
theorem t__law_deed_sizes (e : Kn K w) (X : K.In h) (G : h.Ns mainGlobals mg) (TB : ∀ p ∈ hdTs, LamX.TabB base mg p.1 p.2) : HK.FnRow tab defsL K mg base lamTb "_law_deed_sizes" 0 [] :=
  HK.fn_case (as := argsA (stAt 94)) (ps := []) X G d__law_deed_sizes a__law_deed_sizes (HK.def_ e 28 rfl) (HK.fact e 44 rfl) (HK.fact e 45 rfl) (by kernel_rfl) rfl rfl (by kernel_rfl) (by kernel_rfl) (by kernel_rfl) (HK.binds_of (np := 0) (by kernel_rfl) fun us hu => by
    match us, hu with
    | [], _ => intro x q body sc kV doc pm cdv ct an; kernel_rfl) (by kernel_rfl) (by kernel_rfl) s__law_deed_sizes (HK.la_none rfl)
theorem t__law_read_deed_words (e : Kn K w) (X : K.In h) (G : h.Ns mainGlobals mg) (TB : ∀ p ∈ hdTs, LamX.TabB base mg p.1 p.2) : HK.FnRow tab defsL K mg base lamTb "_law_read_deed_words" 1 [] :=
  HK.fn_case (as := argsA (stAt 95)) (ps := ["said"]) X G d__law_read_deed_words a__law_read_deed_words (HK.def_ e 29 rfl) (HK.fact e 46 rfl) (HK.fact e 47 rfl) (by kernel_rfl) rfl rfl (by kernel_rfl) (by kernel_rfl) (by kernel_rfl) (HK.binds_of (np := 1) (by kernel_rfl) fun us hu => by
    match us, hu with
    | [u], _ => intro x q body sc kV doc pm cdv ct an; kernel_rfl) (by kernel_rfl) (by kernel_rfl) s__law_read_deed_words (HK.la_none rfl)
theorem t__law_read_deed (e : Kn K w) (X : K.In h) (G : h.Ns mainGlobals mg) (TB : ∀ p ∈ hdTs, LamX.TabB base mg p.1 p.2) : HK.FnRow tab defsL K mg base lamTb "_law_read_deed" 1 [] :=
  HK.fn_case (as := argsA (stAt 96)) (ps := ["text"]) X G d__law_read_deed a__law_read_deed (HK.def_ e 30 rfl) (HK.fact e 48 rfl) (HK.fact e 49 rfl) (by kernel_rfl) rfl rfl (by kernel_rfl) (by kernel_rfl) (by kernel_rfl) (HK.binds_of (np := 1) (by kernel_rfl) fun us hu => by
    match us, hu with
    | [u], _ => intro x q body sc kV doc pm cdv ct an; kernel_rfl) (by kernel_rfl) (by kernel_rfl) s__law_read_deed (HK.la_none rfl)
theorem t__law_bent_text (e : Kn K w) (X : K.In h) (G : h.Ns mainGlobals mg) (TB : ∀ p ∈ hdTs, LamX.TabB base mg p.1 p.2) : HK.FnRow tab defsL K mg base lamTb "_law_bent_text" 2 [] :=
  HK.fn_case (as := argsA (stAt 97)) (ps := ["jar", "text"]) X G d__law_bent_text a__law_bent_text (HK.def_ e 31 rfl) (HK.fact e 50 rfl) (HK.fact e 51 rfl) (by kernel_rfl) rfl rfl (by kernel_rfl) (by kernel_rfl) (by kernel_rfl) (HK.binds_of (np := 2) (by kernel_rfl) fun us hu => by
    match us, hu with
    | [u, v], _ => intro x q body sc kV doc pm cdv ct an; kernel_rfl) (by kernel_rfl) (by kernel_rfl) s__law_bent_text (HK.la_none rfl)
theorem t__law_is_whole (e : Kn K w) (X : K.In h) (G : h.Ns mainGlobals mg) (TB : ∀ p ∈ hdTs, LamX.TabB base mg p.1 p.2) : HK.FnRow tab defsL K mg base lamTb "_law_is_whole" 1 [] :=
  HK.fn_case (as := argsA (stAt 98)) (ps := ["thing"]) X G d__law_is_whole a__law_is_whole (HK.def_ e 32 rfl) (HK.fact e 52 rfl) (HK.fact e 53 rfl) (by kernel_rfl) rfl rfl (by kernel_rfl) (by kernel_rfl) (by kernel_rfl) (HK.binds_of (np := 1) (by kernel_rfl) fun us hu => by
    match us, hu with
    | [u], _ => intro x q body sc kV doc pm cdv ct an; kernel_rfl) (by kernel_rfl) (by kernel_rfl) s__law_is_whole (HK.la_none rfl)
theorem t__law_same (e : Kn K w) (X : K.In h) (G : h.Ns mainGlobals mg) (TB : ∀ p ∈ hdTs, LamX.TabB base mg p.1 p.2) : HK.FnRow tab defsL K mg base lamTb "_law_same" 2 [] :=
  HK.fn_case (as := argsA (stAt 99)) (ps := ["told", "owed"]) X G d__law_same a__law_same (HK.def_ e 33 rfl) (HK.fact e 54 rfl) (HK.fact e 55 rfl) (by kernel_rfl) rfl rfl (by kernel_rfl) (by kernel_rfl) (by kernel_rfl) (HK.binds_of (np := 2) (by kernel_rfl) fun us hu => by
    match us, hu with
    | [u, v], _ => intro x q body sc kV doc pm cdv ct an; kernel_rfl) (by kernel_rfl) (by kernel_rfl) s__law_same (HK.la_none rfl)
theorem t__law_some_number (e : Kn K w) (X : K.In h) (G : h.Ns mainGlobals mg) (TB : ∀ p ∈ hdTs, LamX.TabB base mg p.1 p.2) : HK.FnRow tab defsL K mg base lamTb "_law_some_number" 1 [] :=
  HK.fn_case (as := argsA (stAt 104)) (ps := ["jar"]) X G d__law_some_number a__law_some_number (HK.def_ e 34 rfl) (HK.fact e 56 rfl) (HK.fact e 57 rfl) (by kernel_rfl) rfl rfl (by kernel_rfl) (by kernel_rfl) (by kernel_rfl) (HK.binds_of (np := 1) (by kernel_rfl) fun us hu => by
    match us, hu with
    | [u], _ => intro x q body sc kV doc pm cdv ct an; kernel_rfl) (by kernel_rfl) (by kernel_rfl) s__law_some_number (HK.la_none rfl)
theorem t__law_some_deed (e : Kn K w) (X : K.In h) (G : h.Ns mainGlobals mg) (TB : ∀ p ∈ hdTs, LamX.TabB base mg p.1 p.2) : HK.FnRow tab defsL K mg base lamTb "_law_some_deed" 1 [] :=
  HK.fn_case (as := argsA (stAt 105)) (ps := ["jar"]) X G d__law_some_deed a__law_some_deed (HK.def_ e 35 rfl) (HK.fact e 58 rfl) (HK.fact e 59 rfl) (by kernel_rfl) rfl rfl (by kernel_rfl) (by kernel_rfl) (by kernel_rfl) (HK.binds_of (np := 1) (by kernel_rfl) fun us hu => by
    match us, hu with
    | [u], _ => intro x q body sc kV doc pm cdv ct an; kernel_rfl) (by kernel_rfl) (by kernel_rfl) s__law_some_deed (HK.la_none rfl)
theorem t__law_odd_deed_of (e : Kn K w) (X : K.In h) (G : h.Ns mainGlobals mg) (TB : ∀ p ∈ hdTs, LamX.TabB base mg p.1 p.2) : HK.FnRow tab defsL K mg base lamTb "_law_odd_deed_of" 2 [] :=
  HK.fn_case (as := argsA (stAt 106)) (ps := ["jar", "deed"]) X G d__law_odd_deed_of a__law_odd_deed_of (HK.def_ e 36 rfl) (HK.fact e 60 rfl) (HK.fact e 61 rfl) (by kernel_rfl) rfl rfl (by kernel_rfl) (by kernel_rfl) (by kernel_rfl) (HK.binds_of (np := 2) (by kernel_rfl) fun us hu => by
    match us, hu with
    | [u, v], _ => intro x q body sc kV doc pm cdv ct an; kernel_rfl) (by kernel_rfl) (by kernel_rfl) s__law_odd_deed_of (HK.la_none rfl)
theorem t__law_some_text (e : Kn K w) (X : K.In h) (G : h.Ns mainGlobals mg) (TB : ∀ p ∈ hdTs, LamX.TabB base mg p.1 p.2) : HK.FnRow tab defsL K mg base lamTb "_law_some_text" 2 [] :=
  HK.fn_case (as := argsA (stAt 107)) (ps := ["jar", "text"]) X G d__law_some_text a__law_some_text (HK.def_ e 37 rfl) (HK.fact e 62 rfl) (HK.fact e 63 rfl) (by kernel_rfl) rfl rfl (by kernel_rfl) (by kernel_rfl) (by kernel_rfl) (HK.binds_of (np := 2) (by kernel_rfl) fun us hu => by
    match us, hu with
    | [u, v], _ => intro x q body sc kV doc pm cdv ct an; kernel_rfl) (by kernel_rfl) (by kernel_rfl) s__law_some_text (HK.la_none rfl)
theorem t__law_lines_right (e : Kn K w) (X : K.In h) (G : h.Ns mainGlobals mg) (TB : ∀ p ∈ hdTs, LamX.TabB base mg p.1 p.2) : HK.FnRow tab defsL K mg base lamTb "_law_lines_right" 1 [] :=
  HK.fn_case (as := argsA (stAt 108)) (ps := ["jar"]) X G d__law_lines_right a__law_lines_right (HK.def_ e 38 rfl) (HK.fact e 64 rfl) (HK.fact e 65 rfl) (by kernel_rfl) rfl rfl (by kernel_rfl) (by kernel_rfl) (by kernel_rfl) (HK.binds_of (np := 1) (by kernel_rfl) fun us hu => by
    match us, hu with
    | [u], _ => intro x q body sc kV doc pm cdv ct an; kernel_rfl) (by kernel_rfl) (by kernel_rfl) s__law_lines_right (HK.la_some rfl (TB (1607, 1603) (by decide)) (by decide +kernel) (by decide +kernel) (by decide +kernel))
theorem t__law_long_right (e : Kn K w) (X : K.In h) (G : h.Ns mainGlobals mg) (TB : ∀ p ∈ hdTs, LamX.TabB base mg p.1 p.2) : HK.FnRow tab defsL K mg base lamTb "_law_long_right" 1 [] :=
  HK.fn_case (as := argsA (stAt 109)) (ps := ["jar"]) X G d__law_long_right a__law_long_right (HK.def_ e 39 rfl) (HK.fact e 66 rfl) (HK.fact e 67 rfl) (by kernel_rfl) rfl rfl (by kernel_rfl) (by kernel_rfl) (by kernel_rfl) (HK.binds_of (np := 1) (by kernel_rfl) fun us hu => by
    match us, hu with
    | [u], _ => intro x q body sc kV doc pm cdv ct an; kernel_rfl) (by kernel_rfl) (by kernel_rfl) s__law_long_right (HK.la_some rfl (TB (1614, 1610) (by decide)) (by decide +kernel) (by decide +kernel) (by decide +kernel))
theorem t_law (e : Kn K w) (X : K.In h) (G : h.Ns mainGlobals mg) (TB : ∀ p ∈ hdTs, LamX.TabB base mg p.1 p.2) : HK.FnRow tab defsL K mg base lamTb "law" 1 [] :=
  HK.fn_case (as := argsA (stAt 110)) (ps := ["script"]) X G d_law a_law (HK.def_ e 40 rfl) (HK.fact e 68 rfl) (HK.fact e 69 rfl) (by kernel_rfl) rfl rfl (by kernel_rfl) (by kernel_rfl) (by kernel_rfl) (HK.binds_of (np := 1) (by kernel_rfl) fun us hu => by
    match us, hu with
    | [u], _ => intro x q body sc kV doc pm cdv ct an; kernel_rfl) (by kernel_rfl) (by kernel_rfl) s_law (HK.la_none rfl)
theorem x_BadDeed (e : Kn K w) (X : K.In h) (G : h.Ns mainGlobals mg) : ∃ Rc fR fC, MR.SubTxt K PP 966 Rc fR fC "BadDeed" ∧ mg "BadDeed" = some (.ref 966) ∧ mg "super" = none ∧ subIn K (.ref 966) (.type "BaseException") = some true ∧ typeIn K (.ref 966) = some (.type "type") := by
  obtain ⟨h1, h2, h3⟩ := HK.sub_ok (prog := PP) (C := 966) (R := 41) (wd := "BadDeed") (xR := a_Refused___init__) (xC := a_BadDeed___init__) (ccR := 25) (ccC := 951) (v0 := .str "Refused") (HK.fact e 97 rfl) (HK.def_ e 45 rfl) (HK.def_ e 46 rfl) rfl rfl rfl rfl (HK.fact e 94 rfl) (HK.fact e 98 rfl) (HK.fact e 95 rfl) (HK.fact e 99 rfl) rfl rfl ⟨by kernel_rfl, by kernel_rfl, by kernel_rfl, by kernel_rfl⟩ ⟨by kernel_rfl, by kernel_rfl, by kernel_rfl, by kernel_rfl⟩ (by kernel_rfl)
  exact ⟨_, _, _, h1, HK.gl_ok X G (HK.fact e 96 rfl), HK.fr_ok X G (HK.fact e 1 rfl), h2, h3⟩
theorem x_BadText (e : Kn K w) (X : K.In h) (G : h.Ns mainGlobals mg) : ∃ Rc fR fC, MR.SubTxt K PP 1197 Rc fR fC "BadText" ∧ mg "BadText" = some (.ref 1197) ∧ mg "super" = none ∧ subIn K (.ref 1197) (.type "BaseException") = some true ∧ typeIn K (.ref 1197) = some (.type "type") := by
  obtain ⟨h1, h2, h3⟩ := HK.sub_ok (prog := PP) (C := 1197) (R := 41) (wd := "BadText") (xR := a_Refused___init__) (xC := a_BadText___init__) (ccR := 25) (ccC := 1182) (v0 := .str "Refused") (HK.fact e 103 rfl) (HK.def_ e 45 rfl) (HK.def_ e 47 rfl) rfl rfl rfl rfl (HK.fact e 94 rfl) (HK.fact e 104 rfl) (HK.fact e 95 rfl) (HK.fact e 105 rfl) rfl rfl ⟨by kernel_rfl, by kernel_rfl, by kernel_rfl, by kernel_rfl⟩ ⟨by kernel_rfl, by kernel_rfl, by kernel_rfl, by kernel_rfl⟩ (by kernel_rfl)
  exact ⟨_, _, _, h1, HK.gl_ok X G (HK.fact e 102 rfl), HK.fr_ok X G (HK.fact e 1 rfl), h2, h3⟩
theorem x_WrongLine (e : Kn K w) (X : K.In h) (G : h.Ns mainGlobals mg) : ∃ Rc fR fC, MR.SubTxt K PP 1218 Rc fR fC "WrongLine" ∧ mg "WrongLine" = some (.ref 1218) ∧ mg "super" = none ∧ subIn K (.ref 1218) (.type "BaseException") = some true ∧ typeIn K (.ref 1218) = some (.type "type") := by
  obtain ⟨h1, h2, h3⟩ := HK.sub_ok (prog := PP) (C := 1218) (R := 41) (wd := "WrongLine") (xR := a_Refused___init__) (xC := a_WrongLine___init__) (ccR := 25) (ccC := 1203) (v0 := .str "Refused") (HK.fact e 109 rfl) (HK.def_ e 45 rfl) (HK.def_ e 48 rfl) rfl rfl rfl rfl (HK.fact e 94 rfl) (HK.fact e 110 rfl) (HK.fact e 95 rfl) (HK.fact e 111 rfl) rfl rfl ⟨by kernel_rfl, by kernel_rfl, by kernel_rfl, by kernel_rfl⟩ ⟨by kernel_rfl, by kernel_rfl, by kernel_rfl, by kernel_rfl⟩ (by kernel_rfl)
  exact ⟨_, _, _, h1, HK.gl_ok X G (HK.fact e 108 rfl), HK.fr_ok X G (HK.fact e 1 rfl), h2, h3⟩
theorem x_TooMany (e : Kn K w) (X : K.In h) (G : h.Ns mainGlobals mg) : ∃ Rc fR fC, MR.SubTxt K PP 1302 Rc fR fC "TooMany" ∧ mg "TooMany" = some (.ref 1302) ∧ mg "super" = none ∧ subIn K (.ref 1302) (.type "BaseException") = some true ∧ typeIn K (.ref 1302) = some (.type "type") := by
  obtain ⟨h1, h2, h3⟩ := HK.sub_ok (prog := PP) (C := 1302) (R := 41) (wd := "TooMany") (xR := a_Refused___init__) (xC := a_TooMany___init__) (ccR := 25) (ccC := 1287) (v0 := .str "Refused") (HK.fact e 115 rfl) (HK.def_ e 45 rfl) (HK.def_ e 49 rfl) rfl rfl rfl rfl (HK.fact e 94 rfl) (HK.fact e 116 rfl) (HK.fact e 95 rfl) (HK.fact e 117 rfl) rfl rfl ⟨by kernel_rfl, by kernel_rfl, by kernel_rfl, by kernel_rfl⟩ ⟨by kernel_rfl, by kernel_rfl, by kernel_rfl, by kernel_rfl⟩ (by kernel_rfl)
  exact ⟨_, _, _, h1, HK.gl_ok X G (HK.fact e 114 rfl), HK.fr_ok X G (HK.fact e 1 rfl), h2, h3⟩
theorem n_BadDeed (e : Kn K w) (X : K.In h) (G : h.Ns mainGlobals mg) : ExnTxt K mg 41 (defScope (stAt 100)) (HK.listOf (defBody (stAt 100))).1 966 "BadDeed" :=
  HK.exn_ok X G (l := clsL) (HK.fact e 100 rfl) (HK.fact e 101 rfl) (HK.fact e 120 rfl) (by decide +kernel) (by decide +kernel) (by decide +kernel) (fun a A => HK.rows_ok (by kernel_rfl) (by decide +kernel) a A)
theorem n_BadText (e : Kn K w) (X : K.In h) (G : h.Ns mainGlobals mg) : ExnTxt K mg 41 (defScope (stAt 100)) (HK.listOf (defBody (stAt 100))).1 1197 "BadText" :=
  HK.exn_ok X G (l := clsL) (HK.fact e 106 rfl) (HK.fact e 107 rfl) (HK.fact e 120 rfl) (by decide +kernel) (by decide +kernel) (by decide +kernel) (fun a A => HK.rows_ok (by kernel_rfl) (by decide +kernel) a A)
theorem n_WrongLine (e : Kn K w) (X : K.In h) (G : h.Ns mainGlobals mg) : ExnTxt K mg 41 (defScope (stAt 100)) (HK.listOf (defBody (stAt 100))).1 1218 "WrongLine" :=
  HK.exn_ok X G (l := clsL) (HK.fact e 112 rfl) (HK.fact e 113 rfl) (HK.fact e 120 rfl) (by decide +kernel) (by decide +kernel) (by decide +kernel) (fun a A => HK.rows_ok (by kernel_rfl) (by decide +kernel) a A)
theorem n_TooMany (e : Kn K w) (X : K.In h) (G : h.Ns mainGlobals mg) : ExnTxt K mg 41 (defScope (stAt 100)) (HK.listOf (defBody (stAt 100))).1 1302 "TooMany" :=
  HK.exn_ok X G (l := clsL) (HK.fact e 118 rfl) (HK.fact e 119 rfl) (HK.fact e 120 rfl) (by decide +kernel) (by decide +kernel) (by decide +kernel) (fun a A => HK.rows_ok (by kernel_rfl) (by decide +kernel) a A)
theorem heard_hd (e : Kn K w) (X : K.In h) (G : h.Ns mainGlobals mg) : HeardTxt tab K mg := by
  refine ⟨a__law_heard.f, a__law_classes.f, 41, HK.plainA (argsA (stAt 101)), HK.plainA (argsA (stAt 100)), defScope (stAt 101), defScope (stAt 100), (HK.listOf (defBody (stAt 100))).1, (HK.listOf (defBody (stAt 100))).2.1, (HK.listOf (defBody (stAt 100))).2.2, HK.atP (HK.heardPos (defBody (stAt 101))), HK.atJ (HK.heardPos (defBody (stAt 101))), ?_, ⟨?_, by decide +kernel, HK.frs_ok X G (HK.fact e 0 rfl) _ (by decide +kernel)⟩, by kernel_rfl, HK.gl_ok X G (HK.fact e 93 rfl), by decide +kernel, by decide +kernel, by decide +kernel, by decide +kernel, by kernel_rfl, fun D nm l => ?_⟩
  · exact HK.def_txt (as := argsA (stAt 101)) (ps := ["deed"]) (N := ["deed", "refused_one", "line"]) X G a__law_heard (HK.def_ e 41 rfl) (HK.fact e 70 rfl) (HK.fact e 71 rfl) rfl rfl rfl rfl (by kernel_rfl) (by kernel_rfl) (HK.binds_of (np := 1) (by kernel_rfl) fun us hu => by
    match us, hu with
    | [u], _ => intro x q body sc kV doc pm cdv ct an; kernel_rfl) (by kernel_rfl) (by kernel_rfl) s__law_heard
  · exact HK.def_txt (as := argsA (stAt 100)) (ps := ["refused_one"]) (N := ["refused_one"]) X G a__law_classes (HK.def_ e 44 rfl) (HK.fact e 76 rfl) (HK.fact e 77 rfl) rfl rfl rfl rfl (by kernel_rfl) (by kernel_rfl) (HK.binds_of (np := 1) (by kernel_rfl) fun us hu => by
    match us, hu with
    | [u], _ => intro x q body sc kV doc pm cdv ct an; kernel_rfl) (by kernel_rfl) (by kernel_rfl) s__law_classes
  · have m := HK.mem_of_lookupA l
    simp only [tab, excT, List.mem_cons, Prod.mk.injEq, List.not_mem_nil, or_false] at m
    rcases m with ⟨rfl, rfl⟩ | ⟨rfl, rfl⟩ | ⟨rfl, rfl⟩ | ⟨rfl, rfl⟩
    · exact n_BadDeed e X G
    · exact n_BadText e X G
    · exact n_WrongLine e X G
    · exact n_TooMany e X G
theorem tells_hd (e : Kn K w) (X : K.In h) (G : h.Ns mainGlobals mg) : LamTxt tab K mg "_law_tells" .tells := by
  refine ⟨heard_hd e X G, by kernel_rfl, a__law_tells.f, HK.plainA (argsA (stAt 102)), defScope (stAt 102), HK.atP (HK.tellsPos (defBody (stAt 102))), HK.atJ (HK.tellsPos (defBody (stAt 102))), ?_, by decide +kernel, by decide +kernel, by decide +kernel, by decide +kernel⟩
  exact HK.def_txt (as := argsA (stAt 102)) (ps := ["deed", "owed"]) (N := ["deed", "owed"]) X G a__law_tells (HK.def_ e 42 rfl) (HK.fact e 72 rfl) (HK.fact e 73 rfl) rfl rfl rfl rfl (by kernel_rfl) (by kernel_rfl) (HK.binds_of (np := 2) (by kernel_rfl) fun us hu => by
    match us, hu with
    | [u, v], _ => intro x q body sc kV doc pm cdv ct an; kernel_rfl) (by kernel_rfl) (by kernel_rfl) s__law_tells
theorem refuses_hd (e : Kn K w) (X : K.In h) (G : h.Ns mainGlobals mg) : LamTxt tab K mg "_law_refuses" .refuses := by
  refine ⟨heard_hd e X G, by kernel_rfl, a__law_refuses.f, HK.plainA (argsA (stAt 103)), defScope (stAt 103), HK.atP (HK.tellsPos (defBody (stAt 103))), HK.atJ (HK.tellsPos (defBody (stAt 103))), ?_, by decide +kernel, by decide +kernel, by decide +kernel, by decide +kernel, by decide +kernel⟩
  exact HK.def_txt (as := argsA (stAt 103)) (ps := ["deed", "name", "what"]) (N := ["deed", "name", "what"]) X G a__law_refuses (HK.def_ e 43 rfl) (HK.fact e 74 rfl) (HK.fact e 75 rfl) rfl rfl rfl rfl (by kernel_rfl) (by kernel_rfl) (HK.binds_of (np := 3) (by kernel_rfl) fun us hu => by
    match us, hu with
    | [u, v, z], _ => intro x q body sc kV doc pm cdv ct an; kernel_rfl) (by kernel_rfl) (by kernel_rfl) s__law_refuses
theorem fnT_ok (e : Kn K w) (X : K.In h) (G : h.Ns mainGlobals mg) (TB : ∀ p ∈ hdTs, LamX.TabB base mg p.1 p.2) : ∀ q ∈ fnT, ∀ np dl, q.2 = .fn np dl → HK.FnRow tab defsL K mg base lamTb q.1 np dl := by
  unfold fnT
  simp only [List.forall_mem_cons, List.not_mem_nil, false_implies, implies_true, and_true]
  refine ⟨?_, ?_, ?_, ?_, ?_, ?_, ?_, ?_, ?_, ?_, ?_, ?_, ?_, ?_, ?_, ?_, ?_, ?_, ?_, ?_, ?_, ?_, ?_, ?_, ?_, ?_, ?_, ?_, ?_, ?_, ?_, ?_, ?_, ?_⟩
  · intro np dl z; cases z; exact t_whole e X G TB
  · intro np dl z; cases z; exact t_is_deed e X G TB
  · intro np dl z; cases z; exact t_lines_of e X G TB
  · intro np dl z; cases z; exact t_words_of e X G TB
  · intro np dl z; cases z; exact t_number_of e X G TB
  · intro np dl z; cases z; exact t_reader_at e X G TB
  · intro np dl z; cases z; exact t_end_lines e X G TB
  · intro np dl z; cases z; exact t_deed_text e X G TB
  · intro np dl z; cases z; exact t_deed_in e X G TB
  · intro np dl z; cases z; exact t_read_deed e X G TB
  · intro np dl z; cases z; exact t__law_pool e X G TB
  · intro np dl z; cases z; exact t__law_take e X G TB
  · intro np dl z; cases z; exact t__law_one e X G TB
  · intro np dl z; cases z; exact t__law_long_number e X G TB
  · intro np dl z; cases z; exact t__law_is_deed e X G TB
  · intro np dl z; cases z; exact t__law_text_wrong e X G TB
  · intro np dl z; cases z; exact t__law_word_number e X G TB
  · intro np dl z; cases z; exact t__law_lot_word e X G TB
  · intro np dl z; cases z; exact t__law_word_at e X G TB
  · intro np dl z; cases z; exact t__law_wrong_at e X G TB
  · intro np dl z; cases z; exact t__law_spoken e X G TB
  · intro np dl z; cases z; exact t__law_deed_sizes e X G TB
  · intro np dl z; cases z; exact t__law_read_deed_words e X G TB
  · intro np dl z; cases z; exact t__law_read_deed e X G TB
  · intro np dl z; cases z; exact t__law_bent_text e X G TB
  · intro np dl z; cases z; exact t__law_is_whole e X G TB
  · intro np dl z; cases z; exact t__law_same e X G TB
  · intro np dl z; cases z; exact t__law_some_number e X G TB
  · intro np dl z; cases z; exact t__law_some_deed e X G TB
  · intro np dl z; cases z; exact t__law_odd_deed_of e X G TB
  · intro np dl z; cases z; exact t__law_some_text e X G TB
  · intro np dl z; cases z; exact t__law_lines_right e X G TB
  · intro np dl z; cases z; exact t__law_long_right e X G TB
  · intro np dl z; cases z; exact t_law e X G TB
theorem fnT_kind : ∀ q ∈ fnT, ∃ np dl, q.2 = GV.fn np dl := by
  unfold fnT
  simp only [List.forall_mem_cons, List.not_mem_nil, false_implies, implies_true, and_true]
  exact ⟨⟨_, _, rfl⟩, ⟨_, _, rfl⟩, ⟨_, _, rfl⟩, ⟨_, _, rfl⟩, ⟨_, _, rfl⟩, ⟨_, _, rfl⟩, ⟨_, _, rfl⟩, ⟨_, _, rfl⟩, ⟨_, _, rfl⟩, ⟨_, _, rfl⟩, ⟨_, _, rfl⟩, ⟨_, _, rfl⟩, ⟨_, _, rfl⟩, ⟨_, _, rfl⟩, ⟨_, _, rfl⟩, ⟨_, _, rfl⟩, ⟨_, _, rfl⟩, ⟨_, _, rfl⟩, ⟨_, _, rfl⟩, ⟨_, _, rfl⟩, ⟨_, _, rfl⟩, ⟨_, _, rfl⟩, ⟨_, _, rfl⟩, ⟨_, _, rfl⟩, ⟨_, _, rfl⟩, ⟨_, _, rfl⟩, ⟨_, _, rfl⟩, ⟨_, _, rfl⟩, ⟨_, _, rfl⟩, ⟨_, _, rfl⟩, ⟨_, _, rfl⟩, ⟨_, _, rfl⟩, ⟨_, _, rfl⟩, ⟨_, _, rfl⟩⟩
end
end
/-! ## H83H -/
section
set_option linter.all false
set_option maxRecDepth 100000
set_option maxHeartbeats 4000000
open PySem PySem.Spec PyProof.Rows L2 PySem.W PySem.Calls M
theorem mem_lk {α β : Type} [BEq α] [LawfulBEq α] {x : α} {v : β} : ∀ {l : List (α × β)}, l.lookup x = some v → (x, v) ∈ l
  | (y, b) :: l, h => by
    rw [List.lookup_cons] at h
    split at h
    · rename_i q
      rw [eq_of_beq q, Option.some.inj h]
      exact List.mem_cons_self
    · exact List.mem_cons_of_mem _ (mem_lk h)
theorem gs_split {x : Str} {v : GV} (l : tab.gs.lookup x = some v) : (x, v) ∈ fnT ∨ (∃ C, (C, x) ∈ excT ∧ v = .exc C x) ∨ (x = "Reader" ∧ v = .cls RC "Reader.__init__" 3 []) ∨ (x = "GREATEST" ∧ v = .dat (.int (10 ^ 20 - 1))) ∨ (x = "MOST_SIGNS" ∧ v = .dat (.int 400000)) ∨ (x = "FIGURES" ∧ v = .dat (.int 20)) ∨ (x = "FORMS" ∧ v = .dat (.con FA)) := by
  have m := mem_lk l
  unfold tab at m
  simp only [List.mem_append, List.mem_map, List.mem_cons, Prod.mk.injEq, List.not_mem_nil, or_false] at m
  rcases m with (m | ⟨p, hp, e1, e2⟩) | m
  · exact .inl m
  · exact .inr (.inl ⟨p.1, by rw [← e1]; exact hp, by rw [← e2, e1]⟩)
  · exact .inr (.inr m)
section
variable {w : World} {h base : Heap} {mg : Str → Option Value} {K : Frag}
theorem hd_ok (e : Kn K w) (X : K.In h) (G : h.Ns mainGlobals mg) (TB : ∀ p ∈ hdTs, LamX.TabB base mg p.1 p.2) : HdOk tab defsL PP w K mg base lamTb where
  dat := fun x d l => by
    rcases gs_split l with m | ⟨C, _, m⟩ | ⟨_, m⟩ | ⟨rfl, m⟩ | ⟨rfl, m⟩ | ⟨rfl, m⟩ | ⟨rfl, m⟩
    · obtain ⟨np, dl, z⟩ := fnT_kind _ m
      cases z
    · cases m
    · cases m
    · cases m
      obtain ⟨t, z⟩ := HK.gi_ok X G (HK.fact e 88 rfl)
      exact ⟨_, .int (10 ^ 20 - 1), z, ⟨t, rfl⟩, rfl⟩
    · cases m
      obtain ⟨t, z⟩ := HK.gi_ok X G (HK.fact e 89 rfl)
      exact ⟨_, .int 400000, z, ⟨t, rfl⟩, rfl⟩
    · cases m
      obtain ⟨t, z⟩ := HK.gi_ok X G (HK.fact e 90 rfl)
      exact ⟨_, .int 20, z, ⟨t, rfl⟩, rfl⟩
    · cases m
      exact ⟨_, .ref FA, HK.gl_ok X G (HK.fact e 91 rfl), rfl, rfl⟩
  fn := fun x np dl l => by
    rcases gs_split l with m | ⟨C, _, m⟩ | ⟨_, m⟩ | ⟨rfl, m⟩ | ⟨rfl, m⟩ | ⟨rfl, m⟩ | ⟨rfl, m⟩
    · exact fnT_ok e X G TB _ m np dl rfl
    all_goals cases m
  cls := fun x C init np dl l => by
    rcases gs_split l with m | ⟨C, _, m⟩ | ⟨rfl, m⟩ | ⟨rfl, m⟩ | ⟨rfl, m⟩ | ⟨rfl, m⟩ | ⟨rfl, m⟩
    · obtain ⟨np, dl, z⟩ := fnT_kind _ m
      cases z
    · cases m
    · cases m
      exact t_Reader___init__ e X G TB
    all_goals cases m
  ms := fun m l lk i hi => by
    have q := mem_lk lk
    unfold tab msT at q
    simp only [List.mem_cons, Prod.mk.injEq, List.not_mem_nil, or_false] at q
    refine ⟨?_, ?_⟩
    · rcases q with ⟨rfl, rfl⟩ | ⟨rfl, rfl⟩ | ⟨rfl, rfl⟩ | ⟨rfl, rfl⟩ | ⟨rfl, rfl⟩ | ⟨rfl, rfl⟩ <;>
        (rw [List.mem_singleton] at hi; subst hi; exact HK.cls_ok (HK.fact e 79 rfl))
    · rcases q with ⟨rfl, rfl⟩ | ⟨rfl, rfl⟩ | ⟨rfl, rfl⟩ | ⟨rfl, rfl⟩ | ⟨rfl, rfl⟩ | ⟨rfl, rfl⟩
      · rw [List.mem_singleton] at hi; subst hi; exact t_Reader_refuse e X G TB
      · rw [List.mem_singleton] at hi; subst hi; exact t_Reader_is_over e X G TB
      · rw [List.mem_singleton] at hi; subst hi; exact t_Reader_word e X G TB
      · rw [List.mem_singleton] at hi; subst hi; exact t_Reader_one_of e X G TB
      · rw [List.mem_singleton] at hi; subst hi; exact t_Reader_natural e X G TB
      · rw [List.mem_singleton] at hi; subst hi; exact t_Reader_end e X G TB
  cs := fun C names lk => by
    have q := mem_lk lk
    unfold tab at q
    simp only [List.mem_cons, Prod.mk.injEq, List.not_mem_nil, or_false] at q
    obtain ⟨rfl, rfl⟩ := q
    exact ⟨HK.cls_ok (HK.fact e 79 rfl), HK.noat_ok (HK.fact e 87 rfl)⟩
  bi := fun x _ m => HK.frs_ok X G (HK.fact e 0 rfl) x (show x ∈ biN from m)
  S := HK.sok_of (HK.dict_ e 0 rfl) (HK.fact e 92 rfl) (by decide +kernel) (by decide +kernel)
  lam := fun x kd l => by
    have m := mem_lk l
    unfold tab lamT at m
    simp only [List.mem_cons, Prod.mk.injEq, List.not_mem_nil, or_false] at m
    rcases m with ⟨rfl, rfl⟩ | ⟨rfl, rfl⟩ | ⟨rfl, rfl⟩
    · exact ⟨heard_hd e X G, rfl⟩
    · exact tells_hd e X G
    · exact refuses_hd e X G
  rs := fun x C wd l => by
    rcases gs_split l with m | ⟨C', hC, m⟩ | ⟨_, m⟩ | ⟨rfl, m⟩ | ⟨rfl, m⟩ | ⟨rfl, m⟩ | ⟨rfl, m⟩
    · obtain ⟨np, dl, z⟩ := fnT_kind _ m
      cases z
    · cases m
      simp only [excT, List.mem_cons, Prod.mk.injEq, List.not_mem_nil, or_false] at hC
      rcases hC with ⟨rfl, rfl⟩ | ⟨rfl, rfl⟩ | ⟨rfl, rfl⟩ | ⟨rfl, rfl⟩
      · exact x_BadDeed e X G
      · exact x_BadText e X G
      · exact x_WrongLine e X G
      · exact x_TooMany e X G
    all_goals cases m
end
end
/-! ## H83L -/
section
set_option linter.all false
set_option maxRecDepth 100000
set_option maxHeartbeats 4000000
open PySem PySem.Spec PyProof.Rows L2 PySem.W PySem.Calls M
abbrev Lw : PySem.W.OpenLaw := PySem.Challenge.rw_slotsbehind_k83_lines_of_deeds
theorem tabs_at {g : Addr → Option Obj} {h : Heap} (X : (He.frG g (hd.ts.flatMap fun p => [p.1, p.2])).In h) (e : hd.ts.all (HK.tabOk (He.frG g (hd.ts.flatMap fun p => [p.1, p.2]))) = true) : ∀ p ∈ hdTs, h.get? p.2 = some { cls := .none, data := .fields #[] } ∧ CodeHd h p.1 p.2 := fun p hp => by
  have z := List.all_eq_true.mp e p hp
  obtain ⟨z1, z2⟩ := He.ba z
  refine ⟨?_, codeHd_of_K X z1⟩
  split at z2
  · rename_i o q
    rw [X _ _ q, He.emptyTab_eq z2]
  · cases z2
/-- the law's def, from what is true of it at any base -/
theorem law_at {n : Nat} (PL : ∀ (ns : List Int), ns.length ≤ 63 → (∀ z ∈ ns, Builtin.Int.intBits z ≤ 1048576) → ∀ d, d = D.fls (ns.map .int) ∨ d = D.lst (ns.map .int) → ∃ A, fns (n + 1) "law" [d] [] = .ok (.bl true) A)
    (w : World) (mg : Str → Option Value) (fa : Addr) (h : Heap) (Y : HK.Says hd w h) (G : h.Ns mainGlobals mg) (hm : mg "law" = some (.ref fa)) :
    ∃ K : Frag, K.In h ∧ LamX.LawAtS Lw w K (L2N.CX PP w) (8 * (n + 1)) 63 "script" mg fa h := by
  obtain ⟨g, X, e, X2, e2⟩ := Y.ex
  refine ⟨He.frG g hd.as, X, ?_⟩
  obtain ⟨oc, dV, kV, doc, pm, ct, an, od, osl, lk, hcd, hD⟩ := HK.def_ e 40 (x := a_law) rfl
  have hfa : fa = a_law.f := by
    have z := HK.gl_ok X G (HK.fact e 68 (f := HK.gl "law" 1622) rfl)
    rw [hm] at z
    cases z
    rfl
  subst hfa
  have TB := tabs_at X2 e2
  have cl : a_law.clo = [] := rfl
  have hp : a_law.params = HK.plainA (argsA (stAt 110)) := by kernel_rfl
  have hps : (argsA (stAt 110)).map (·.arg) = (["script"] : List Str) := by kernel_rfl
  have l5 : HK.BindsP (argsA (stAt 110)) := HK.binds_of (np := 1) (by kernel_rfl) fun us hu => by
    match us, hu with
    | [u], _ => intro x q body sc kV doc pm cdv ct an; kernel_rfl
  rw [cl, hp] at lk
  have hD' : DflV (He.frG g hd.as) dV [] := hD
  have hb := HK.binds0 (K := He.frG g hd.as) (n := a_law.name) (q := a_law.qual) (body := a_law.body) (sc := a_law.scope) (kV := kV) (doc := doc) (pm := pm) (an := an) (cdv := .ref a_law.c) (ct := ct) hD' l5
  have hdv : dV = .none := by
    rcases hD' with ⟨_, z⟩ | ⟨z, _⟩
    · exact z
    · exact absurd rfl z
  subst hdv
  refine ⟨fnOf a_law.name a_law.qual (HK.plainA (argsA (stAt 110))) a_law.body a_law.scope .none kV doc pm an (.ref a_law.c) ct, hdTs, spM (He.frG g hd.as) lamTb 1 (fnsAt tab 100000 defsL (n + 1) "law"), fun p hp => (TB p hp).1, ?_, fun p hp => (TB p hp).2, fun s u => ?_, fun H a ns hl hbits hT hS => ?_, fun base XB GB TBB => ?_⟩
  · exact fun p hp => HK.frG_none (by revert p; decide +kernel)
  · have z := l5 a_law.name a_law.qual a_law.body a_law.scope kV doc pm (.ref a_law.c) ct an [u] (by rfl)
    rw [hps] at z
    exact .of_eq z
  · have R : Rel (He.frG g hd.as) [] [] H lamTb [] := ⟨rfl, List.nodup_nil, fun i o a z => by simp at z, fun p hp => by
      simp only [lamTb, List.mem_cons, List.not_mem_nil, or_false] at hp
      rcases hp with rfl | rfl
      · exact LamX.TabS.nil (hT (1607, 1603) (by decide))
      · exact LamX.TabS.nil (hT (1614, 1610) (by decide)), fun z hz => absurd hz (by simp)⟩
    have go : ∀ d, (d = D.fls (ns.map .int) ∨ d = D.lst (ns.map .int)) → VR (He.frG g hd.as) [] [] H d (.ref a) → spM (He.frG g hd.as) lamTb 1 (fnsAt tab 100000 defsL (n + 1) "law") [.ref a] H (fun v _ => v = .bl true) fun _ _ _ => False := fun d hd1 hv => by
      obtain ⟨A, hA⟩ := PL ns hl hbits d hd1
      refine ⟨[], [d], [], [], rfl, ⟨_, [], rfl, hv, rfl⟩, R, ?_⟩
      have hA' : fnsAt tab 100000 defsL (n + 1) "law" [d] [] = .ok (.bl true) A := hA
      rw [hA']
      exact fun ρ' H' _ _ v hv => hv
    have inV : ∀ l : List Int, VRs (He.frG g hd.as) [] [] H (l.map .int) (l.map V.int) := fun l => by
      induction l with
      | nil => rfl
      | cons i l ih => exact ⟨_, _, rfl, rfl, ih⟩
    rcases hS with (z | ⟨o, z⟩) | ⟨o, its, m, z, zc, _⟩
    · exact go _ (.inr rfl) (by simp only [VR]; exact ⟨a, _, rfl, by simp, by simp, z, inV ns⟩)
    · exact go _ (.inl rfl) (by simp only [VR]; exact ⟨a, _, o, rfl, by simp, z, inV ns⟩)
    · exact absurd zc (HK.noList_ok (HK.fact e 121 rfl) z)
  · have to := tok_all (hd_ok e X G (base := base) TBB) (wf := 100000) n
    have z := fn_succ (f := a_law.f) (fd := fnOf a_law.name a_law.qual (HK.plainA (argsA (stAt 110))) a_law.body a_law.scope .none kV doc pm an (.ref a_law.c) ct) (ps := ["script"]) (key := "law") (np := 1) (d := d_law) to rfl (by kernel_rfl) ⟨⟨_, _, _, _, _, _, _, _, _, _, _, _, _, rfl, lk, hcd, HK.la_none rfl⟩, s_law⟩
    exact z
open HandSHeadRun in
theorem law_holds {n : Nat} (hr : Room (8 * (n + 1)) callerA) (hw : Lw.row.toRowW.promised) (run : ∀ w, RunEq Rw (PySem.W.view Rw.prog [110]) (HK.hook hd) (HK.ob hd) 20000 loose w)
    (PL : ∀ (ns : List Int), ns.length ≤ 63 → (∀ z ∈ ns, Builtin.Int.intBits z ≤ 1048576) → ∀ d, d = D.fls (ns.map .int) ∨ d = D.lst (ns.map .int) → ∃ A, fns (n + 1) "law" [d] [] = .ok (.bl true) A) : Lw.row.Holds :=
  head_any (q := PySem.W.view Rw.prog [110]) (H := HK.hook hd) (ob := HK.ob hd) (M := 20000) (loose := loose) (d := topDef Rw.prog 110) (kwd := []) (HK.ob_eq hd) (by kernel_rfl) (fun s => by kernel_rfl) run (by kernel_rfl) (by kernel_rfl) (by kernel_rfl) (by kernel_rfl) (by kernel_rfl) (by kernel_rfl) ⟨rfl, rfl, rfl, rfl, rfl, by decide +kernel⟩ hw
    (LamX.walk_ofTsE (l := Lw) (n := 63) (k := 8 * (n + 1)) (CX := fun w => L2N.CX PP w) (x := "script") (by kernel_rfl) (by rw [sizeLine_eq]; omega) (by kernel_rfl) hr
      (fun w mg fa h Y G hm => law_at PL w mg fa h Y G (by rw [← hm]; kernel_rfl)) fun w H s e s' hc => by
        obtain ⟨_, _, _, _, _, _, _, _, _, _, _, _, z⟩ := hc
        exact z)

end
/-! ## G83 -/
section
set_option linter.all false
set_option maxRecDepth 100000
set_option maxHeartbeats 400000
namespace M
open PySem L2
theorem eK_at (d : D) (L : M.Loc) (A : AH) : eK d L A = .ok d A := rfl
theorem e1_at (a : ME) (f : D → AH → Res D) (L : M.Loc) (A : AH) : e1 a f L A = (a L A).bind f := rfl
theorem e2_at (a b : ME) (f : D → D → AH → Res D) (L : M.Loc) (A : AH) : e2 a b f L A = (a L A).bind fun x A1 => (b L A1).bind fun y A2 => f x y A2 := rfl
theorem eVar_0 (d : D) (L : M.Loc) (A : AH) : eVar 0 (some d :: L) A = .ok d A := rfl
theorem eVar_1 (d : D) (x : Option D) (L : M.Loc) (A : AH) : eVar 1 (x :: some d :: L) A = .ok d A := rfl
theorem eVar_2 (d : D) (x y : Option D) (L : M.Loc) (A : AH) : eVar 2 (x :: y :: some d :: L) A = .ok d A := rfl
theorem eVar_3 (d : D) (x y z : Option D) (L : M.Loc) (A : AH) : eVar 3 (x :: y :: z :: some d :: L) A = .ok d A := rfl
theorem aC_at (a : ME) (m : MA) (L : M.Loc) (A : AH) : aC a m L A = (a L A).bind fun x A1 => (m L A1).bind fun ys A2 => .ok (x :: ys) A2 := rfl
theorem a0_at (L : M.Loc) (A : AH) : a0 L A = .ok [] A := rfl
theorem aR_at (m : MA) (f : List D → AH → Res D) (L : M.Loc) (A : AH) : aR m f L A = (m L A).bind f := rfl
theorem tVal_at (a : ME) (L : M.Loc) (A : AH) : tVal a L A = (a L A).bind fun x A1 => truR A1 x := rfl
theorem tNot_at (t : MT) (L : M.Loc) (A : AH) : tNot t L A = (t L A).bind fun k A1 => .ok (!k) A1 := rfl
theorem tCmp_at (S : Stat) (op : CmpOp) (a b : ME) (L : M.Loc) (A : AH) : tCmp S op a b L A = (a L A).bind fun x A1 => (b L A1).bind fun y A2 => blT (cmpM S op x y) A2 := rfl
/-- a test that stands -/
theorem tOr_ok {a b : MT} {L : M.Loc} {A A1 : AH} {k : Bool} (h : a L A = .ok k A1) : tOp .Or a b L A = if k then .ok true A1 else b L A1 := by cases k <;> simp [tOp, h]
theorem tAnd_ok {a b : MT} {L : M.Loc} {A A1 : AH} {k : Bool} (h : a L A = .ok k A1) : tOp .And a b L A = if k then b L A1 else .ok false A1 := by cases k <;> simp [tOp, h]
theorem sIf_ok {c : MT} {a b : MS} {L : M.Loc} {A A1 : AH} {k : Bool} (h : c L A = .ok k A1) : sIf c a b L A = if k then a L A1 else b L A1 := by simp [sIf, h, onR]
theorem sSeq_nx {a b : MS} {L L1 : M.Loc} {A A1 : AH} (h : a L A = .nx L1 A1) : sSeq a b L A = b L1 A1 := by simp [sSeq, h]
theorem sSeq_rt {a b : MS} {L : M.Loc} {d : D} {A A1 : AH} (h : a L A = .rt d A1) : sSeq a b L A = .rt d A1 := by simp [sSeq, h]
theorem sSeq_exc {a b : MS} {L : M.Loc} {e : Exn} {A A1 : AH} (h : a L A = .exc e A1) : sSeq a b L A = .exc e A1 := by simp [sSeq, h]
/-- whole, of a whole number between two bounds -/
theorem whole_int (n : Nat) (i lo hi : Int) (A : AH) : fns (n + 1) "whole" [.int i, .int lo, .int hi] A = .ok (.bl (decide (lo ≤ i) && decide (i ≤ hi))) A := by
  rw [g_whole]
  have h1 : biS tab.S .isi [D.int i, D.ty "int"] A = .ok (.bl true) A := rfl
  have h2 : biS tab.S .isi [D.int i, D.ty "bool"] A = .ok (.bl false) A := rfl
  have h3 : isM (D.int hi) D.non = some false := rfl
  by_cases p : lo ≤ i <;> by_cases q : i ≤ hi <;> simp [c_whole, sSeq, sIf, tOp, tNot, tVal, aR, aC, a0, eVar, eK, h1, h2, onR, truR, truM, sRet, sNx, eOp, e1, e2, cmpO, cmpM, h3, leM, blR, toRes, p, q]
end M
end
/-! ## G83b -/
section
set_option linter.all false
set_option maxRecDepth 100000
set_option maxHeartbeats 400000
namespace M
open PySem L2
/-! number_of: a word of 1 to 20 figures with no needless nought, else nothing -/
def digs : List Nat := [48, 49, 50, 51, 52, 53, 54, 55, 56, 57]
def dig (c : Nat) : Bool := decide (c ∈ ("0123456789" : Str).cps.toList)
def chD (c : Nat) : D := .str ⟨#[c]⟩
def nofB : MS := sIf (tCmp tab.S .NotIn (eVar 1) (eK (.str "0123456789"))) (sRet (eK .non)) (sNx)
theorem nofB_at (c : Nat) (w : D) (A : AH) : nofB [some w, some (chD c)] A = if dig c then .nx [some w, some (chD c)] A else .rt .non A := by
  have h : inM tab.S (chD c) (.str "0123456789") = some (dig c) := rfl
  cases p : dig c <;> simp [nofB, sIf, tCmp, eVar, eK, cmpM, h, p, onR, blT, sRet, sNx]
theorem nof_loop (w : D) (A : AH) : ∀ (cs : List Nat) (x : Option D), (cs.all dig = true → ∃ y, sFor (gN 1) nofB (cs.map chD) [some w, x] A = .nx [some w, y] A) ∧ (cs.all dig = false → sFor (gN 1) nofB (cs.map chD) [some w, x] A = .rt .non A)
  | [], x => ⟨fun _ => ⟨x, rfl⟩, fun h => by simp at h⟩
  | c :: cs, x => by
    have ih := nof_loop w A cs (some (chD c))
    have e : sFor (gN 1) nofB ((c :: cs).map chD) [some w, x] A = match nofB [some w, some (chD c)] A with
      | .nx L2 A2 => sFor (gN 1) nofB (cs.map chD) L2 A2
      | .ct L2 A2 => sFor (gN 1) nofB (cs.map chD) L2 A2
      | .bk L2 A2 => .nx L2 A2
      | r => r := rfl
    rw [e, nofB_at]
    cases p : dig c
    · simp [p]
    · simpa [p] using ih
end M
namespace M
open PySem L2
/-- what number_of tells of a word -/
def nofR (x : Str) (A : AH) : Res D :=
  if x.length < 1 ∨ 20 < x.length then .ok .non A
  else if x.cps.toList.all dig then (if x.cps.toList.head? = some 48 ∧ x ≠ "0" then .ok .non A else optR A ((PySem.intText? x).map .int))
  else .ok .non A
theorem number_of_str (n : Nat) (x : Str) (A : AH) (hs : x.length ≤ sizeLine) : fns (n + 1) "number_of" [.str x] A = nofR x A := by
  rw [g_number_of]
  have hb : c_number_of (fns n) = sSeq (sIf (M.tOp .Or (tCmp tab.S .Lt (M.aR (aC (eVar 0) (a0)) (biS tab.S .len)) (eK (.int 1))) (tCmp tab.S .Gt (M.aR (aC (eVar 0) (a0)) (biS tab.S .len)) (eK (.int 20)))) (sRet (eK .non)) (sNx)) (sSeq (sForE (iGen (eVar 0)) (gN 1) nofB) (sSeq (sIf (M.tOp .And (tCmp tab.S .Eq (e2 (eVar 0) (eK (.int 0)) (ixM tab.S)) (eK (.str "0"))) (tCmp tab.S .NotEq (eVar 0) (eK (.str "0")))) (sRet (eK .non)) (sNx)) (sRet (M.aR (aC (eVar 0) (a0)) (biS tab.S .int))))) := rfl
  rw [hb]
  have hl : biS tab.S .len [D.str x] A = .ok (.int x.length) A := by simp [biS, biM, biV, lenD, hs, optR]
  have hN : sIf (M.tOp .Or (tCmp tab.S .Lt (M.aR (aC (eVar 0) (a0)) (biS tab.S .len)) (eK (.int 1))) (tCmp tab.S .Gt (M.aR (aC (eVar 0) (a0)) (biS tab.S .len)) (eK (.int 20)))) (sRet (eK .non)) (sNx) [some (.str x), none] A = if x.length < 1 ∨ 20 < x.length then .rt .non A else .nx [some (.str x), none] A := by
    by_cases p : x.length < 1
    · have p' : (x.length : Int) < 1 := by omega
      simp [sIf, M.tOp, tCmp, M.aR, aC, a0, eVar, eK, hl, cmpM, ltM, blT, onR, sRet, sNx, p, p']
    · have p' : ¬ (x.length : Int) < 1 := by omega
      by_cases q : 20 < x.length
      · have q' : (20 : Int) < x.length := by omega
        simp [sIf, M.tOp, tCmp, M.aR, aC, a0, eVar, eK, hl, cmpM, ltM, blT, onR, sRet, sNx, p, p', q, q']
      · have q' : ¬ (20 : Int) < x.length := by omega
        simp [sIf, M.tOp, tCmp, M.aR, aC, a0, eVar, eK, hl, cmpM, ltM, blT, onR, sRet, sNx, p, p', q, q']
  unfold nofR
  by_cases hL : x.length < 1 ∨ 20 < x.length
  · rw [if_pos hL]
    rw [if_pos hL] at hN
    rw [sSeq_rt hN]
    rfl
  rw [if_neg hL]
  rw [if_neg hL] at hN
  rw [sSeq_nx hN]
  have hF : sForE (iGen (eVar 0)) (gN 1) nofB [some (.str x), none] A = sFor (gN 1) nofB (x.cps.toList.map chD) [some (.str x), none] A := rfl
  cases p : x.cps.toList.all dig
  · have e := (nof_loop (.str x) A x.cps.toList none).2 p
    rw [sSeq_rt (hF.trans e)]
    rfl
  · obtain ⟨y, e⟩ := (nof_loop (.str x) A x.cps.toList none).1 p
    rw [sSeq_nx (hF.trans e)]
    obtain ⟨c, cs, hx⟩ : ∃ c cs, x.cps.toList = c :: cs := by
      cases h : x.cps.toList with
      | nil => exact absurd (Or.inl (by have : x.length = x.cps.toList.length := by simp [PySem.Str.length]
                                        rw [this, h]; decide)) hL
      | cons c cs => exact ⟨c, cs, rfl⟩
    have hi : ixM tab.S (.str x) (.int 0) A = .ok (.str ⟨#[c]⟩) A := by
      have : x.length ≤ sizeLine := by have : 20 ≤ sizeLine := by decide
                                       omega
      simp [ixM, ixV, this, atI, ixN, hx, optR]
    have hq : eqM (.str ⟨#[c]⟩) (.str "0") = some (decide (c = 48)) := by
      have : (("0" : Str)) = ⟨#[48]⟩ := by decide
      simp [eqM, this]
    have hq2 : eqM (.str x) (.str "0") = some (decide (x = "0")) := rfl
    simp only [hx, List.head?_cons, Option.some.injEq]
    have hI : biS tab.S .int [D.str x] A = optR A ((PySem.intText? x).map .int) := by
      have : x.length ≤ 640 := by omega
      simp [biS, biM, biV, this]
    have fin : toRes (sRet (M.aR (aC (eVar 0) (a0)) (biS tab.S .int)) [some (.str x), y] A) = optR A ((PySem.intText? x).map .int) := by
      have : sRet (M.aR (aC (eVar 0) (a0)) (biS tab.S .int)) [some (.str x), y] A = onR (biS tab.S .int [D.str x] A) fun d A1 => .rt d A1 := rfl
      rw [this, hI]
      cases hz : (PySem.intText? x) <;> rfl
    have hC : sIf (M.tOp .And (tCmp tab.S .Eq (e2 (eVar 0) (eK (.int 0)) (ixM tab.S)) (eK (.str "0"))) (tCmp tab.S .NotEq (eVar 0) (eK (.str "0")))) (sRet (eK .non)) (sNx) [some (.str x), y] A = if c = 48 ∧ x ≠ "0" then .rt .non A else .nx [some (.str x), y] A := by
      have t1 : tCmp tab.S .Eq (e2 (eVar 0) (eK (.int 0)) (ixM tab.S)) (eK (.str "0")) [some (.str x), y] A = .ok (decide (c = 48)) A := by
        simp only [tCmp, e2, eVar, eK, List.getElem?_cons_zero, Res.bind_ok, hi, cmpM, hq, blT]
      have t2 : tCmp tab.S .NotEq (eVar 0) (eK (.str "0")) [some (.str x), y] A = .ok (!decide (x = "0")) A := by
        simp only [tCmp, eVar, eK, List.getElem?_cons_zero, Res.bind_ok, cmpM, hq2, blT, Option.map_some]
      have t3 := tAnd_ok (b := tCmp tab.S .NotEq (eVar 0) (eK (.str "0"))) t1
      rw [t2] at t3
      have t4 : M.tOp .And (tCmp tab.S .Eq (e2 (eVar 0) (eK (.int 0)) (ixM tab.S)) (eK (.str "0"))) (tCmp tab.S .NotEq (eVar 0) (eK (.str "0"))) [some (.str x), y] A = .ok (decide (c = 48) && !decide (x = "0")) A := by
        rw [t3]
        cases decide (c = 48) <;> rfl
      rw [sIf_ok t4]
      by_cases h48 : c = 48 <;> by_cases h0 : x = "0" <;> simp only [h48, decide_true, decide_false, Bool.false_and, Bool.true_and, Bool.not_eq_true', decide_eq_false_iff_not, ne_eq, true_and, false_and] <;> rfl
    by_cases hh : c = 48 ∧ x ≠ "0"
    · rw [if_pos hh] at hC ⊢
      rw [sSeq_rt hC]
      rfl
    · rw [if_neg hh] at hC ⊢
      rw [sSeq_nx hC, fin, if_pos trivial]
end M
end
/-! ## G83c -/
section
set_option linter.all false
set_option maxRecDepth 100000
set_option maxHeartbeats 400000
namespace M
open PySem L2
/-! the Reader: its words, its line, its place -/
def rd (ws : List D) (ln a : Int) : AO := .ins RC [("words", .lst ws), ("line", .int ln), ("at", .int a)]
theorem fld_words {A : AH} {k : Nat} {ws : List D} {ln a : Int} (h : A[k]? = some (rd ws ln a)) : fldM tab "words" (.obj k) A = .ok (.lst ws) A := by
  simp only [fldM, h, rd]; rfl
theorem fld_line {A : AH} {k : Nat} {ws : List D} {ln a : Int} (h : A[k]? = some (rd ws ln a)) : fldM tab "line" (.obj k) A = .ok (.int ln) A := by
  simp only [fldM, h, rd]; rfl
theorem fld_at {A : AH} {k : Nat} {ws : List D} {ln a : Int} (h : A[k]? = some (rd ws ln a)) : fldM tab "at" (.obj k) A = .ok (.int a) A := by
  simp only [fldM, h, rd]; rfl
theorem set_at {A : AH} {k : Nat} {ws : List D} {ln a b : Int} {L : M.Loc} (h : A[k]? = some (rd ws ln a)) : setFld tab "at" (.obj k) (.int b) L A = .nx L (A.set k (rd ws ln b)) := by
  simp only [setFld, h, rd]; rfl
theorem eMt_rd {m : Str} {n : Nat} {o : ME} {as : MA} {Φ : Fns} {L : M.Loc} {A A1 A2 : AH} {k : Nat} {ws ds dvs : List D} {ln a : Int} {i : MI}
    (ho : o L A = .ok (.obj k) A1) (h : A1[k]? = some (rd ws ln a)) (hm : methGo tab m RC [("words", .lst ws), ("line", .int ln), ("at", .int a)] n = some (dvs, i)) (ha : as L A1 = .ok ds A2) (hn : (D.obj k :: (ds ++ dvs)).length = i.np) :
    eMt tab Φ m n o as L A = Φ i.key (.obj k :: (ds ++ dvs)) A2 := by
  simp only [eMt, ho, Res.bind_ok, h, rd, hm, ha, callF, hn, if_true]
theorem rd_over (n : Nat) {A : AH} {k : Nat} {ws : List D} {ln a : Int} (h : A[k]? = some (rd ws ln a)) : fns (n + 1) "Reader.is_over" [.obj k] A = .ok (.bl (decide (a = ws.length))) A := by
  rw [g_Reader_is_over]
  have hl : biS tab.S .len [D.lst ws] A = .ok (.int ws.length) A := rfl
  simp [c_Reader_is_over, sRet, e2, e1, eVar, fld_at h, fld_words h, M.aR, aC, a0, hl, cmpO, cmpM, eqM, blR, onR, toRes]
theorem rd_refuse (n : Nat) {A : AH} {k : Nat} {ws : List D} {ln a b : Int} (h : A[k]? = some (rd ws ln a)) : fns (n + 1) "Reader.refuse" [.obj k, .int b] A = .exc ⟨1218, .tup [.int ln, .int b], "WrongLine"⟩ A := by
  rw [g_Reader_refuse]
  have ht : tupR [.int ln, .int b] A = .ok (.tup [.int ln, .int b]) A := rfl
  simp [c_Reader_refuse, sRaise, e1, eVar, fld_line h, M.aR, aC, a0, ht, onR, toRes]
end M
end
/-! ## G83d -/
section
set_option linter.all false
set_option maxRecDepth 100000
set_option maxHeartbeats 400000
namespace M
open PySem L2
/-- the next word, or the refusal -/
theorem rd_word (n : Nat) {A : AH} {k : Nat} {ws : List D} {ln : Int} {a : Nat} (ha : a ≤ ws.length) (h : A[k]? = some (rd ws ln a)) : fns (n + 2) "Reader.word" [.obj k] A =
    match ws[a]? with
    | some w => .ok w (A.set k (rd ws ln ((a + 1 : Nat) : Int)))
    | none => .exc ⟨1218, .tup [.int ln, .int a], "WrongLine"⟩ A := by
  rw [show n + 2 = (n + 1) + 1 from rfl, g_Reader_word]
  have ho : ∀ B : AH, eVar 0 [some (.obj k)] B = .ok (.obj k) B := fun _ => rfl
  have e1' : eMt tab (fns (n + 1)) "is_over" 0 (eVar 0) (a0) [some (.obj k)] A = .ok (.bl (decide ((a : Int) = ws.length))) A :=
    (eMt_rd (ho A) h (dvs := []) (i := ⟨RC, ("Reader.is_over" : Str), 1, []⟩) rfl rfl rfl).trans (rd_over n h)
  have t1 : tVal (eMt tab (fns (n + 1)) "is_over" 0 (eVar 0) (a0)) [some (.obj k)] A = .ok (decide ((a : Int) = ws.length)) A := by
    simp only [tVal, e1', Res.bind_ok, truR, truM]
  by_cases p : a = ws.length
  · have q : ws[a]? = none := by simp [p]
    rw [q]
    have hat : aC (M.e1 (eVar 0) (fldM tab "at")) a0 [some (.obj k)] A = .ok [.int a] A := by
      simp [aC, M.e1, ho, fld_at h, a0]
    have e2' : eMt tab (fns (n + 1)) "refuse" 1 (eVar 0) (aC (M.e1 (eVar 0) (fldM tab "at")) a0) [some (.obj k)] A = .exc ⟨1218, .tup [.int ln, .int a], "WrongLine"⟩ A :=
      (eMt_rd (ho A) h (dvs := []) (i := ⟨RC, ("Reader.refuse" : Str), 2, []⟩) rfl hat rfl).trans (rd_refuse n h)
    have s1 : sIf (tVal (eMt tab (fns (n + 1)) "is_over" 0 (eVar 0) (a0))) (sExp (eMt tab (fns (n + 1)) "refuse" 1 (eVar 0) (aC (M.e1 (eVar 0) (fldM tab "at")) (a0)))) (sNx) [some (.obj k)] A = .exc ⟨1218, .tup [.int ln, .int a], "WrongLine"⟩ A := by
      rw [sIf_ok t1]
      simp [show ((a : Int) = ws.length) by omega, sExp, e2', onR]
    unfold c_Reader_word
    rw [sSeq_exc s1]
    rfl
  · have lt : a < ws.length := by omega
    have q : ws[a]? = some ws[a] := List.getElem?_eq_getElem lt
    rw [q]
    have kl : k < A.length := (List.getElem?_eq_some_iff.1 h).1
    have s1 : sIf (tVal (eMt tab (fns (n + 1)) "is_over" 0 (eVar 0) (a0))) (sExp (eMt tab (fns (n + 1)) "refuse" 1 (eVar 0) (aC (M.e1 (eVar 0) (fldM tab "at")) (a0)))) (sNx) [some (.obj k)] A = .nx [some (.obj k)] A := by
      rw [sIf_ok t1]
      simp [show ¬ ((a : Int) = ws.length) by omega, sNx]
    have s2 : sInc tab "at" (eVar 0) (eK (.int 1)) [some (.obj k)] A = .nx [some (.obj k)] (A.set k (rd ws ln ((a + 1 : Nat) : Int))) := by
      simp only [sInc, ho, onR, fld_at h, eK, incM, if_true]
      exact set_at h
    have h2 : (A.set k (rd ws ln ((a + 1 : Nat) : Int)))[k]? = some (rd ws ln ((a + 1 : Nat) : Int)) := by simp [kl]
    have hi : ixM tab.S (.lst ws) (.int (((a + 1 : Nat) : Int) - 1)) (A.set k (rd ws ln ((a + 1 : Nat) : Int))) = .ok ws[a] (A.set k (rd ws ln ((a + 1 : Nat) : Int))) := by
      have : (((a + 1 : Nat) : Int) - 1) = (a : Int) := by omega
      rw [this]
      have : ixN ws.length (a : Int) = some a := by
        simp [ixN]; omega
      simp [ixM, ixV, atI, this, q, optR]
    unfold c_Reader_word
    rw [sSeq_nx s1, sSeq_nx s2]
    simp only [sRet, M.e2, M.e1, ho, Res.bind_ok, fld_words h2, fld_at h2, eK, opM, hi, onR, toRes]
end M
end
/-! ## G83e -/
section
set_option linter.all false
set_option maxRecDepth 100000
set_option maxHeartbeats 400000
namespace M
open PySem L2
/-- the refusal of the word before -/
theorem rd_refuse_before (n : Nat) {A : AH} {k : Nat} {ws : List D} {ln : Int} {a : Nat} {L : M.Loc} (h : A[k]? = some (rd ws ln ((a + 1 : Nat) : Int))) (ho : eVar 0 L A = .ok (.obj k) A) :
    eMt tab (fns (n + 1)) "refuse" 1 (eVar 0) (aC (M.e2 (M.e1 (eVar 0) (fldM tab "at")) (eK (.int 1)) (opM .Sub)) (a0)) L A = .exc ⟨1218, .tup [.int ln, .int a], "WrongLine"⟩ A := by
  have hat : aC (M.e2 (M.e1 (eVar 0) (fldM tab "at")) (eK (.int 1)) (opM .Sub)) a0 L A = .ok [.int a] A := by
    have : (((a + 1 : Nat) : Int) - 1) = (a : Int) := by omega
    simp only [aC, M.e2, M.e1, ho, fld_at h, eK, a0, Res.bind_ok, opM, this]
  exact (eMt_rd ho h (dvs := []) (i := ⟨RC, ("Reader.refuse" : Str), 2, []⟩) rfl hat rfl).trans (rd_refuse n h)
theorem rd_one_of (n : Nat) {A : AH} {k : Nat} {ws : List D} {ln : Int} {a : Nat} {ch : D} {f : D → Bool} (ha : a ≤ ws.length) (h : A[k]? = some (rd ws ln a)) (hf : ∀ w, ws[a]? = some w → inM tab.S w ch = some (f w)) :
    fns (n + 3) "Reader.one_of" [.obj k, ch] A =
    match ws[a]? with
    | some w => if f w then .ok w (A.set k (rd ws ln ((a + 1 : Nat) : Int))) else .exc ⟨1218, .tup [.int ln, .int a], "WrongLine"⟩ (A.set k (rd ws ln ((a + 1 : Nat) : Int)))
    | none => .exc ⟨1218, .tup [.int ln, .int a], "WrongLine"⟩ A := by
  rw [show n + 3 = (n + 2) + 1 from rfl, g_Reader_one_of]
  have kl : k < A.length := (List.getElem?_eq_some_iff.1 h).1
  have e1' : eMt tab (fns (n + 2)) "word" 0 (eVar 0) (a0) [some (.obj k), some ch, none] A = _ :=
    (eMt_rd (rfl : eVar 0 [some (.obj k), some ch, none] A = .ok (.obj k) A) h (dvs := []) (i := ⟨RC, ("Reader.word" : Str), 1, []⟩) rfl rfl rfl).trans (rd_word n ha h)
  cases q : ws[a]? with
  | none =>
    rw [q] at e1'
    have s1 : sSet 2 (eMt tab (fns (n + 2)) "word" 0 (eVar 0) (a0)) [some (.obj k), some ch, none] A = .exc ⟨1218, .tup [.int ln, .int a], "WrongLine"⟩ A := by
      simp only [sSet, e1', onR]
    unfold c_Reader_one_of
    rw [sSeq_exc s1]
    rfl
  | some w =>
    rw [q] at e1'
    have h2 : (A.set k (rd ws ln ((a + 1 : Nat) : Int)))[k]? = some (rd ws ln ((a + 1 : Nat) : Int)) := by simp [kl]
    generalize hA : A.set k (rd ws ln ((a + 1 : Nat) : Int)) = B at e1' h2 ⊢
    have s1 : sSet 2 (eMt tab (fns (n + 2)) "word" 0 (eVar 0) (a0)) [some (.obj k), some ch, none] A = .nx [some (.obj k), some ch, some w] B := by
      simp only [sSet, e1', onR]; rfl
    have t1 : tCmp tab.S .NotIn (eVar 2) (eVar 1) [some (.obj k), some ch, some w] B = .ok (!f w) B := by
      simp only [tCmp, eVar, List.getElem?_cons_zero, List.getElem?_cons_succ, Res.bind_ok, cmpM, hf w q, Option.map_some, blT]
    unfold c_Reader_one_of
    rw [sSeq_nx s1]
    cases p : f w
    · rw [p] at t1
      have s2 : sIf (tCmp tab.S .NotIn (eVar 2) (eVar 1)) (sExp (eMt tab (fns (n + 2)) "refuse" 1 (eVar 0) (aC (M.e2 (M.e1 (eVar 0) (fldM tab "at")) (eK (.int 1)) (opM .Sub)) (a0)))) (sNx) [some (.obj k), some ch, some w] B = .exc ⟨1218, .tup [.int ln, .int a], "WrongLine"⟩ B := by
        rw [sIf_ok t1]
        simp only [Bool.not_false, if_true, sExp, rd_refuse_before (n + 1) h2 (rfl : eVar 0 [some (.obj k), some ch, some w] B = .ok (.obj k) B), onR]
      rw [sSeq_exc s2]
      simp [p, toRes]
    · rw [p] at t1
      have s2 : sIf (tCmp tab.S .NotIn (eVar 2) (eVar 1)) (sExp (eMt tab (fns (n + 2)) "refuse" 1 (eVar 0) (aC (M.e2 (M.e1 (eVar 0) (fldM tab "at")) (eK (.int 1)) (opM .Sub)) (a0)))) (sNx) [some (.obj k), some ch, some w] B = .nx [some (.obj k), some ch, some w] B := by
        rw [sIf_ok t1]
        rfl
      rw [sSeq_nx s2]
      have : toRes (sRet (eVar 2) [some (.obj k), some ch, some w] B) = .ok w B := rfl
      rw [this]
      simp [p]
end M
end
/-! ## G83f -/
section
set_option linter.all false
set_option maxRecDepth 100000
set_option maxHeartbeats 400000
namespace M
open PySem L2
def optD : Option Nat → D
  | some i => .int i
  | none => .non
theorem rd_natural (n : Nat) {A : AH} {k : Nat} {ws : List D} {ln : Int} {a : Nat} {g : D → Option Nat} (ha : a ≤ ws.length) (h : A[k]? = some (rd ws ln a))
    (hg : ∀ w, ws[a]? = some w → ∀ B, fns (n + 2) "number_of" [w] B = .ok (optD (g w)) B) :
    fns (n + 3) "Reader.natural" [.obj k, .int 0, .non] A =
    match ws[a]? with
    | some w => (match g w with
      | some i => .ok (.int i) (A.set k (rd ws ln ((a + 1 : Nat) : Int)))
      | none => .exc ⟨1218, .tup [.int ln, .int a], "WrongLine"⟩ (A.set k (rd ws ln ((a + 1 : Nat) : Int))))
    | none => .exc ⟨1218, .tup [.int ln, .int a], "WrongLine"⟩ A := by
  rw [show n + 3 = (n + 2) + 1 from rfl, g_Reader_natural]
  have kl : k < A.length := (List.getElem?_eq_some_iff.1 h).1
  have e1' : eMt tab (fns (n + 2)) "word" 0 (eVar 0) (a0) [some (.obj k), some (.int 0), some .non, none] A = _ :=
    (eMt_rd (rfl : eVar 0 [some (.obj k), some (.int 0), some .non, none] A = .ok (.obj k) A) h (dvs := []) (i := ⟨RC, ("Reader.word" : Str), 1, []⟩) rfl rfl rfl).trans (rd_word n ha h)
  unfold c_Reader_natural
  cases q : ws[a]? with
  | none =>
    rw [q] at e1'
    have s1 : sSet 3 (eCall (fns (n + 2)) 1 "number_of" [] (aC (eMt tab (fns (n + 2)) "word" 0 (eVar 0) (a0)) (a0))) [some (.obj k), some (.int 0), some .non, none] A = .exc ⟨1218, .tup [.int ln, .int a], "WrongLine"⟩ A := by
      simp only [sSet, eCall, M.aR, aC, e1', onR, Res.bind_exc]
    rw [sSeq_exc s1]
    rfl
  | some w =>
    rw [q] at e1'
    have h2 : (A.set k (rd ws ln ((a + 1 : Nat) : Int)))[k]? = some (rd ws ln ((a + 1 : Nat) : Int)) := by simp [kl]
    generalize hA : A.set k (rd ws ln ((a + 1 : Nat) : Int)) = B at e1' h2 ⊢
    have s1 : sSet 3 (eCall (fns (n + 2)) 1 "number_of" [] (aC (eMt tab (fns (n + 2)) "word" 0 (eVar 0) (a0)) (a0))) [some (.obj k), some (.int 0), some .non, none] A = .nx [some (.obj k), some (.int 0), some .non, some (optD (g w))] B := by
      simp only [sSet, eCall, M.aR, aC, a0, e1', onR, Res.bind_ok, callF, List.append_nil, List.length_cons, List.length_nil, Nat.zero_add, if_true, hg w q B]
      rfl
    rw [sSeq_nx s1]
    cases p : g w with
    | none =>
      have t1 : M.tOp .Or (tCmp tab.S .Is (eVar 3) (eK .non)) (M.tOp .Or (tCmp tab.S .Lt (eVar 3) (eVar 1)) (M.tOp .And (tCmp tab.S .IsNot (eVar 2) (eK .non)) (tCmp tab.S .Gt (eVar 3) (eVar 2)))) [some (.obj k), some (.int 0), some .non, some (optD none)] B = .ok true B := rfl
      have s2 := sIf_ok (a := sExp (eMt tab (fns (n + 2)) "refuse" 1 (eVar 0) (aC (M.e2 (M.e1 (eVar 0) (fldM tab "at")) (eK (.int 1)) (opM .Sub)) (a0)))) (b := sNx) t1
      rw [if_pos rfl] at s2
      simp only [sExp, rd_refuse_before (n + 1) h2 (rfl : eVar 0 [some (.obj k), some (.int 0), some .non, some (optD none)] B = .ok (.obj k) B), onR] at s2
      rw [sSeq_exc s2]
      simp [p, toRes]
    | some i =>
      have t1 : M.tOp .Or (tCmp tab.S .Is (eVar 3) (eK .non)) (M.tOp .Or (tCmp tab.S .Lt (eVar 3) (eVar 1)) (M.tOp .And (tCmp tab.S .IsNot (eVar 2) (eK .non)) (tCmp tab.S .Gt (eVar 3) (eVar 2)))) [some (.obj k), some (.int 0), some .non, some (optD (some i))] B = .ok false B := by
        have u1 : tCmp tab.S .Is (eVar 3) (eK .non) [some (.obj k), some (.int 0), some .non, some (optD (some i))] B = .ok false B := rfl
        have u2 : tCmp tab.S .Lt (eVar 3) (eVar 1) [some (.obj k), some (.int 0), some .non, some (optD (some i))] B = .ok (decide ((i : Int) < 0)) B := rfl
        have u3 : tCmp tab.S .IsNot (eVar 2) (eK .non) [some (.obj k), some (.int 0), some .non, some (optD (some i))] B = .ok false B := rfl
        have u4 : decide ((i : Int) < 0) = false := by simp
        rw [u4] at u2
        rw [tOr_ok u1, if_neg (by simp), tOr_ok u2, if_neg (by simp), tAnd_ok u3, if_neg (by simp)]
      have s2 := sIf_ok (a := sExp (eMt tab (fns (n + 2)) "refuse" 1 (eVar 0) (aC (M.e2 (M.e1 (eVar 0) (fldM tab "at")) (eK (.int 1)) (opM .Sub)) (a0)))) (b := sNx) t1
      rw [if_neg (by simp)] at s2
      rw [sSeq_nx (show _ = SR.nx _ B from s2)]
      have : toRes (sRet (eVar 3) [some (.obj k), some (.int 0), some .non, some (optD (some i))] B) = .ok (.int i) B := rfl
      rw [this]
      simp [p]
theorem rd_end (n : Nat) {A : AH} {k : Nat} {ws : List D} {ln a : Int} (h : A[k]? = some (rd ws ln a)) :
    fns (n + 2) "Reader.end" [.obj k] A = if a = ws.length then .ok .non A else .exc ⟨1218, .tup [.int ln, .int a], "WrongLine"⟩ A := by
  rw [show n + 2 = (n + 1) + 1 from rfl, g_Reader_end]
  have ho : eVar 0 [some (.obj k)] A = .ok (.obj k) A := rfl
  have e1' : eMt tab (fns (n + 1)) "is_over" 0 (eVar 0) (a0) [some (.obj k)] A = .ok (.bl (decide (a = ws.length))) A :=
    (eMt_rd ho h (dvs := []) (i := ⟨RC, ("Reader.is_over" : Str), 1, []⟩) rfl rfl rfl).trans (rd_over n h)
  have hat : aC (M.e1 (eVar 0) (fldM tab "at")) a0 [some (.obj k)] A = .ok [.int a] A := by
    simp only [aC, M.e1, ho, fld_at h, a0, Res.bind_ok]
  have e2' : eMt tab (fns (n + 1)) "refuse" 1 (eVar 0) (aC (M.e1 (eVar 0) (fldM tab "at")) a0) [some (.obj k)] A = .exc ⟨1218, .tup [.int ln, .int a], "WrongLine"⟩ A :=
    (eMt_rd ho h (dvs := []) (i := ⟨RC, ("Reader.refuse" : Str), 2, []⟩) rfl hat rfl).trans (rd_refuse n h)
  have t1 : M.tNot (tVal (eMt tab (fns (n + 1)) "is_over" 0 (eVar 0) (a0))) [some (.obj k)] A = .ok (!decide (a = ws.length)) A := by
    simp only [M.tNot, tVal, e1', Res.bind_ok, truR, truM]
  unfold c_Reader_end
  rw [sIf_ok t1]
  by_cases p : a = ws.length <;> simp [p, sNx, sExp, e2', onR, toRes]
end M
end
/-! ## G83g -/
section
set_option linter.all false
set_option maxRecDepth 100000
set_option maxHeartbeats 400000
namespace M
open PySem L2
theorem rd_init (n : Nat) {A : AH} {k : Nat} {ws : List D} {ln : Int} (h : A[k]? = some (.ins RC [])) : fns (n + 1) "Reader.__init__" [.obj k, .lst ws, .int ln] A = .ok .non (A.set k (rd ws ln 0)) := by
  rw [g_Reader___init__]
  have kl : k < A.length := (List.getElem?_eq_some_iff.1 h).1
  let L : M.Loc := [some (.obj k), some (.lst ws), some (.int ln)]
  let B1 := A.set k (.ins RC [("words", .lst ws)])
  let B2 := B1.set k (.ins RC [("words", .lst ws), ("line", .int ln)])
  have h1 : B1[k]? = some (.ins RC [("words", .lst ws)]) := by simp [B1, kl]
  have h2 : B2[k]? = some (.ins RC [("words", .lst ws), ("line", .int ln)]) := by simp [B2, B1, kl]
  have s1 : sFld tab "words" (eVar 0) (eVar 1) L A = .nx L B1 := by
    show setFld tab "words" (.obj k) (.lst ws) L A = _
    simp only [setFld, h]; rfl
  have s2 : sFld tab "line" (eVar 0) (eVar 2) L B1 = .nx L B2 := by
    show setFld tab "line" (.obj k) (.int ln) L B1 = _
    simp only [setFld, h1]; rfl
  have s3 : sFld tab "at" (eVar 0) (eK (.int 0)) L B2 = .nx L (B2.set k (rd ws ln 0)) := by
    show setFld tab "at" (.obj k) (.int 0) L B2 = _
    simp only [setFld, h2]; rfl
  have e : B2.set k (rd ws ln 0) = A.set k (rd ws ln 0) := by simp [B2, B1]
  unfold c_Reader___init__
  rw [show [some (D.obj k), some (.lst ws), some (.int ln)] = L from rfl, sSeq_nx s1, sSeq_nx s2, s3, e]
  rfl
theorem end_lines_at (n : Nat) (ds : List D) (i : Int) (A : AH) : fns (n + 1) "end_lines" [.lst ds, .int i] A = if (ds.length : Int) > i then .exc ⟨1218, .tup [.int i, .int 0], "WrongLine"⟩ A else .ok .non A := by
  rw [g_end_lines]
  unfold c_end_lines
  have t1 : tCmp tab.S .Gt (M.aR (aC (eVar 0) (a0)) (biS tab.S .len)) (eVar 1) [some (.lst ds), some (.int i)] A = .ok (decide (i < (ds.length : Int))) A := rfl
  rw [sIf_ok t1]
  by_cases p : i < (ds.length : Int)
  · rw [if_pos (by simp [p]), if_pos (by omega)]; rfl
  · rw [if_neg (by simp [p]), if_neg (by omega)]; rfl
end M
end
/-! ## G83h -/
section
set_option linter.all false
set_option maxRecDepth 100000
set_option maxHeartbeats 400000
namespace M
open PySem L2
theorem split_at {Φ : Fns} {L : M.Loc} {A : AH} {x y : Str} (h : x.length + 2 ≤ sizeLine) (hy : (y.length == 0) = false) (ho : eVar 0 L A = .ok (.str x) A) : eMt tab Φ "split" 1 (eVar 0) (aC (eK (.str y)) (a0)) L A = .ok (.lst ((Txt.split x y).map .str)) A := by
  have e : eMt tab Φ "split" 1 (eVar 0) (aC (eK (.str y)) (a0)) L A = mtM .split (.str x) [.str y] A := by
    simp only [eMt, ho, Res.bind_ok]; rfl
  rw [e]
  simp only [mtM, mtV, hy, h, and_self, if_true, optR]
theorem words_of_str (n : Nat) (x : Str) (A : AH) (h : x.length + 2 ≤ sizeLine) : fns (n + 1) "words_of" [.str x] A = .ok (.lst ((Txt.split x " ").map .str)) A := by
  rw [g_words_of]
  unfold c_words_of
  simp only [sRet, split_at h (by decide : (((" " : Str).length) == 0) = false) (rfl : eVar 0 [some (.str x)] A = .ok (.str x) A), onR, toRes]
theorem lines_of_str (n : Nat) (x : Str) (A : AH) (h : x.length + 2 ≤ sizeLine) (hm : x.length ≤ 400000) : fns (n + 1) "lines_of" [.str x] A = .ok (.lst ((Txt.split x "\n").map .str)) A := by
  rw [g_lines_of]
  unfold c_lines_of
  have hs : x.length ≤ sizeLine := by omega
  have hl : biS tab.S .len [D.str x] A = .ok (.int x.length) A := by simp [biS, biM, biV, lenD, hs, optR]
  have t1 : M.tNot (tVal (M.aR (aC (eVar 0) (aC (eK (.ty "str")) (a0))) (biS tab.S .isi))) [some (.str x)] A = .ok false A := rfl
  have t2 : tCmp tab.S .Gt (M.aR (aC (eVar 0) (a0)) (biS tab.S .len)) (eK (.int 400000)) [some (.str x)] A = .ok false A := by
    have : decide ((400000 : Int) < (x.length : Int)) = false := by
      have : ¬ ((400000 : Int) < (x.length : Int)) := by omega
      simp [this]
    simp only [tCmp, M.aR, aC, a0, eVar, eK, List.getElem?_cons_zero, Res.bind_ok, hl, cmpM, ltM, blT, this]
  have s1 := sIf_ok (a := sRaise 1197 "BadText" (M.e1 (eK (.int 1)) negM)) (b := sNx) t1
  have s2 := sIf_ok (a := sRaise 1302 "TooMany" (M.aR (aC (eVar 0) (a0)) (biS tab.S .len))) (b := sNx) t2
  rw [if_neg (by simp)] at s1 s2
  rw [sSeq_nx (show _ = SR.nx [some (.str x)] A from s1), sSeq_nx (show _ = SR.nx [some (.str x)] A from s2)]
  simp only [sRet, split_at h (by decide : ((("\n" : Str).length) == 0) = false) (rfl : eVar 0 [some (.str x)] A = .ok (.str x) A), onR, toRes]
end M
end
/-! ## G83i -/
section
set_option linter.all false
set_option maxRecDepth 100000
set_option maxHeartbeats 400000
namespace M
open PySem L2
/-- a Reader at the i-th line: a new object -/
theorem reader_at_ok (n : Nat) (ls : List D) (i : Nat) (x : Str) (A : AH) (h : ls[i]? = some (.str x)) (hx : x.length + 2 ≤ sizeLine) (hL : ls.length ≤ sizeLine) :
    fns (n + 2) "reader_at" [.lst ls, .int i] A = .ok (.obj A.length) (A ++ [rd ((Txt.split x " ").map .str) i 0]) := by
  rw [show n + 2 = (n + 1) + 1 from rfl, g_reader_at]
  have il : i < ls.length := (List.getElem?_eq_some_iff.1 h).1
  have t1 : tCmp tab.S .Eq (eVar 1) (M.aR (aC (eVar 0) (a0)) (biS tab.S .len)) [some (.lst ls), some (.int i)] A = .ok false A := by
    have e : tCmp tab.S .Eq (eVar 1) (M.aR (aC (eVar 0) (a0)) (biS tab.S .len)) [some (.lst ls), some (.int i)] A = .ok (decide ((i : Int) = (ls.length : Int))) A := rfl
    rw [e, show decide ((i : Int) = (ls.length : Int)) = false by simp; omega]
  have s1 := sIf_ok (a := sRaise 1218 "WrongLine" (M.aR (aC (eVar 1) (aC (eK (.int 0)) (a0))) tupR)) (b := sNx) t1
  rw [if_neg (by simp)] at s1
  have hi : ixM tab.S (.lst ls) (.int i) A = .ok (.str x) A := by
    have : ixN ls.length (i : Int) = some i := by
      simp [ixN]; omega
    simp [ixM, ixV, atI, this, h, optR]
  have hw : eCall (fns (n + 1)) 1 "words_of" [] (aC (M.e2 (eVar 0) (eVar 1) (ixM tab.S)) (a0)) [some (.lst ls), some (.int i)] A = .ok (.lst ((Txt.split x " ").map .str)) A := by
    have : M.e2 (eVar 0) (eVar 1) (ixM tab.S) [some (.lst ls), some (.int i)] A = .ok (.str x) A := hi
    simp only [eCall, M.aR, aC, a0, this, Res.bind_ok, callF, List.append_nil, List.length_cons, List.length_nil, Nat.zero_add, if_true]
    exact words_of_str n x A hx
  have hg : (A ++ [AO.ins RC []])[A.length]? = some (.ins RC []) := by simp
  have hI := rd_init n (ws := (Txt.split x " ").map .str) (ln := (i : Int)) hg
  have hset : (A ++ [AO.ins RC []]).set A.length (rd ((Txt.split x " ").map .str) i 0) = A ++ [rd ((Txt.split x " ").map .str) i 0] := by simp
  rw [hset] at hI
  have hN : eNew (fns (n + 1)) 3 "Reader.__init__" RC [] (aC (eCall (fns (n + 1)) 1 "words_of" [] (aC (M.e2 (eVar 0) (eVar 1) (ixM tab.S)) (a0))) (aC (eVar 1) (a0))) [some (.lst ls), some (.int i)] A = .ok (.obj A.length) (A ++ [rd ((Txt.split x " ").map .str) i 0]) := by
    have h1 : aC (eCall (fns (n + 1)) 1 "words_of" [] (aC (M.e2 (eVar 0) (eVar 1) (ixM tab.S)) (a0))) (aC (eVar 1) (a0)) [some (.lst ls), some (.int i)] A = .ok [.lst ((Txt.split x " ").map .str), .int i] A := by
      simp only [aC, M.aR] at hw ⊢
      rw [hw]; rfl
    simp only [eNew, M.aR, h1, Res.bind_ok, List.append_nil, callF, List.length_cons, List.length_nil, Nat.zero_add, Nat.reduceAdd, if_true, hI]
  unfold c_reader_at
  rw [sSeq_nx (show _ = SR.nx [some (.lst ls), some (.int i)] A from s1)]
  simp only [sRet, hN, onR, toRes]
end M
end
/-! ## G83j -/
section
set_option linter.all false
set_option maxRecDepth 100000
set_option maxHeartbeats 400000
namespace M
open PySem L2
/-- m numbers from the a-th word on -/
def natsGo (g : D → Option Nat) (ws : List D) (ln : Int) (k : Nat) (A : AH) : Nat → Nat → List D → Res D
  | 0, a, acc => .ok (.lst acc) (A.set k (rd ws ln a))
  | m + 1, a, acc => match ws[a]? with
    | none => .exc ⟨1218, .tup [.int ln, .int a], "WrongLine"⟩ (A.set k (rd ws ln a))
    | some w => match g w with
      | none => .exc ⟨1218, .tup [.int ln, .int a], "WrongLine"⟩ (A.set k (rd ws ln ((a + 1 : Nat) : Int)))
      | some i => natsGo g ws ln k A m (a + 1) (acc ++ [.int i])
theorem nats_loop (n : Nat) {g : D → Option Nat} {ws : List D} {ln : Int} {k : Nat} {A : AH} (hk : k < A.length) (hg : ∀ w, w ∈ ws → ∀ B, fns (n + 2) "number_of" [w] B = .ok (optD (g w)) B) (x1 x2 x3 : Option D) :
    ∀ (ds : List D) (a : Nat) (acc : List D), a ≤ ws.length → acc.length + ds.length ≤ sizeLine →
    lcGo true (gN 3) tTrue (eMt tab (fns (n + 3)) "natural" 0 (eVar 0) (a0)) [some (.obj k), x1, x2, x3] ds acc (A.set k (rd ws ln a)) = natsGo g ws ln k A ds.length a acc
  | [], a, acc, ha, hs => rfl
  | d :: ds, a, acc, ha, hs => by
    have h : (A.set k (rd ws ln a))[k]? = some (rd ws ln a) := by simp [hk]
    have e := (eMt_rd (n := 0) (m := "natural") (rfl : eVar 0 [some (.obj k), x1, x2, some d] (A.set k (rd ws ln a)) = .ok (.obj k) (A.set k (rd ws ln a))) h (dvs := [.int 0, .non]) (i := ⟨RC, ("Reader.natural" : Str), 3, [.int 0, .non]⟩) rfl (rfl : a0 _ _ = .ok [] _) rfl).trans (rd_natural n ha h fun w hw => hg w (List.mem_of_getElem? hw))
    simp only [lcGo, gN, List.set_cons_succ, List.set_cons_zero, tTrue, e, natsGo, List.length_cons]
    cases q : ws[a]? with
    | none => simp
    | some w =>
      have al : a < ws.length := (List.getElem?_eq_some_iff.1 q).1
      cases p : g w with
      | none => simp [p]
      | some i =>
        have ih := nats_loop n (ln := ln) hk hg x1 x2 x3 ds (a + 1) (acc ++ [.int i]) al (by simp at hs ⊢; omega)
        simp only [List.length_cons] at hs
        simp only [p, List.set_set]
        rw [if_pos (by omega)]
        exact ih
end M
end
/-! ## G83k -/
section
set_option linter.all false
set_option maxRecDepth 100000
set_option maxHeartbeats 400000
namespace M
open PySem L2
def numG : D → Option Nat
  | .str x => if x.length < 1 ∨ 20 < x.length then none else if x.cps.toList.all dig then (if x.cps.toList.head? = some 48 ∧ x ≠ "0" then none else (PySem.intText? x).map Int.toNat) else none
  | _ => none
theorem dig_iff (c : Nat) : dig c = true ↔ 48 ≤ c ∧ c ≤ 57 := by
  have : ("0123456789" : Str).cps.toList = digs := by decide
  simp only [dig, this, digs, decide_eq_true_eq, List.mem_cons, List.not_mem_nil, or_false]
  omega
theorem number_of_numG (n : Nat) (x : Str) (A : AH) (hs : x.length ≤ sizeLine) : fns (n + 1) "number_of" [.str x] A = .ok (optD (numG (.str x))) A := by
  rw [number_of_str n x A hs]
  unfold nofR
  simp only [numG]
  by_cases h1 : x.length < 1 ∨ 20 < x.length
  · rw [if_pos h1, if_pos h1]; rfl
  rw [if_neg h1, if_neg h1]
  by_cases h2 : x.cps.toList.all dig = true
  · rw [if_pos h2, if_pos h2]
    by_cases h3 : x.cps.toList.head? = some 48 ∧ x ≠ "0"
    · rw [if_pos h3, if_pos h3]; rfl
    rw [if_neg h3, if_neg h3]
    have hl : x.length = x.cps.toList.length := by simp [PySem.Str.length]
    have e := intText_digits (x := x) (by
      intro c hc
      exact (dig_iff c).1 (List.all_eq_true.1 h2 c hc)) (by intro q; rw [q] at hl; simp at hl; omega) (by omega)
    rw [e]
    rfl
  · rw [if_neg h2, if_neg h2]; rfl
end M
end
/-! ## G83l -/
section
set_option linter.all false
set_option maxRecDepth 100000
set_option maxHeartbeats 400000
namespace M
open PySem L2
theorem forms_keys (A : AH) : biS tab.S .tuple [.con FA] A = .ok (.tup (formsT.map fun p => .str p.1)) A := rfl
theorem forms_ix (x : Str) (A : AH) : ixM tab.S (.con FA) (.str x) A = optR A ((formsT.lookup x).map .int) := rfl
end M
namespace M
open PySem L2
theorem forms_in (x : Str) : inM tab.S (.str x) (.tup (formsT.map fun p => .str p.1)) = some ((formsT.map (·.1)).any fun y => eqV (.str y) (.str x)) := rfl
end M
end
/-! ## G83m -/
section
set_option linter.all false
set_option maxRecDepth 100000
set_option maxHeartbeats 400000
namespace M
open PySem L2
/-- what natsGo leaves when it ends well: the numbers, the place -/
theorem natsGo_cases (g : D → Option Nat) (ws : List D) (ln : Int) (k : Nat) (A : AH) : ∀ (m a : Nat) (acc : List D),
    (∃ is : List Nat, natsGo g ws ln k A m a acc = .ok (.lst (acc ++ is.map fun (i : Nat) => D.int (i : Int))) (A.set k (rd ws ln ((a + m : Nat) : Int))) ∧ is.length = m ∧ ∀ j, j < m → ∃ w, ws[a + j]? = some w ∧ g w = is[j]?) ∨
    (∃ (b : Nat) (c : Int), natsGo g ws ln k A m a acc = .exc ⟨1218, .tup [.int ln, .int b], "WrongLine"⟩ (A.set k (rd ws ln c)) ∧ a ≤ b ∧ b < a + m ∧ (ws[b]? = none ∨ ∃ w, ws[b]? = some w ∧ g w = none))
  | 0, a, acc => .inl ⟨[], by simp [natsGo], rfl, fun j hj => absurd hj (Nat.not_lt_zero j)⟩
  | m + 1, a, acc => by
    cases q : ws[a]? with
    | none => exact .inr ⟨a, a, by simp [natsGo, q], Nat.le_refl _, by omega, .inl q⟩
    | some w =>
      cases p : g w with
      | none => exact .inr ⟨a, ((a + 1 : Nat) : Int), by simp only [natsGo, q, p], Nat.le_refl _, by omega, .inr ⟨w, q, p⟩⟩
      | some i =>
        have e : natsGo g ws ln k A (m + 1) a acc = natsGo g ws ln k A m (a + 1) (acc ++ [.int i]) := by simp only [natsGo, q, p]
        rw [e]
        rcases natsGo_cases g ws ln k A m (a + 1) (acc ++ [.int i]) with ⟨is, h1, h2, h3⟩ | ⟨b, c, h1, h2, h3, h4⟩
        · refine .inl ⟨i :: is, ?_, by simp [h2], ?_⟩
          · rw [h1, show a + 1 + m = a + (m + 1) by omega]
            simp
          · intro j hj
            cases j with
            | zero => exact ⟨w, q, by simp [p]⟩
            | succ j =>
              obtain ⟨w', u1, u2⟩ := h3 j (by omega)
              exact ⟨w', by rw [← u1]; congr 1; omega, by simpa using u2⟩
        · exact .inr ⟨b, c, h1, by omega, by omega, h4⟩
end M
end
/-! ## G83n -/
section
set_option linter.all false
set_option maxRecDepth 100000
set_option maxHeartbeats 400000
namespace M
open PySem L2
def wrongAt (ln : Int) (b : Nat) : Exn := ⟨1218, .tup [.int ln, .int b], "WrongLine"⟩
theorem rng1_nat {m : Nat} (h : m < 10) (A : AH) : rng1 (.int m) A = .ok (rangeL 0 m) A := by
  match m, h with
  | 0, _ => rfl
  | 1, _ => rfl
  | 2, _ => rfl
  | 3, _ => rfl
  | 4, _ => rfl
  | 5, _ => rfl
  | 6, _ => rfl
  | 7, _ => rfl
  | 8, _ => rfl
  | 9, _ => rfl
/-- the comprehension of deed_in -/
theorem deed_nats (n : Nat) {g : D → Option Nat} {ws : List D} {ln : Int} {k : Nat} {A : AH} {x : Str} {m : Nat} (hk : k < A.length) (hg : ∀ w, w ∈ ws → ∀ B, fns (n + 2) "number_of" [w] B = .ok (optD (g w)) B)
    (hm : formsT.lookup x = some ((m + 1 : Nat) : Int)) (hm4 : m < 10) (h1 : 1 ≤ ws.length) (y : Option D) :
    eLc true [3] (iR1 (M.e2 (M.e2 (eK (.con FA)) (eVar 1) (ixM tab.S)) (eK (.int 1)) (opM .Sub))) (gN 3) (tTrue) (eMt tab (fns (n + 3)) "natural" 0 (eVar 0) (a0)) [some (.obj k), some (.str x), none, y] (A.set k (rd ws ln ((1 : Nat) : Int))) = natsGo g ws ln k A m 1 [] := by
  have hi : M.e2 (M.e2 (eK (.con FA)) (eVar 1) (ixM tab.S)) (eK (.int 1)) (opM .Sub) [some (.obj k), some (.str x), none, y] (A.set k (rd ws ln ((1 : Nat) : Int))) = .ok (.int m) (A.set k (rd ws ln ((1 : Nat) : Int))) := by
    have : (((m + 1 : Nat) : Int) - 1) = (m : Int) := by omega
    simp only [M.e2, eK, eVar, List.getElem?_cons_zero, List.getElem?_cons_succ, Res.bind_ok, forms_ix, hm, Option.map_some, optR, opM, this]
  have hr : rng1 (.int m) (A.set k (rd ws ln ((1 : Nat) : Int))) = .ok (rangeL 0 m) (A.set k (rd ws ln ((1 : Nat) : Int))) := rng1_nat hm4 _
  have hl : (rangeL 0 m).length = m := by simp [rangeL]
  have hz : 20 ≤ sizeLine := by rw [sizeLine_eq]; omega
  have h0 : eLc true [3] (iR1 (M.e2 (M.e2 (eK (.con FA)) (eVar 1) (ixM tab.S)) (eK (.int 1)) (opM .Sub))) (gN 3) (tTrue) (eMt tab (fns (n + 3)) "natural" 0 (eVar 0) (a0)) [some (.obj k), some (.str x), none, y] (A.set k (rd ws ln ((1 : Nat) : Int))) = lcGo true (gN 3) tTrue (eMt tab (fns (n + 3)) "natural" 0 (eVar 0) (a0)) [some (.obj k), some (.str x), none, none] (rangeL 0 m) [] (A.set k (rd ws ln ((1 : Nat) : Int))) := by
    unfold eLc iR1
    rw [hi, Res.bind_ok, hr, Res.bind_ok]
    rfl
  rw [h0, nats_loop n hk hg (some (.str x)) none none (rangeL 0 m) 1 [] h1 (by rw [hl]; simp; omega), hl]
end M
end
/-! ## G83p -/
section
set_option linter.all false
set_option maxRecDepth 100000
set_option maxHeartbeats 1000000
namespace M
open PySem L2
theorem onR_ok {α : Type} (a : α) (A : AH) (k : α → AH → SR) : onR (.ok a A) k = k a A := rfl
theorem onR_exc {α : Type} (e : Exn) (A : AH) (k : α → AH → SR) : onR (.exc e A : Res α) k = .exc e A := rfl
theorem blT_some (b : Bool) (A : AH) : blT (some b) A = .ok b A := rfl
theorem eq_ii (i j : Int) : eqM (.int i) (.int j) = some (decide (i = j)) := rfl
theorem eq_ss (x y : Str) : eqM (.str x) (.str y) = some (decide (x = y)) := rfl
theorem eq_bb (x y : Bool) : eqM (.bl x) (.bl y) = some (decide (x = y)) := rfl
theorem truR_bl (b : Bool) (A : AH) : truR A (.bl b) = .ok b A := by cases b <;> rfl
section
variable (a b c : ME) (t u : MT) (m : MA) (p q : MS) (L : M.Loc) (A : AH) (i j : Nat) (S : Stat)
theorem u_seq : sSeq p q L A = match p L A with
  | .nx L1 A1 => q L1 A1
  | r => r := rfl
theorem u_if : sIf t p q L A = onR (t L A) fun k A1 => if k then p L A1 else q L A1 := rfl
theorem u_set : sSet i a L A = onR (a L A) fun d A1 => .nx (L.set i (some d)) A1 := rfl
theorem u_ret : sRet a L A = onR (a L A) fun d A1 => .rt d A1 := rfl
theorem u_retN : sRetN L A = .rt .non A := rfl
theorem u_exp : sExp a L A = onR (a L A) fun _ A1 => .nx L A1 := rfl
theorem u_nx : sNx L A = .nx L A := rfl
theorem u_ix : sIx a b c L A = onR (c L A) fun d A1 => onR (a L A1) fun x A2 => onR (b L A2) fun y A3 => setIx x y d L A3 := rfl
theorem u_par : sPar i j a b L A = onR ((a L A).bind fun x A1 => (b L A1).bind fun y A2 => .ok (x, y) A2) fun p A1 => .nx ((L.set i (some p.1)).set j (some p.2)) A1 := rfl
theorem u_tup (tg : D → M.Loc → Option M.Loc) : sTup tg a L A = onR (a L A) fun d A1 => match tg d L with
  | some L1 => .nx L1 A1
  | none => .stuck := rfl
theorem u_for (it : M.Loc → AH → Res (List D)) (tg : D → M.Loc → Option M.Loc) : sForE it tg p L A = onR (it L A) fun ds A1 => sFor tg p ds L A1 := rfl
theorem u_raise (C : Addr) (w : Str) : sRaise C w a L A = onR (a L A) fun d A1 => .exc ⟨C, d, w⟩ A1 := rfl
theorem u_or : M.tOp .Or t u L A = (t L A).bind fun k A1 => if k then .ok true A1 else u L A1 := by
  show ((t L A).bind fun k A1 => match BoolOp.Or, k with
  | .Or, true => .ok true A1
  | .And, false => .ok false A1
  | _, _ => u L A1) = _
  congr 1; funext k A1; cases k <;> rfl
theorem u_and : M.tOp .And t u L A = (t L A).bind fun k A1 => if k then u L A1 else .ok false A1 := by
  show ((t L A).bind fun k A1 => match BoolOp.And, k with
  | .Or, true => .ok true A1
  | .And, false => .ok false A1
  | _, _ => u L A1) = _
  congr 1; funext k A1; cases k <;> rfl
theorem u_not : tNot t L A = (t L A).bind fun k A1 => .ok (!k) A1 := rfl
theorem u_cmp (op : CmpOp) : tCmp S op a b L A = (a L A).bind fun x A1 => (b L A1).bind fun y A2 => blT (cmpM S op x y) A2 := rfl
theorem u_val : tVal a L A = (a L A).bind fun x A1 => truR A1 x := rfl
theorem u_tt : tTrue L A = .ok true A := rfl
theorem u_aR (f : List D → AH → Res D) : M.aR m f L A = (m L A).bind f := rfl
theorem u_aC : aC a m L A = (a L A).bind fun x A1 => (m L A1).bind fun ys A2 => .ok (x :: ys) A2 := rfl
theorem u_a0 : a0 L A = .ok [] A := rfl
theorem u_aSt (ds : List D) (A1 : AH) (h : a L A = .ok (.tup ds) A1) : aS a m L A = (m L A1).bind fun ys A2 => .ok (ds ++ ys) A2 := by unfold aS; rw [h]; rfl
theorem u_aSl (ds : List D) (A1 : AH) (h : a L A = .ok (.lst ds) A1) : aS a m L A = (m L A1).bind fun ys A2 => .ok (ds ++ ys) A2 := by unfold aS; rw [h]; rfl
theorem u_v0 (d : D) : eVar 0 (some d :: L) A = .ok d A := rfl
theorem u_v1 (d : D) (x : Option D) : eVar 1 (x :: some d :: L) A = .ok d A := rfl
theorem u_v2 (d : D) (x y : Option D) : eVar 2 (x :: y :: some d :: L) A = .ok d A := rfl
theorem u_v3 (d : D) (x y z : Option D) : eVar 3 (x :: y :: z :: some d :: L) A = .ok d A := rfl
theorem u_v4 (d : D) (x y z z1 : Option D) : eVar 4 (x :: y :: z :: z1 :: some d :: L) A = .ok d A := rfl
theorem u_v5 (d : D) (x y z z1 z2 : Option D) : eVar 5 (x :: y :: z :: z1 :: z2 :: some d :: L) A = .ok d A := rfl
theorem u_v6 (d : D) (x y z z1 z2 z3 : Option D) : eVar 6 (x :: y :: z :: z1 :: z2 :: z3 :: some d :: L) A = .ok d A := rfl
theorem u_v7 (d : D) (x y z z1 z2 z3 z4 : Option D) : eVar 7 (x :: y :: z :: z1 :: z2 :: z3 :: z4 :: some d :: L) A = .ok d A := rfl
theorem u_v8 (d : D) (x y z z1 z2 z3 z4 z5 : Option D) : eVar 8 (x :: y :: z :: z1 :: z2 :: z3 :: z4 :: z5 :: some d :: L) A = .ok d A := rfl
theorem u_K (d : D) : eK d L A = .ok d A := rfl
theorem u_e1 (f : D → AH → Res D) : M.e1 a f L A = (a L A).bind f := rfl
theorem u_e2 (f : D → D → AH → Res D) : M.e2 a b f L A = (a L A).bind fun x A1 => (b L A1).bind fun y A2 => f x y A2 := rfl
theorem u_eIf : eIf t a b L A = (t L A).bind fun k A1 => if k then a L A1 else b L A1 := rfl
theorem u_eNot : eNot a L A = (a L A).bind fun x A => (truR A x).bind fun k A => .ok (.bl (!k)) A := rfl
theorem res_id (r : Res D) : (r.bind fun x A => .ok x A) = r := by cases r <;> rfl
theorem u_eOr : eOp .Or a b L A = (a L A).bind fun x A1 => (truR A1 x).bind fun k A2 => if k then .ok x A2 else b L A2 := by
  show (((a L A).bind fun x A => .ok x A).bind fun x A1 => (truR A1 x).bind fun k A2 => match BoolOp.Or, k with
  | .Or, true => .ok x A2
  | .And, false => .ok x A2
  | _, _ => b L A2) = _
  rw [res_id]; congr 1; funext x A1; congr 1; funext k A1; cases k <;> rfl
theorem u_eAnd : eOp .And a b L A = (a L A).bind fun x A1 => (truR A1 x).bind fun k A2 => if k then b L A2 else .ok x A2 := by
  show (((a L A).bind fun x A => .ok x A).bind fun x A1 => (truR A1 x).bind fun k A2 => match BoolOp.And, k with
  | .Or, true => .ok x A2
  | .And, false => .ok x A2
  | _, _ => b L A2) = _
  rw [res_id]; congr 1; funext x A1; congr 1; funext k A1; cases k <;> rfl
theorem u_call1 (Φ : Fns) (f : Str) : eCall Φ 1 f [] m L A = (m L A).bind fun ds A1 => callF 1 (Φ f) (ds ++ []) A1 := rfl
theorem u_call (Φ : Fns) (np : Nat) (f : Str) (dvs : List D) : eCall Φ np f dvs m L A = (m L A).bind fun ds A1 => callF np (Φ f) (ds ++ dvs) A1 := rfl
theorem u_lc (x : Bool) (own : List Nat) (it : M.Loc → AH → Res (List D)) (tg : D → M.Loc → Option M.Loc) (te : ME) : eLc x own it tg t te L A = (it L A).bind fun ds A1 => lcGo x tg t te (wipeL L own) ds [] A1 := rfl
theorem u_gen : iGen a L A = (a L A).bind itemsM := rfl
theorem u_r1 : iR1 a L A = (a L A).bind rng1 := rfl
theorem u_sl (lo hi : M.Loc → AH → Res (Option Int)) : eSl a lo hi L A = (a L A).bind fun x A1 => (lo L A1).bind fun l A2 => (hi L A2).bind fun u A3 => optR A3 (slV A3 x l u) := rfl
theorem u_oN : oN L A = .ok none A := rfl
theorem u_oS (k : Int) (A1 : AH) (h : a L A = .ok (.int k) A1) : oS a L A = .ok (some k) A1 := by unfold oS; rw [h]; rfl
theorem callF2 (Φ : Fns) (f : Str) (x y : D) (A : AH) : callF 2 (Φ f) [x, y] A = Φ f [x, y] A := rfl
theorem callF1 (Φ : Fns) (f : Str) (x : D) (A : AH) : callF 1 (Φ f) [x] A = Φ f [x] A := rfl
theorem callF0 (Φ : Fns) (f : Str) (A : AH) : callF 0 (Φ f) [] A = Φ f [] A := rfl
theorem callF3 (Φ : Fns) (f : Str) (x y z : D) (A : AH) : callF 3 (Φ f) [x, y, z] A = Φ f [x, y, z] A := rfl
end
/-- the jar at k: two numbers, the first not below nought -/
structure Jar (A : AH) (k : Nat) : Prop where
  ex : ∃ a b : Int, A[k]? = some (.lst [.int a, .int b]) ∧ 0 ≤ a
/-- from A to A': only the thing at k is another one -/
structure Only1 (k : Nat) (A A' : AH) : Prop where
  len : A'.length = A.length
  at_ : ∀ j, j ≠ k → A'[j]? = A[j]?
theorem int_id (i : Int) (A : AH) : biS tab.S .int [.int i] A = .ok (.int i) A := rfl
theorem ix_jar {A : AH} {k : Nat} {x y : D} (h : A[k]? = some (.lst [x, y])) : ixM tab.S (.obj k) (.int 0) A = .ok x A ∧ ixM tab.S (.obj k) (.int 1) A = .ok y A := by
  have e : ∀ i, ixM tab.S (.obj k) (.int i) A = optR A (match A[k]? with
    | some (.lst ds) => atI ds i
    | _ => none) := fun _ => rfl
  constructor <;> (rw [e, h]; rfl)
theorem set_jar {A : AH} {k : Nat} {x y d : D} {L : M.Loc} (h : A[k]? = some (.lst [x, y])) : setIx (.obj k) (.int 0) d L A = .nx L (A.set k (.lst [d, y])) ∧ setIx (.obj k) (.int 1) d L A = .nx L (A.set k (.lst [x, d])) := by
  have e : ∀ i, setIx (.obj k) (.int i) d L A = (match A[k]? with
    | some (.lst ds) => (match ixN ds.length i with
      | some j => .nx L (A.set k (.lst (ds.set j d)))
      | none => .stuck)
    | _ => .stuck) := fun _ => rfl
  constructor <;> (rw [e, h]; rfl)
theorem op_add (i j : Int) (A : AH) : opM .Add (.int i) (.int j) A = .ok (.int (i + j)) A := rfl
theorem op_sub (i j : Int) (A : AH) : opM .Sub (.int i) (.int j) A = .ok (.int (i - j)) A := rfl
theorem op_mod (i j : Int) (A : AH) (h : 0 < j) : opM .Mod (.int i) (.int j) A = .ok (.int (i % j)) A := by show (if 0 < j then Res.ok (D.int (i % j)) A else .stuck) = _; rw [if_pos h]
theorem op_div (i j : Int) (A : AH) (h : 0 < j) (l : Nat.log2 j.natAbs < 9000) : opM .FloorDiv (.int i) (.int j) A = .ok (.int (i / j)) A := by show (if 0 < j ∧ Nat.log2 j.natAbs < 9000 then Res.ok (D.int (i / j)) A else .stuck) = _; rw [if_pos ⟨h, l⟩]
theorem op_mul (i j : Int) (A : AH) (h : -2 ^ 64 < j) (h2 : j < 2 ^ 64) : opM .Mult (.int i) (.int j) A = .ok (.int (i * j)) A := by
  show (if Nat.log2 i.natAbs + Nat.log2 j.natAbs < 1000000 then Res.ok (D.int (i * j)) A else if (decide (-2 ^ 64 < i) && decide (i < 2 ^ 64)) || (decide (-2 ^ 64 < j) && decide (j < 2 ^ 64)) then .ok (.int (i * j)) A else .stuck) = _
  have : ((decide (-2 ^ 64 < i) && decide (i < 2 ^ 64)) || (decide (-2 ^ 64 < j) && decide (j < 2 ^ 64))) = true := by rw [decide_eq_true h, decide_eq_true h2]; simp
  simp only [this, if_true]
  split <;> rfl
theorem cmp_gt (i j : Int) (A : AH) : blT (cmpM tab.S .Gt (.int i) (.int j)) A = .ok (decide (j < i)) A := rfl
theorem take_at (n : Nat) {A : AH} {k : Nat} {a b top : Int} (h : A[k]? = some (.lst [.int a, .int b])) (ht : 0 < top) (hl : Nat.log2 top.natAbs < 9000) :
    fns (n + 1) "_law_take" [.obj k, .int top] A = if 0 < a then .ok (.int (a % top)) (A.set k (.lst [.int (a / top), .int b])) else
      .ok (.int (((b * 39373 + 7) % 2147483647) * ((b * 39373 + 7) % 2147483647) % 2147483629 / 32 % top)) (A.set k (.lst [.int a, .int ((b * 39373 + 7) % 2147483647)])) := by
  rw [g__law_take]
  have kl : k < A.length := (List.getElem?_eq_some_iff.1 h).1
  obtain ⟨h0, h1⟩ := ix_jar h
  by_cases p : 0 < a
  · rw [if_pos p]
    have s0 := fun d L => (set_jar (d := d) (L := L) h).1
    simp [u_seq, u_if, u_set, u_ret, u_retN, u_exp, u_nx, u_ix, u_par, u_tup, u_for, u_raise, u_or, u_and, u_not, u_cmp, u_val, u_tt, u_aR, u_aC, u_a0, u_v0, u_v1, u_v2, u_v3, u_v4, u_v5, u_v6, u_v7, u_v8, u_K, u_e1, u_e2, u_eIf, u_eNot, u_eOr, u_eAnd, u_call, callF2, callF1, callF0, callF3, u_gen, u_r1, u_sl, u_oN, onR_ok, onR_exc, toRes, cmpM, blT_some, truR_bl, optR, ltM, leM, eq_ii, eq_ss, eq_bb, c__law_take, h0, h1, s0, int_id, op_mod _ _ _ ht, op_div _ _ _ ht hl, cmp_gt, p]
  · rw [if_neg p]
    have s1 := fun d L => (set_jar (d := d) (L := L) h).2
    have h' : ∀ b' : Int, (A.set k (.lst [.int a, .int b']))[k]? = some (.lst [.int a, .int b']) := fun b' => by simp [kl]
    have b1 : ∀ z : Int, -2 ^ 64 < z % 2147483647 := fun z => by have := Int.emod_nonneg z (show (2147483647 : Int) ≠ 0 by decide); omega
    have b2 : ∀ z : Int, z % 2147483647 < 2 ^ 64 := fun z => by have := Int.emod_lt_of_pos z (show (0 : Int) < 2147483647 by decide); omega
    simp [u_seq, u_if, u_set, u_ret, u_retN, u_exp, u_nx, u_ix, u_par, u_tup, u_for, u_raise, u_or, u_and, u_not, u_cmp, u_val, u_tt, u_aR, u_aC, u_a0, u_v0, u_v1, u_v2, u_v3, u_v4, u_v5, u_v6, u_v7, u_v8, u_K, u_e1, u_e2, u_eIf, u_eNot, u_eOr, u_eAnd, u_call, callF2, callF1, callF0, callF3, u_gen, u_r1, u_sl, u_oN, onR_ok, onR_exc, toRes, cmpM, blT_some, truR_bl, optR, ltM, leM, eq_ii, eq_ss, eq_bb, c__law_take, h0, h1, s1, int_id, op_mod _ _ _ ht, op_add, op_mul _ _ _ (show (-2 ^ 64 : Int) < 39373 by decide) (show (39373 : Int) < 2 ^ 64 by decide), op_mod _ _ _ (show (0 : Int) < 2147483647 by decide), cmp_gt, p, (ix_jar (h' _)).2, op_mul _ _ _ (b1 _) (b2 _), op_mod _ _ _ (show (0 : Int) < 2147483629 by decide), op_div _ 32 _ (by decide) (by decide)]
/-- what a take leaves -/
theorem take_ok (n : Nat) {A : AH} {k : Nat} {top : Int} (J : Jar A k) (ht : 0 < top) (hl : Nat.log2 top.natAbs < 9000) :
    ∃ (m : Int) (A' : AH), fns (n + 1) "_law_take" [.obj k, .int top] A = .ok (.int m) A' ∧ 0 ≤ m ∧ m < top ∧ Jar A' k ∧ Only1 k A A' := by
  obtain ⟨a, b, h, ha⟩ := J.ex
  have kl : k < A.length := (List.getElem?_eq_some_iff.1 h).1
  have o1 : ∀ x, Only1 k A (A.set k x) := fun x => ⟨by simp, fun j hj => by rw [List.getElem?_set_ne (Ne.symm hj)]⟩
  have j1 : ∀ a' b' : Int, 0 ≤ a' → Jar (A.set k (.lst [.int a', .int b'])) k := fun a' b' z => ⟨a', b', by simp [kl], z⟩
  rw [take_at n h ht hl]
  by_cases p : 0 < a
  · rw [if_pos p]
    exact ⟨_, _, rfl, Int.emod_nonneg _ (by omega), Int.emod_lt_of_pos _ ht, j1 _ _ (Int.ediv_nonneg ha (by omega)), o1 _⟩
  · rw [if_neg p]
    exact ⟨_, _, rfl, Int.emod_nonneg _ (by omega), Int.emod_lt_of_pos _ ht, j1 _ _ ha, o1 _⟩
end M
end
/-! ## G83q -/
section
set_option linter.all false
set_option maxRecDepth 100000
set_option maxHeartbeats 1000000
namespace M
open PySem L2
theorem log_small {m : Nat} (h : m < 2 ^ 64) : Nat.log2 m < 9000 := by
  by_cases z : m = 0
  · subst z; decide
  · have := (Nat.log2_lt z).2 h
    omega
theorem op_tup {x y : List D} {A : AH} (h : x.length + y.length ≤ sizeLine) : opM .Add (.tup x) (.tup y) A = .ok (.tup (x ++ y)) A := by simp [opM, h]
theorem op_lst {x y : List D} {A : AH} (h : x.length + y.length ≤ sizeLine) : opM .Add (.lst x) (.lst y) A = .ok (.lst (x ++ y)) A := by simp [opM, h]
theorem op_str {x y : Str} {A : AH} (h : x.length + y.length ≤ sizeLine) : opM .Add (.str x) (.str y) A = .ok (.str (x ++ y)) A := by simp [opM, h]
theorem tupR_at {ds : List D} {A : AH} (h : ds.length ≤ sizeLine) : tupR ds A = .ok (.tup ds) A := by unfold tupR; rw [if_pos h]
theorem lstR_at {ds : List D} {A : AH} (h : ds.length ≤ sizeLine) : lstR ds A = .ok (.lst ds) A := by unfold lstR; rw [if_pos h]
theorem objR_at {ds : List D} {A : AH} (h : ds.length ≤ sizeLine) : objR ds A = .ok (.obj A.length) (A ++ [.lst ds]) := by unfold objR; rw [if_pos h]
theorem sz_small {m : Nat} (h : m < 1000000) : m ≤ sizeLine := by rw [sizeLine_eq]; omega
theorem only_trans {k : Nat} {A A1 A2 : AH} (a : Only1 k A A1) (b : Only1 k A1 A2) : Only1 k A A2 := ⟨b.len.trans a.len, fun j hj => (b.at_ j hj).trans (a.at_ j hj)⟩
theorem only_refl {k : Nat} {A : AH} : Only1 k A A := ⟨rfl, fun _ _ => rfl⟩
theorem atI_nat {α : Type} (ds : List α) (i : Nat) (h : i < ds.length) : atI ds (i : Int) = some (ds[i]'h) := by
  unfold atI
  rw [show ixN ds.length (i : Int) = some i by unfold ixN; simp [h]]
  simp [h]
theorem ix_lst (ds : List D) (i : Nat) (A : AH) (h : i < ds.length) : ixM tab.S (.lst ds) (.int i) A = .ok (ds[i]'h) A := by
  show optR A (atI ds (i : Int)) = _
  rw [atI_nat ds i h]
  rfl
theorem ix_tup (ds : List D) (i : Nat) (A : AH) (h : i < ds.length) : ixM tab.S (.tup ds) (.int i) A = .ok (ds[i]'h) A := by
  show optR A (atI ds (i : Int)) = _
  rw [atI_nat ds i h]
  rfl
theorem len_lst (ds : List D) (A : AH) : biS tab.S .len [.lst ds] A = .ok (.int ds.length) A := rfl
theorem lvl {N m : Nat} (h : m < N) : ∃ n, N = n + 1 ∧ m ≤ n := ⟨N - 1, by omega, by omega⟩
theorem take_ge {N : Nat} (hN : 0 < N) {A : AH} {k : Nat} {top : Int} (J : Jar A k) (ht : 0 < top) (hl : Nat.log2 top.natAbs < 9000) :
    ∃ (m : Int) (A' : AH), fns N "_law_take" [.obj k, .int top] A = .ok (.int m) A' ∧ 0 ≤ m ∧ m < top ∧ Jar A' k ∧ Only1 k A A' := by
  obtain ⟨n, rfl, _⟩ := lvl hN
  exact take_ok n J ht hl
theorem one_ge {N : Nat} (hN : 1 < N) {A : AH} {k : Nat} {ds : List D} (J : Jar A k) (h : ds ≠ []) (hl : ds.length < 2 ^ 64) : ∃ (d : D) (A' : AH), fns N "_law_one" [.obj k, .lst ds] A = .ok d A' ∧ d ∈ ds ∧ Jar A' k ∧ Only1 k A A' := by
  obtain ⟨n, rfl, hn⟩ := lvl hN
  have hp : 0 < ds.length := List.length_pos_iff.2 h
  obtain ⟨m, A', e, m0, m1, J', o⟩ := take_ge (N := n) (by omega) (top := (ds.length : Int)) J (by omega) (log_small (by omega))
  obtain ⟨i, rfl⟩ := Int.eq_ofNat_of_zero_le m0
  have il : i < ds.length := by omega
  refine ⟨ds[i], A', ?_, List.getElem_mem il, J', o⟩
  rw [g__law_one]
  have ix := ix_lst ds i A' il
  simp [u_seq, u_if, u_set, u_ret, u_retN, u_exp, u_nx, u_ix, u_par, u_tup, u_for, u_raise, u_or, u_and, u_not, u_cmp, u_val, u_tt, u_aR, u_aC, u_a0, u_v0, u_v1, u_v2, u_v3, u_v4, u_v5, u_v6, u_v7, u_v8, u_K, u_e1, u_e2, u_eIf, u_eNot, u_eOr, u_eAnd, u_call, callF2, callF1, callF0, callF3, u_gen, u_r1, u_sl, u_oN, onR_ok, onR_exc, toRes, cmpM, blT_some, truR_bl, optR, ltM, leM, eq_ii, eq_ss, eq_bb, c__law_one, len_lst, e, ix]
end M
end
/-! ## G83r -/
section
set_option linter.all false
set_option maxRecDepth 100000
set_option maxHeartbeats 1000000
namespace M
open PySem L2
def lnB (n : Nat) : MS := sSet 2 (M.e2 (M.e2 (eVar 2) (eK (.int 10)) (opM .Mult)) (eCall (fns n) 2 "_law_take" [] (aC (eVar 0) (aC (eK (.int 10)) (a0)))) (opM .Add))
theorem ln_loop {n : Nat} (hn : 0 < n) {k : Nat} (f : D) : ∀ (ds : List D) (A : AH) (i : Int) (x : Option D) (m : Nat), Jar A k → 0 ≤ i → i < 10 ^ m → ∃ (i' : Int) (A' : AH) (y : Option D), sFor (gN 3) (lnB n) ds [some (.obj k), some f, some (.int i), x] A = .nx [some (.obj k), some f, some (.int i'), y] A' ∧ 0 ≤ i' ∧ i' < 10 ^ (m + ds.length) ∧ Jar A' k ∧ Only1 k A A'
  | [], A, i, x, m, J, h0, h1 => ⟨i, A, x, rfl, h0, h1, J, only_refl⟩
  | d :: ds, A, i, x, m, J, h0, h1 => by
    obtain ⟨t, A1, e, t0, t1, J1, o1⟩ := take_ge hn (top := 10) J (by decide) (by decide)
    have hb : lnB n [some (.obj k), some f, some (.int i), some d] A = .nx [some (.obj k), some f, some (.int (i * 10 + t)), some d] A1 := by
      simp [u_seq, u_if, u_set, u_ret, u_retN, u_exp, u_nx, u_ix, u_par, u_tup, u_for, u_raise, u_or, u_and, u_not, u_cmp, u_val, u_tt, u_aR, u_aC, u_a0, u_v0, u_v1, u_v2, u_v3, u_v4, u_v5, u_v6, u_v7, u_v8, u_K, u_e1, u_e2, u_eIf, u_eNot, u_eOr, u_eAnd, u_call, callF2, callF1, callF0, callF3, u_gen, u_r1, u_sl, u_oN, onR_ok, onR_exc, toRes, cmpM, blT_some, truR_bl, optR, ltM, leM, eq_ii, eq_ss, eq_bb, lnB, e, op_mul _ _ _ (show (-2 ^ 64 : Int) < 10 by decide) (show (10 : Int) < 2 ^ 64 by decide), op_add]
    have p10 : (10 : Int) ^ (m + 1) = 10 ^ m * 10 := Int.pow_succ 10 m
    obtain ⟨i', A', y, e2, r0, r1, J2, o2⟩ := ln_loop hn f ds A1 (i * 10 + t) (some d) (m + 1) J1 (by omega) (by rw [p10]; omega)
    refine ⟨i', A', y, ?_, r0, ?_, J2, only_trans o1 o2⟩
    · have st : sFor (gN 3) (lnB n) (d :: ds) [some (.obj k), some f, some (.int i), x] A = match lnB n [some (.obj k), some f, some (.int i), some d] A with
        | .nx L2 A2 => sFor (gN 3) (lnB n) ds L2 A2
        | .ct L2 A2 => sFor (gN 3) (lnB n) ds L2 A2
        | .bk L2 A2 => .nx L2 A2
        | r => r := rfl
      rw [st, hb]
      exact e2
    · rw [List.length_cons, show m + (ds.length + 1) = m + 1 + ds.length by omega]
      exact r1
theorem rng1_at {m : Nat} (h : m < 20) (A : AH) : rng1 (.int m) A = .ok (rangeL 0 m) A := by
  match m, h with
  | 0, _ => rfl
  | 1, _ => rfl
  | 2, _ => rfl
  | 3, _ => rfl
  | 4, _ => rfl
  | 5, _ => rfl
  | 6, _ => rfl
  | 7, _ => rfl
  | 8, _ => rfl
  | 9, _ => rfl
  | 10, _ => rfl
  | 11, _ => rfl
  | 12, _ => rfl
  | 13, _ => rfl
  | 14, _ => rfl
  | 15, _ => rfl
  | 16, _ => rfl
  | 17, _ => rfl
  | 18, _ => rfl
  | 19, _ => rfl
  | m + 20, h => exact absurd h (by omega)
theorem rangeL_len (i : Int) (m : Nat) : (rangeL i m).length = m := by simp [rangeL]
theorem long_number_ge {N : Nat} (hN : 1 < N) {A : AH} {k : Nat} {f : Nat} (J : Jar A k) (h : 1 ≤ f) (h2 : f ≤ 20) : ∃ (i : Int) (A' : AH), fns N "_law_long_number" [.obj k, .int f] A = .ok (.int i) A' ∧ 0 ≤ i ∧ i < 10 ^ 20 ∧ Jar A' k ∧ Only1 k A A' := by
  obtain ⟨n, rfl, hn⟩ := lvl hN
  obtain ⟨t, A1, e, t0, t1, J1, o1⟩ := take_ge (N := n) (by omega) (top := 9) J (by decide) (by decide)
  obtain ⟨i, A', y, h3, r0, r1, J2, o2⟩ := ln_loop (n := n) (by omega) (.int f) (rangeL 0 (f - 1)) A1 (1 + t) none 1 J1 (by omega) (by omega)
  refine ⟨i, A', ?_, r0, ?_, J2, only_trans o1 o2⟩
  · rw [g__law_long_number]
    have hf : ((f : Int) - 1) = ((f - 1 : Nat) : Int) := by omega
    have hr : rng1 (.int ((f : Int) - 1)) A1 = .ok (rangeL 0 (f - 1)) A1 := by rw [hf]; exact rng1_at (by omega) A1
    have hb : sSet 2 (M.e2 (M.e2 (eVar 2) (eK (.int 10)) (opM .Mult)) (eCall (fns n) 2 "_law_take" [] (aC (eVar 0) (aC (eK (.int 10)) (a0)))) (opM .Add)) = lnB n := rfl
    unfold c__law_long_number
    rw [hb]
    simp [u_seq, u_if, u_set, u_ret, u_retN, u_exp, u_nx, u_ix, u_par, u_tup, u_for, u_raise, u_or, u_and, u_not, u_cmp, u_val, u_tt, u_aR, u_aC, u_a0, u_v0, u_v1, u_v2, u_v3, u_v4, u_v5, u_v6, u_v7, u_v8, u_K, u_e1, u_e2, u_eIf, u_eNot, u_eOr, u_eAnd, u_call, callF2, callF1, callF0, callF3, u_gen, u_r1, u_sl, u_oN, onR_ok, onR_exc, toRes, cmpM, blT_some, truR_bl, optR, ltM, leM, eq_ii, eq_ss, eq_bb, e, op_add, op_sub, hr, h3]
  · rw [rangeL_len] at r1
    have : (10 : Int) ^ (1 + (f - 1)) ≤ 10 ^ 20 := by
      have := Nat.pow_le_pow_right (show 0 < 10 by decide) (show 1 + (f - 1) ≤ 20 by omega)
      exact_mod_cast this
    omega
theorem some_number_ge {N : Nat} (hN : 2 < N) {A : AH} {k : Nat} (J : Jar A k) : ∃ (i : Int) (A' : AH), fns N "_law_some_number" [.obj k] A = .ok (.int i) A' ∧ 0 ≤ i ∧ i < 10 ^ 20 ∧ Jar A' k ∧ Only1 k A A' := by
  obtain ⟨n, rfl, hn⟩ := lvl hN
  obtain ⟨t, A1, e, t0, t1, J1, o1⟩ := take_ge (N := n) (by omega) (top := 5) J (by decide) (by decide)
  rw [g__law_some_number]
  by_cases p : t < 3
  · obtain ⟨i, A2, h2, i0, i1, J2, o2⟩ := take_ge (N := n) (by omega) (top := 30) J1 (by decide) (by decide)
    refine ⟨i, A2, ?_, i0, by omega, J2, only_trans o1 o2⟩
    simp [u_seq, u_if, u_set, u_ret, u_retN, u_exp, u_nx, u_ix, u_par, u_tup, u_for, u_raise, u_or, u_and, u_not, u_cmp, u_val, u_tt, u_aR, u_aC, u_a0, u_v0, u_v1, u_v2, u_v3, u_v4, u_v5, u_v6, u_v7, u_v8, u_K, u_e1, u_e2, u_eIf, u_eNot, u_eOr, u_eAnd, u_call, callF2, callF1, callF0, callF3, u_gen, u_r1, u_sl, u_oN, onR_ok, onR_exc, toRes, cmpM, blT_some, truR_bl, optR, ltM, leM, eq_ii, eq_ss, eq_bb, c__law_some_number, e, p, h2]
  · by_cases q : t = 3
    · obtain ⟨i, A2, h2, i0, i1, J2, o2⟩ := long_number_ge (N := n) (by omega) (f := 20) J1 (by decide) (by decide)
      refine ⟨i, A2, ?_, i0, i1, J2, only_trans o1 o2⟩
      have h2' : fns n "_law_long_number" [.obj k, .int 20] A1 = .ok (.int i) A2 := h2
      subst q
      simp [u_seq, u_if, u_set, u_ret, u_retN, u_exp, u_nx, u_ix, u_par, u_tup, u_for, u_raise, u_or, u_and, u_not, u_cmp, u_val, u_tt, u_aR, u_aC, u_a0, u_v0, u_v1, u_v2, u_v3, u_v4, u_v5, u_v6, u_v7, u_v8, u_K, u_e1, u_e2, u_eIf, u_eNot, u_eOr, u_eAnd, u_call, callF2, callF1, callF0, callF3, u_gen, u_r1, u_sl, u_oN, onR_ok, onR_exc, toRes, cmpM, blT_some, truR_bl, optR, ltM, leM, eq_ii, eq_ss, eq_bb, c__law_some_number, e, h2']
    · obtain ⟨u, A2, h2, u0, u1, J2, o2⟩ := take_ge (N := n) (by omega) (top := 19) J1 (by decide) (by decide)
      obtain ⟨v, rfl⟩ := Int.eq_ofNat_of_zero_le u0
      obtain ⟨i, A3, h3, i0, i1, J3, o3⟩ := long_number_ge (N := n) (by omega) (f := 1 + v) J2 (by omega) (by omega)
      refine ⟨i, A3, ?_, i0, i1, J3, only_trans o1 (only_trans o2 o3)⟩
      have h3' : fns n "_law_long_number" [.obj k, .int (1 + (v : Int))] A2 = .ok (.int i) A3 := by rw [← h3]; push_cast; rfl
      simp [u_seq, u_if, u_set, u_ret, u_retN, u_exp, u_nx, u_ix, u_par, u_tup, u_for, u_raise, u_or, u_and, u_not, u_cmp, u_val, u_tt, u_aR, u_aC, u_a0, u_v0, u_v1, u_v2, u_v3, u_v4, u_v5, u_v6, u_v7, u_v8, u_K, u_e1, u_e2, u_eIf, u_eNot, u_eOr, u_eAnd, u_call, callF2, callF1, callF0, callF3, u_gen, u_r1, u_sl, u_oN, onR_ok, onR_exc, toRes, cmpM, blT_some, truR_bl, optR, ltM, leM, eq_ii, eq_ss, eq_bb, c__law_some_number, e, p, q, h2, op_add, h3']
end M
end
/-! ## G83s -/
section
set_option linter.all false
set_option maxRecDepth 100000
set_option maxHeartbeats 1000000
namespace M
open PySem L2
def szK : List (Key) := (["open", "close", "bar", "part", "wire", "cut"] : List Str).map .inr
def szD : D := .dic szK [.int 0, .int 1, .int 2, .int 2, .int 3, .int 2]
theorem sizes_at {N : Nat} (hN : 0 < N) (A : AH) : fns N "_law_deed_sizes" [] A = .ok szD A := by
  obtain ⟨n, rfl, hn⟩ := lvl hN
  rw [g__law_deed_sizes]
  rfl
/-- the words of deeds, and how many numbers go with each -/
def words6 : List (Str × Nat) := [("open", 0), ("close", 1), ("bar", 2), ("part", 2), ("wire", 3), ("cut", 2)]
theorem mem6 {w : Str} {m : Nat} (h : words6.lookup w = some m) : (w, m) ∈ words6 := by
  obtain ⟨l1, l2, h1, _⟩ := List.lookup_eq_some_iff.1 h
  rw [h1]; simp
theorem words_ix (w : Str) (m : Nat) (hl : words6.lookup w = some m) (A : AH) : ixM tab.S szD (.str w) A = .ok (.int m) A := by
  have h := mem6 hl
  simp only [words6, List.mem_cons, Prod.mk.injEq, List.not_mem_nil, or_false] at h
  rcases h with ⟨rfl, rfl⟩ | ⟨rfl, rfl⟩ | ⟨rfl, rfl⟩ | ⟨rfl, rfl⟩ | ⟨rfl, rfl⟩ | ⟨rfl, rfl⟩ <;> rfl
/-- a number of a deed -/
def Fig (i : Int) : Prop := 0 ≤ i ∧ i < 10 ^ 20
theorem nums_loop {n : Nat} (hn : 2 < n) {k : Nat} (w : D) : ∀ (ds acc : List D) (A : AH) (x : Option D), Jar A k → acc.length + ds.length ≤ sizeLine →
    ∃ (is : List Int) (A' : AH), lcGo true (gN 2) tTrue (eCall (fns n) 1 "_law_some_number" [] (aC (eVar 0) (a0))) [some (.obj k), some w, x] ds acc A = .ok (.lst (acc ++ is.map .int)) A' ∧ is.length = ds.length ∧ (∀ i ∈ is, Fig i) ∧ Jar A' k ∧ Only1 k A A'
  | [], acc, A, x, J, _ => ⟨[], A, by simp [lcGo], rfl, by simp, J, only_refl⟩
  | d :: ds, acc, A, x, J, hs => by
    obtain ⟨i, A1, e, i0, i1, J1, o1⟩ := some_number_ge hn J
    have hb : eCall (fns n) 1 "_law_some_number" [] (aC (eVar 0) (a0)) [some (.obj k), some w, some d] A = .ok (.int i) A1 := by
      simp [u_seq, u_if, u_set, u_ret, u_retN, u_exp, u_nx, u_ix, u_par, u_tup, u_for, u_raise, u_or, u_and, u_not, u_cmp, u_val, u_tt, u_aR, u_aC, u_a0, u_v0, u_v1, u_v2, u_v3, u_v4, u_v5, u_v6, u_v7, u_v8, u_K, u_e1, u_e2, u_eIf, u_eNot, u_eOr, u_eAnd, u_call, callF2, callF1, callF0, callF3, u_gen, u_r1, u_sl, u_oN, onR_ok, onR_exc, toRes, cmpM, blT_some, truR_bl, optR, ltM, leM, eq_ii, eq_ss, eq_bb, e]
    obtain ⟨is, A2, h2, l2, f2, J2, o2⟩ := nums_loop hn w ds (acc ++ [.int i]) A1 x J1 (by simp at hs ⊢; omega)
    refine ⟨i :: is, A2, ?_, by simp [l2], fun j hj => ?_, J2, only_trans o1 o2⟩
    · simp only [List.length_cons] at hs
      simp only [lcGo, gN, List.set_cons_succ, List.set_cons_zero, tTrue, hb]
      simp
      rw [if_pos (by omega), h2]
      simp
    · rcases List.mem_cons.1 hj with rfl | hj
      · exact ⟨i0, i1⟩
      · exact f2 j hj
theorem some_deed_ge {N : Nat} (hN : 3 < N) {A : AH} {k : Nat} (J : Jar A k) : ∃ (w : Str) (is : List Int) (A' : AH), fns N "_law_some_deed" [.obj k] A = .ok (.tup (.str w :: is.map .int)) A' ∧ words6.lookup w = some is.length ∧ (∀ i ∈ is, Fig i) ∧ Jar A' k ∧ Only1 k A A' := by
  obtain ⟨n, rfl, hn⟩ := lvl hN
  obtain ⟨d, A1, e, hd, J1, o1⟩ := one_ge (N := n) (by omega) (ds := [.str "open", .str "close", .str "bar", .str "part", .str "wire", .str "cut"]) J (by simp) (by decide)
  obtain ⟨w, m, rfl, hw⟩ : ∃ w m, d = .str w ∧ words6.lookup w = some m := by
    simp only [List.mem_cons, List.not_mem_nil, or_false] at hd
    rcases hd with rfl | rfl | rfl | rfl | rfl | rfl
    · exact ⟨_, 0, rfl, rfl⟩
    · exact ⟨_, 1, rfl, rfl⟩
    · exact ⟨_, 2, rfl, rfl⟩
    · exact ⟨_, 2, rfl, rfl⟩
    · exact ⟨_, 3, rfl, rfl⟩
    · exact ⟨_, 2, rfl, rfl⟩
  have m3 : m ≤ 3 := by
    have hw := mem6 hw
    simp only [words6, List.mem_cons, Prod.mk.injEq, List.not_mem_nil, or_false] at hw
    omega
  have hz : 20 ≤ sizeLine := by rw [sizeLine_eq]; omega
  obtain ⟨is, A2, h2, l2, f2, J2, o2⟩ := nums_loop hn (.str w) (rangeL 0 m) [] A1 none J1 (by rw [rangeL_len]; simp; omega)
  rw [rangeL_len] at l2
  subst l2
  refine ⟨w, is, A2, ?_, hw, f2, J2, only_trans o1 o2⟩
  rw [g__law_some_deed]
  have hr := rng1_at (m := is.length) (by omega) A1
  have hl : ∀ A, lstR [.str "open", .str "close", .str "bar", .str "part", .str "wire", .str "cut"] A = .ok (.lst [.str "open", .str "close", .str "bar", .str "part", .str "wire", .str "cut"]) A := fun A => lstR_at (sz_small (by decide))
  have ht : ∀ x A, tupR [x] A = .ok (.tup [x]) A := fun x A => tupR_at (sz_small (by simp))
  have hT : biS tab.S .tuple [.lst (is.map .int)] A2 = .ok (.tup (is.map .int)) A2 := rfl
  have hp : opM .Add (.tup [.str w]) (.tup (is.map .int)) A2 = .ok (.tup (.str w :: is.map .int)) A2 := by
    exact op_tup (sz_small (by simp; omega))
  have hLc : eLc true [2] (iR1 (M.e2 (eCall (fns n) 0 "_law_deed_sizes" [] (a0)) (eVar 1) (ixM tab.S))) (gN 2) (tTrue) (eCall (fns n) 1 "_law_some_number" [] (aC (eVar 0) (a0))) [some (D.obj k), some (D.str w), none] A1 = .ok (.lst (is.map .int)) A2 := by
    have hi : M.e2 (eCall (fns n) 0 "_law_deed_sizes" [] (a0)) (eVar 1) (ixM tab.S) [some (D.obj k), some (D.str w), none] A1 = .ok (.int is.length) A1 := by
      simp [u_seq, u_if, u_set, u_ret, u_retN, u_exp, u_nx, u_ix, u_par, u_tup, u_for, u_raise, u_or, u_and, u_not, u_cmp, u_val, u_tt, u_aR, u_aC, u_a0, u_v0, u_v1, u_v2, u_v3, u_v4, u_v5, u_v6, u_v7, u_v8, u_K, u_e1, u_e2, u_eIf, u_eNot, u_eOr, u_eAnd, u_call, callF2, callF1, callF0, callF3, u_gen, u_r1, u_sl, u_oN, onR_ok, onR_exc, toRes, cmpM, blT_some, truR_bl, optR, ltM, leM, eq_ii, eq_ss, eq_bb, sizes_at (show 0 < n by omega), words_ix w _ hw]
    rw [u_lc, u_r1, hi, Res.bind_ok, hr, Res.bind_ok]
    exact h2
  simp [u_seq, u_if, u_set, u_ret, u_retN, u_exp, u_nx, u_ix, u_par, u_tup, u_for, u_raise, u_or, u_and, u_not, u_cmp, u_val, u_tt, u_aR, u_aC, u_a0, u_v0, u_v1, u_v2, u_v3, u_v4, u_v5, u_v6, u_v7, u_v8, u_K, u_e1, u_e2, u_eIf, u_eNot, u_eOr, u_eAnd, u_call, callF2, callF1, callF0, callF3, u_gen, u_r1, u_sl, u_oN, onR_ok, onR_exc, toRes, cmpM, blT_some, truR_bl, optR, ltM, leM, eq_ii, eq_ss, eq_bb, c__law_some_deed, hl, ht, e, hLc, hT, hp]
end M
end
/-! ## G83t -/
section
set_option linter.all false
set_option maxRecDepth 100000
set_option maxHeartbeats 1000000
namespace M
open PySem L2
/-! is_deed and the law's own -/
def Sh (d : D) : Bool := match toPD d with
  | some p => p.canLay0 && decide (p.depth ≤ 60)
  | none => false
theorem toPDs_sh : ∀ {ds : List D}, (∀ d ∈ ds, Sh d = true) → ∃ ps, toPDs ds = some ps ∧ PyData.canLayAll0 ps = true ∧ PyData.depthAll ps ≤ 60 ∧ ps.isEmpty = ds.isEmpty
  | [], _ => ⟨[], rfl, by simp [PyData.canLayAll0], by simp [PyData.depthAll], rfl⟩
  | d :: ds, h => by
    obtain ⟨ps, e1, e2, e3, e4⟩ := toPDs_sh (ds := ds) fun x hx => h x (List.mem_cons_of_mem _ hx)
    have hd := h d List.mem_cons_self
    unfold Sh at hd
    cases q : toPD d with
    | none => rw [q] at hd; cases hd
    | some p =>
      rw [q] at hd
      obtain ⟨k1, k2⟩ := Bool.and_eq_true_iff.1 hd
      refine ⟨p :: ps, by simp [toPDs, q, e1], by simp [PyData.canLayAll0, k1, e2], ?_, rfl⟩
      have := of_decide_eq_true k2
      simp only [PyData.depthAll]
      omega
theorem eq_nil {ds : List D} (h : ∀ d ∈ ds, Sh d = true) : eqM (.lst ds) (.lst []) = some ds.isEmpty := by
  obtain ⟨ps, e1, e2, e3, e4⟩ := toPDs_sh h
  have s1 : SeqAt.shaped (.list ps) = true := by
    have k : PyData.depth (.list ps) ≤ 64 := by simp only [PyData.depth]; omega
    have k2 : PyData.canLay0 (.list ps) = true := by simp only [PyData.canLay0]; exact e2
    unfold SeqAt.shaped
    rw [k2, decide_eq_true k]
    rfl
  have s2 : SeqAt.shaped (.list []) = true := by decide
  have t1 : toPD (.lst ds) = some (.list ps) := by simp [toPD, e1]
  have t2 : toPD (.lst []) = some (.list []) := by simp [toPD, toPDs]
  have e : eqM (.lst ds) (.lst []) = (match toPD (.lst ds), toPD (.lst []) with
    | some p, some q => if SeqAt.shaped p && SeqAt.shaped q then some (PyData.eqv p q) else none
    | _, _ => none) := rfl
  rw [e, t1, t2]
  simp only [s1, s2, Bool.and_self, if_true]
  rw [← e4]
  cases ps <;> simp [PyData.eqv, PyData.eqvAll]
/-- a number of a deed, as it is asked -/
def figB : D → Bool
  | .int i => decide (0 ≤ i) && decide (i ≤ 10 ^ 20 - 1)
  | _ => false
def Itm : D → Bool
  | .non => true
  | .bl _ => true
  | .int _ => true
  | .str _ => true
  | .tup _ => true
  | .lst _ => true
  | _ => false
def isIntB : D → Bool
  | .int _ => true
  | _ => false
theorem law_whole {N : Nat} (hN : 0 < N) (x : D) (hx : Itm x = true) (A : AH) : fns N "_law_is_whole" [x] A = .ok (.bl (isIntB x)) A := by
  obtain ⟨n, rfl, hn⟩ := lvl hN
  rw [g__law_is_whole]
  cases x <;> first | (cases hx; done) | rfl
theorem whole_fig {N : Nat} (hN : 0 < N) (x : D) (hx : Itm x = true) (A : AH) : fns N "whole" [x, .int 0, .int (10 ^ 20 - 1)] A = .ok (.bl (figB x)) A := by
  obtain ⟨n, rfl, hn⟩ := lvl hN
  cases x <;> first | (cases hx; done) | (rw [whole_int]; rfl) | (rw [g_whole]; rfl)
theorem lc_nil (x : Bool) (tg : D → M.Loc → Option M.Loc) (tt : MT) (te : ME) (L : M.Loc) (acc : List D) (A : AH) : lcGo x tg tt te L [] acc A = .ok (.lst acc) A := rfl
theorem lc_in {x : Bool} {tg : D → M.Loc → Option M.Loc} {tt : MT} {te : ME} {L L1 : M.Loc} {d y : D} {xs acc : List D} {A A1 A2 : AH} (h1 : tg d L = some L1) (h2 : tt L1 A = .ok true A1) (h3 : te L1 A1 = .ok y A2) (h4 : acc.length < sizeLine) :
    lcGo x tg tt te L (d :: xs) acc A = lcGo x tg tt te L xs (acc ++ [y]) A2 := by
  simp only [lcGo, h1, h2, h3]
  rw [if_pos h4]
theorem lc_out {x : Bool} {tg : D → M.Loc → Option M.Loc} {tt : MT} {te : ME} {L L1 : M.Loc} {d : D} {xs acc : List D} {A A1 : AH} (h1 : tg d L = some L1) (h2 : tt L1 A = .ok false A1) :
    lcGo x tg tt te L (d :: xs) acc A = lcGo x tg tt te L xs acc A1 := by
  simp only [lcGo, h1, h2]
/-- a thing that is a deed -/
def isD : D → Bool
  | .tup (.str w :: xs) => decide (words6.lookup w = some xs.length) && xs.all figB
  | _ => false
def isTupB : D → Bool
  | .tup _ => true
  | _ => false
def isStrB : D → Bool
  | .str _ => true
  | _ => false
def isBlB : D → Bool
  | .bl _ => true
  | _ => false
def isLstB : D → Bool
  | .lst _ => true
  | _ => false
theorem isi_tup (x : D) (hx : Itm x = true) (A : AH) : biS tab.S .isi [x, .ty "tuple"] A = .ok (.bl (isTupB x)) A := by
  cases x <;> first | (cases hx; done) | rfl
theorem isi_str (x : D) (hx : Itm x = true) (A : AH) : biS tab.S .isi [x, .ty "str"] A = .ok (.bl (isStrB x)) A := by
  cases x <;> first | (cases hx; done) | rfl
theorem isi_int (x : D) (hx : Itm x = true) (A : AH) : biS tab.S .isi [x, .ty "int"] A = .ok (.bl (isIntB x || isBlB x)) A := by
  cases x <;> first | (cases hx; done) | rfl
theorem isi_bool (x : D) (hx : Itm x = true) (A : AH) : biS tab.S .isi [x, .ty "bool"] A = .ok (.bl (isBlB x)) A := by
  cases x <;> first | (cases hx; done) | rfl
theorem isi_list (x : D) (hx : Itm x = true) (A : AH) : biS tab.S .isi [x, .ty "list"] A = .ok (.bl (isLstB x)) A := by
  cases x <;> first | (cases hx; done) | rfl
theorem len_tup (ds : List D) (A : AH) : biS tab.S .len [.tup ds] A = .ok (.int ds.length) A := rfl
theorem all_loop {n : Nat} (hn : 0 < n) (t : D) (A : AH) : ∀ (xs acc : List D) (x : Option D), (∀ d ∈ xs, Itm d = true) → acc.length + xs.length ≤ sizeLine →
    lcGo true (gN 1) tTrue (eCall (fns n) 3 "whole" [] (aC (eVar 1) (aC (eK (.int 0)) (aC (eK (.int (10 ^ 20 - 1))) (a0))))) [some t, x] xs acc A = .ok (.lst (acc ++ xs.map fun d => .bl (figB d))) A
  | [], acc, x, _, _ => by simp [lcGo]
  | d :: xs, acc, x, h, hs => by
    have hb : eCall (fns n) 3 "whole" [] (aC (eVar 1) (aC (eK (.int 0)) (aC (eK (.int (10 ^ 20 - 1))) (a0)))) [some t, some d] A = .ok (.bl (figB d)) A := by
      have w := whole_fig hn d (h d List.mem_cons_self) A
      rw [u_call, u_aC, u_v1, Res.bind_ok, u_aC, u_K, Res.bind_ok, u_aC, u_K, Res.bind_ok, u_a0]
      exact w
    have ih := all_loop hn t A xs (acc ++ [.bl (figB d)]) x (fun y hy => h y (List.mem_cons_of_mem _ hy)) (by simp at hs ⊢; omega)
    simp only [List.length_cons] at hs
    rw [lc_in (L1 := [some t, some d]) rfl rfl hb (by omega), ih]
    simp
theorem fig_filter {n : Nat} (hn : 0 < n) (t : D) (p : Option D) (A : AH) : ∀ (xs acc : List D) (x : Option D), (∀ d ∈ xs, Itm d = true) → acc.length + xs.length ≤ sizeLine →
    lcGo true (gN 2) (M.tOp .Or (tNot (tVal (eCall (fns n) 1 "_law_is_whole" [] (aC (eVar 2) (a0))))) (M.tOp .Or (tCmp tab.S .Lt (eVar 2) (eK (.int 0))) (tCmp tab.S .GtE (eVar 2) (M.e2 (eK (.int 10)) (eK (.int 20)) (opM .Pow))))) (eVar 2) [some t, p, x] xs acc A = .ok (.lst (acc ++ xs.filter fun d => !figB d)) A
  | [], acc, x, _, _ => by rw [lc_nil]; simp
  | d :: xs, acc, x, h, hs => by
    have hd := h d List.mem_cons_self
    have hw := law_whole hn d hd A
    have hp : opM .Pow (.int 10) (.int 20) A = .ok (.int (10 ^ 20)) A := rfl
    have ht : M.tOp .Or (tNot (tVal (eCall (fns n) 1 "_law_is_whole" [] (aC (eVar 2) (a0))))) (M.tOp .Or (tCmp tab.S .Lt (eVar 2) (eK (.int 0))) (tCmp tab.S .GtE (eVar 2) (M.e2 (eK (.int 10)) (eK (.int 20)) (opM .Pow)))) [some t, p, some d] A = .ok (!figB d) A := by
      cases d with
      | int i =>
        by_cases q1 : i < 0
        · have q1' : ¬ 0 ≤ i := by omega
          simp [u_seq, u_if, u_set, u_ret, u_retN, u_exp, u_nx, u_ix, u_par, u_tup, u_for, u_raise, u_or, u_and, u_not, u_cmp, u_val, u_tt, u_aR, u_aC, u_a0, u_v0, u_v1, u_v2, u_v3, u_v4, u_v5, u_v6, u_v7, u_v8, u_K, u_e1, u_e2, u_eIf, u_eNot, u_eOr, u_eAnd, u_call, callF2, callF1, callF0, callF3, u_gen, u_r1, u_sl, u_oN, onR_ok, onR_exc, toRes, cmpM, blT_some, truR_bl, optR, ltM, leM, eq_ii, eq_ss, eq_bb, hw, isIntB, hp, figB, q1, q1']
        · have q1' : 0 ≤ i := by omega
          by_cases q2 : i ≤ 10 ^ 20 - 1
          · have q2' : ¬ 10 ^ 20 ≤ i := by omega
            simp [u_seq, u_if, u_set, u_ret, u_retN, u_exp, u_nx, u_ix, u_par, u_tup, u_for, u_raise, u_or, u_and, u_not, u_cmp, u_val, u_tt, u_aR, u_aC, u_a0, u_v0, u_v1, u_v2, u_v3, u_v4, u_v5, u_v6, u_v7, u_v8, u_K, u_e1, u_e2, u_eIf, u_eNot, u_eOr, u_eAnd, u_call, callF2, callF1, callF0, callF3, u_gen, u_r1, u_sl, u_oN, onR_ok, onR_exc, toRes, cmpM, blT_some, truR_bl, optR, ltM, leM, eq_ii, eq_ss, eq_bb, hw, isIntB, hp, figB, q1, q1', q2, q2']
            rw [Bool.eq_iff_iff]; simp; omega
          · have q2' : 10 ^ 20 ≤ i := by omega
            simp [u_seq, u_if, u_set, u_ret, u_retN, u_exp, u_nx, u_ix, u_par, u_tup, u_for, u_raise, u_or, u_and, u_not, u_cmp, u_val, u_tt, u_aR, u_aC, u_a0, u_v0, u_v1, u_v2, u_v3, u_v4, u_v5, u_v6, u_v7, u_v8, u_K, u_e1, u_e2, u_eIf, u_eNot, u_eOr, u_eAnd, u_call, callF2, callF1, callF0, callF3, u_gen, u_r1, u_sl, u_oN, onR_ok, onR_exc, toRes, cmpM, blT_some, truR_bl, optR, ltM, leM, eq_ii, eq_ss, eq_bb, hw, isIntB, hp, figB, q1, q1', q2, q2']
            rw [Bool.eq_iff_iff]; simp; omega
      | _ => simp [u_seq, u_if, u_set, u_ret, u_retN, u_exp, u_nx, u_ix, u_par, u_tup, u_for, u_raise, u_or, u_and, u_not, u_cmp, u_val, u_tt, u_aR, u_aC, u_a0, u_v0, u_v1, u_v2, u_v3, u_v4, u_v5, u_v6, u_v7, u_v8, u_K, u_e1, u_e2, u_eIf, u_eNot, u_eOr, u_eAnd, u_call, callF2, callF1, callF0, callF3, u_gen, u_r1, u_sl, u_oN, onR_ok, onR_exc, toRes, cmpM, blT_some, truR_bl, optR, ltM, leM, eq_ii, eq_ss, eq_bb, hw, isIntB, figB]
    simp only [List.length_cons] at hs
    cases q : figB d
    · rw [q] at ht
      rw [lc_in (L1 := [some t, p, some d]) rfl ht (u_v2 _ _ _ _ _) (by omega), fig_filter hn t p A xs (acc ++ [d]) x (fun y hy => h y (List.mem_cons_of_mem _ hy)) (by simp; omega)]
      simp [q]
    · rw [q] at ht
      rw [lc_out (L1 := [some t, p, some d]) rfl ht, fig_filter hn t p A xs acc x (fun y hy => h y (List.mem_cons_of_mem _ hy)) (by omega)]
      simp [q]
theorem ix0_tup (x : D) (xs : List D) (A : AH) : ixM tab.S (.tup (x :: xs)) (.int 0) A = .ok x A := by
  have := ix_tup (x :: xs) 0 A (by simp)
  simpa using this
theorem ix0_lst (x : D) (xs : List D) (A : AH) : ixM tab.S (.lst (x :: xs)) (.int 0) A = .ok x A := by
  have := ix_lst (x :: xs) 0 A (by simp)
  simpa using this
theorem cut_rest {α : Type} (x : α) (xs : List α) : cutD (x :: xs) (some 1) none = xs := by
  have h1 : HT.sIx (x :: xs).length 0 (some 1) = 1 := by simp [HT.sIx, PySem.fromIndex]
  have h2 : HT.sIx (x :: xs).length (x :: xs).length none = xs.length + 1 := by simp [HT.sIx]
  unfold cutD
  rw [h1, h2]
  simp
theorem rest_at (x : D) (xs : List D) (L : M.Loc) (A : AH) (a : ME) (h : a L A = .ok (.tup (x :: xs)) A) : eSl a (oS (eK (.int 1))) oN L A = .ok (.tup xs) A := by
  rw [u_sl, h, Res.bind_ok, u_oS (k := 1) (A1 := A) (h := rfl), Res.bind_ok, u_oN, Res.bind_ok]
  show optR A (some (.tup (cutD (x :: xs) (some 1) none))) = _
  rw [cut_rest]
  rfl
def partsOf (w : Str) : Int := ((words6.lookup w).map fun (m : Nat) => (m : Int)).getD (-1)
theorem get_parts (Φ : Fns) (w : Str) (L : M.Loc) (A : AH) (a : ME) (h : a L A = .ok (.str w) A) : eMt tab Φ "get" 2 (eDic ["open", "close", "bar", "part", "wire", "cut"] (aC (eK (.int 0)) (aC (eK (.int 1)) (aC (eK (.int 2)) (aC (eK (.int 2)) (aC (eK (.int 3)) (aC (eK (.int 2)) (a0)))))))) (aC a (aC (M.e1 (eK (.int 1)) negM) (a0))) L A = .ok (.int (partsOf w)) A := by
  have e1 : eDic ["open", "close", "bar", "part", "wire", "cut"] (aC (eK (.int 0)) (aC (eK (.int 1)) (aC (eK (.int 2)) (aC (eK (.int 2)) (aC (eK (.int 3)) (aC (eK (.int 2)) (a0))))))) L A = .ok szD A := rfl
  have e2 : aC a (aC (M.e1 (eK (.int 1)) negM) (a0)) L A = .ok [.str w, .int (-1)] A := by
    rw [u_aC, h]
    rfl
  unfold eMt
  rw [e1]
  show (match mNames.lookup ("get" : Str) with
    | some b => if rcv b szD then (aC a (aC (M.e1 (eK (.int 1)) negM) (a0)) L A).bind fun ds A2 => mtM b szD ds A2 else .stuck
    | none => .stuck) = _
  rw [e2]
  show optR A (some ((lookK szK [.int 0, .int 1, .int 2, .int 2, .int 3, .int 2] (.inr w)).getD (.int (-1)))) = _
  have z : (lookK szK [.int 0, .int 1, .int 2, .int 2, .int 3, .int 2] (.inr w)).getD (.int (-1)) = .int (partsOf w) := by
    simp only [szK, List.map_cons, List.map_nil, lookK, partsOf, words6, List.lookup_cons]
    by_cases h1 : w = "open"
    · subst h1; rfl
    by_cases h2 : w = "close"
    · subst h2; rfl
    by_cases h3 : w = "bar"
    · subst h3; rfl
    by_cases h4 : w = "part"
    · subst h4; rfl
    by_cases h5 : w = "wire"
    · subst h5; rfl
    by_cases h6 : w = "cut"
    · subst h6; rfl
    have k1 : ¬ ("open" : Str) = w := fun q => h1 q.symm
    have k2 : ¬ ("close" : Str) = w := fun q => h2 q.symm
    have k3 : ¬ ("bar" : Str) = w := fun q => h3 q.symm
    have k4 : ¬ ("part" : Str) = w := fun q => h4 q.symm
    have k5 : ¬ ("wire" : Str) = w := fun q => h5 q.symm
    have k6 : ¬ ("cut" : Str) = w := fun q => h6 q.symm
    simp [k1, k2, k3, k4, k5, k6, beq_eq_false_iff_ne.mpr h1, beq_eq_false_iff_ne.mpr h2, beq_eq_false_iff_ne.mpr h3, beq_eq_false_iff_ne.mpr h4, beq_eq_false_iff_ne.mpr h5, beq_eq_false_iff_ne.mpr h6]
  rw [z]
  rfl
theorem parts_iff (w : Str) (m : Nat) : ((m : Int) = partsOf w) ↔ words6.lookup w = some m := by
  unfold partsOf
  cases words6.lookup w with
  | none => simp <;> omega
  | some k => simp; omega
theorem law_is_deed_at {N : Nat} (hN : 1 < N) (t : D) (ht : Itm t = true) (hs : ∀ xs, t = .tup xs → xs.length < 1000000 ∧ ∀ d ∈ xs, Itm d = true ∧ Sh d = true) (A : AH) : fns N "_law_is_deed" [t] A = .ok (.bl (isD t)) A := by
  obtain ⟨n, rfl, hn⟩ := lvl hN
  rw [g__law_is_deed]
  cases t with
  | tup xs =>
    obtain ⟨hl, hi⟩ := hs xs rfl
    cases xs with
    | nil => simp [u_seq, u_if, u_set, u_ret, u_retN, u_exp, u_nx, u_ix, u_par, u_tup, u_for, u_raise, u_or, u_and, u_not, u_cmp, u_val, u_tt, u_aR, u_aC, u_a0, u_v0, u_v1, u_v2, u_v3, u_v4, u_v5, u_v6, u_v7, u_v8, u_K, u_e1, u_e2, u_eIf, u_eNot, u_eOr, u_eAnd, u_call, callF2, callF1, callF0, callF3, u_gen, u_r1, u_sl, u_oN, onR_ok, onR_exc, toRes, cmpM, blT_some, truR_bl, optR, ltM, leM, eq_ii, eq_ss, eq_bb, c__law_is_deed, isi_tup _ ht A, isTupB, len_tup, isD]
    | cons x xs =>
      have hx := hi x List.mem_cons_self
      have n0 : ¬ ((xs.length : Int) + 1 = 0) := by omega
      have es := isi_str x hx.1 A
      cases x with
      | str w =>
        have e1 : eSl (eVar 0) (oS (eK (.int 1))) oN [some (.tup (.str w :: xs)), none, none] A = .ok (.tup xs) A := rest_at _ _ _ A _ rfl
        have hz : ∀ m, m < 1000000 → m ≤ sizeLine := fun m h => sz_small h
        have lx : xs.length < 1000000 := by simp at hl; omega
        have e2 : eLc true [2] (iGen (eSl (eVar 0) (oS (eK (.int 1))) (oN))) (gN 2) (M.tOp .Or (tNot (tVal (eCall (fns n) 1 "_law_is_whole" [] (aC (eVar 2) (a0))))) (M.tOp .Or (tCmp tab.S .Lt (eVar 2) (eK (.int 0))) (tCmp tab.S .GtE (eVar 2) (M.e2 (eK (.int 10)) (eK (.int 20)) (opM .Pow))))) (eVar 2) [some (.tup (.str w :: xs)), none, none] A = .ok (.lst (xs.filter fun d => !figB d)) A := by
          rw [u_lc, u_gen, e1, Res.bind_ok]
          show lcGo true (gN 2) _ _ (wipeL [some (.tup (.str w :: xs)), none, none] [2]) xs [] A = _
          rw [show wipeL [some (.tup (.str w :: xs)), none, none] [2] = [some (.tup (.str w :: xs)), none, none] from rfl, fig_filter (by omega) _ _ A xs [] none (fun y hy => (hi y (List.mem_cons_of_mem _ hy)).1) (by simpa using hz _ lx)]
          rfl
        have e3 : eqM (.lst (xs.filter fun d => !figB d)) (.lst []) = some (xs.filter fun d => !figB d).isEmpty := eq_nil fun d hd => (hi d (List.mem_cons_of_mem _ (List.mem_filter.1 hd).1)).2
        have l0 : ∀ A, lstR [] A = .ok (.lst []) A := fun A => lstR_at (by simp)
        have e4 := get_parts (fns n) w [some (.tup (.str w :: xs)), none, none] A (M.e2 (eVar 0) (eK (.int 0)) (ixM tab.S)) (by rw [u_e2, u_v0, Res.bind_ok, u_K, Res.bind_ok, ix0_tup])
        have e5 : (xs.filter fun d => !figB d).isEmpty = xs.all figB := by
          rw [Bool.eq_iff_iff]
          simp [List.filter_eq_nil_iff]
        rw [e5] at e3
        have e6 : decide ((xs.length : Int) + 1 = partsOf w + 1) = decide (words6.lookup w = some xs.length) := by
          rw [Bool.eq_iff_iff, decide_eq_true_iff, decide_eq_true_iff, ← parts_iff]
          omega
        cases q : xs.all figB
        · rw [q] at e3
          simp [u_seq, u_if, u_set, u_ret, u_retN, u_exp, u_nx, u_ix, u_par, u_tup, u_for, u_raise, u_or, u_and, u_not, u_cmp, u_val, u_tt, u_aR, u_aC, u_a0, u_v0, u_v1, u_v2, u_v3, u_v4, u_v5, u_v6, u_v7, u_v8, u_K, u_e1, u_e2, u_eIf, u_eNot, u_eOr, u_eAnd, u_call, callF2, callF1, callF0, callF3, u_gen, u_r1, u_sl, u_oN, onR_ok, onR_exc, toRes, cmpM, blT_some, truR_bl, optR, ltM, leM, eq_ii, eq_ss, eq_bb, c__law_is_deed, isi_tup _ ht A, isTupB, isStrB, len_tup, isD, ix0_tup, es, n0, e2, l0, e3, q]
        · rw [q] at e3
          simp [u_seq, u_if, u_set, u_ret, u_retN, u_exp, u_nx, u_ix, u_par, u_tup, u_for, u_raise, u_or, u_and, u_not, u_cmp, u_val, u_tt, u_aR, u_aC, u_a0, u_v0, u_v1, u_v2, u_v3, u_v4, u_v5, u_v6, u_v7, u_v8, u_K, u_e1, u_e2, u_eIf, u_eNot, u_eOr, u_eAnd, u_call, callF2, callF1, callF0, callF3, u_gen, u_r1, u_sl, u_oN, onR_ok, onR_exc, toRes, cmpM, blT_some, truR_bl, optR, ltM, leM, eq_ii, eq_ss, eq_bb, c__law_is_deed, isi_tup _ ht A, isTupB, isStrB, len_tup, isD, ix0_tup, es, n0, e2, l0, e3, q, e4, op_add, cmpO, blR]
          exact parts_iff w xs.length
      | _ => simp [u_seq, u_if, u_set, u_ret, u_retN, u_exp, u_nx, u_ix, u_par, u_tup, u_for, u_raise, u_or, u_and, u_not, u_cmp, u_val, u_tt, u_aR, u_aC, u_a0, u_v0, u_v1, u_v2, u_v3, u_v4, u_v5, u_v6, u_v7, u_v8, u_K, u_e1, u_e2, u_eIf, u_eNot, u_eOr, u_eAnd, u_call, callF2, callF1, callF0, callF3, u_gen, u_r1, u_sl, u_oN, onR_ok, onR_exc, toRes, cmpM, blT_some, truR_bl, optR, ltM, leM, eq_ii, eq_ss, eq_bb, c__law_is_deed, isi_tup _ ht A, isTupB, isStrB, len_tup, isD, ix0_tup, es, n0]
  | _ => simp [u_seq, u_if, u_set, u_ret, u_retN, u_exp, u_nx, u_ix, u_par, u_tup, u_for, u_raise, u_or, u_and, u_not, u_cmp, u_val, u_tt, u_aR, u_aC, u_a0, u_v0, u_v1, u_v2, u_v3, u_v4, u_v5, u_v6, u_v7, u_v8, u_K, u_e1, u_e2, u_eIf, u_eNot, u_eOr, u_eAnd, u_call, callF2, callF1, callF0, callF3, u_gen, u_r1, u_sl, u_oN, onR_ok, onR_exc, toRes, cmpM, blT_some, truR_bl, optR, ltM, leM, eq_ii, eq_ss, eq_bb, c__law_is_deed, isi_tup _ ht A, isTupB, isD]
theorem forms_words (w : Str) : formsT.lookup w = (words6.lookup w).map fun m => ((m + 1 : Nat) : Int) := by
  simp only [formsT, words6, List.lookup_cons]
  by_cases h1 : w = "open"
  · subst h1; rfl
  by_cases h2 : w = "close"
  · subst h2; rfl
  by_cases h3 : w = "bar"
  · subst h3; rfl
  by_cases h4 : w = "part"
  · subst h4; rfl
  by_cases h5 : w = "wire"
  · subst h5; rfl
  by_cases h6 : w = "cut"
  · subst h6; rfl
  simp [beq_eq_false_iff_ne.mpr h1, beq_eq_false_iff_ne.mpr h2, beq_eq_false_iff_ne.mpr h3, beq_eq_false_iff_ne.mpr h4, beq_eq_false_iff_ne.mpr h5, beq_eq_false_iff_ne.mpr h6]
theorem forms_has (w : Str) : inM tab.S (.str w) (.con FA) = some (words6.lookup w).isSome := by
  have e : inM tab.S (.str w) (.con FA) = some (formsT.lookup w).isSome := rfl
  rw [e, forms_words, Option.isSome_map]
theorem all_bl (bs : List Bool) (A : AH) : biS tab.S .all [.lst (bs.map .bl)] A = .ok (.bl (bs.all id)) A := by
  have z : ∀ l : List Bool, blDs (l.map .bl) = some l := fun l => by
    induction l with
    | nil => rfl
    | cons b l ih => simp [blDs, ih]
  show optR A ((blDs (bs.map .bl)).map fun bs => .bl (bs.all id)) = _
  rw [z]
  rfl
theorem is_deed_at {N : Nat} (hN : 1 < N) (t : D) (ht : Itm t = true) (hs : ∀ xs, t = .tup xs → xs.length < 1000000 ∧ ∀ d ∈ xs, Itm d = true) (A : AH) : fns N "is_deed" [t] A = .ok (.bl (isD t)) A := by
  obtain ⟨n, rfl, hn⟩ := lvl hN
  rw [g_is_deed]
  cases t with
  | tup xs =>
    obtain ⟨hl, hi⟩ := hs xs rfl
    cases xs with
    | nil => simp [u_seq, u_if, u_set, u_ret, u_retN, u_exp, u_nx, u_ix, u_par, u_tup, u_for, u_raise, u_or, u_and, u_not, u_cmp, u_val, u_tt, u_aR, u_aC, u_a0, u_v0, u_v1, u_v2, u_v3, u_v4, u_v5, u_v6, u_v7, u_v8, u_K, u_e1, u_e2, u_eIf, u_eNot, u_eOr, u_eAnd, u_call, callF2, callF1, callF0, callF3, u_gen, u_r1, u_sl, u_oN, onR_ok, onR_exc, toRes, cmpM, blT_some, truR_bl, optR, ltM, leM, eq_ii, eq_ss, eq_bb, c_is_deed, isi_tup _ ht A, isTupB, len_tup, isD]
    | cons x xs =>
      have hx := hi x List.mem_cons_self
      have n0 : ¬ ((xs.length : Int) + 1 = 0) := by omega
      have es := isi_str x hx A
      cases x with
      | str w =>
        have lx : xs.length < 1000000 := by simp at hl; omega
        have ix : ixM tab.S (.con FA) (.str w) A = optR A ((words6.lookup w).map fun m => .int ((m + 1 : Nat) : Int)) := by rw [forms_ix, forms_words, Option.map_map]; rfl
        have e1 : eSl (eVar 0) (oS (eK (.int 1))) oN [some (.tup (.str w :: xs)), none] A = .ok (.tup xs) A := rest_at _ _ _ A _ rfl
        have e2 : eLc true [1] (iGen (eSl (eVar 0) (oS (eK (.int 1))) (oN))) (gN 1) (tTrue) (eCall (fns n) 3 "whole" [] (aC (eVar 1) (aC (eK (.int 0)) (aC (eK (.int (10 ^ 20 - 1))) (a0))))) [some (.tup (.str w :: xs)), none] A = .ok (.lst ((xs.map figB).map .bl)) A := by
          rw [u_lc, u_gen, e1, Res.bind_ok]
          show lcGo true (gN 1) _ _ (wipeL [some (.tup (.str w :: xs)), none] [1]) xs [] A = _
          rw [show wipeL [some (.tup (.str w :: xs)), none] [1] = [some (.tup (.str w :: xs)), none] from rfl, all_loop (by omega) _ A xs [] none (fun y hy => hi y (List.mem_cons_of_mem _ hy)) (by simpa using sz_small lx)]
          rw [List.map_map]
          rfl
        have e3 : biS tab.S .all [.lst (xs.map (D.bl ∘ figB))] A = .ok (.bl (xs.all figB)) A := by
          have z := all_bl (xs.map figB) A
          rw [List.map_map, List.all_map] at z
          exact z
        cases q : words6.lookup w with
        | none =>
          have q2 := forms_has w
          rw [q] at q2
          simp [u_seq, u_if, u_set, u_ret, u_retN, u_exp, u_nx, u_ix, u_par, u_tup, u_for, u_raise, u_or, u_and, u_not, u_cmp, u_val, u_tt, u_aR, u_aC, u_a0, u_v0, u_v1, u_v2, u_v3, u_v4, u_v5, u_v6, u_v7, u_v8, u_K, u_e1, u_e2, u_eIf, u_eNot, u_eOr, u_eAnd, u_call, callF2, callF1, callF0, callF3, u_gen, u_r1, u_sl, u_oN, onR_ok, onR_exc, toRes, cmpM, blT_some, truR_bl, optR, ltM, leM, eq_ii, eq_ss, eq_bb, c_is_deed, isi_tup _ ht A, isTupB, isStrB, len_tup, isD, ix0_tup, es, n0, q2, q]
        | some m =>
          have q2 := forms_has w
          rw [q] at q2 ix
          by_cases z : m = xs.length
          · subst z
            simp only [show (10 : Int) ^ 20 - 1 = 99999999999999999999 from rfl] at e2
            simp [u_seq, u_if, u_set, u_ret, u_retN, u_exp, u_nx, u_ix, u_par, u_tup, u_for, u_raise, u_or, u_and, u_not, u_cmp, u_val, u_tt, u_aR, u_aC, u_a0, u_v0, u_v1, u_v2, u_v3, u_v4, u_v5, u_v6, u_v7, u_v8, u_K, u_e1, u_e2, u_eIf, u_eNot, u_eOr, u_eAnd, u_call, callF2, callF1, callF0, callF3, u_gen, u_r1, u_sl, u_oN, onR_ok, onR_exc, toRes, cmpM, blT_some, truR_bl, optR, ltM, leM, eq_ii, eq_ss, eq_bb, c_is_deed, isi_tup _ ht A, isTupB, isStrB, len_tup, isD, ix0_tup, es, n0, q2, q, ix, e2, e3]
          · have z2 : ¬ ((m : Int) + 1 = (xs.length : Int) + 1) := by omega
            simp [u_seq, u_if, u_set, u_ret, u_retN, u_exp, u_nx, u_ix, u_par, u_tup, u_for, u_raise, u_or, u_and, u_not, u_cmp, u_val, u_tt, u_aR, u_aC, u_a0, u_v0, u_v1, u_v2, u_v3, u_v4, u_v5, u_v6, u_v7, u_v8, u_K, u_e1, u_e2, u_eIf, u_eNot, u_eOr, u_eAnd, u_call, callF2, callF1, callF0, callF3, u_gen, u_r1, u_sl, u_oN, onR_ok, onR_exc, toRes, cmpM, blT_some, truR_bl, optR, ltM, leM, eq_ii, eq_ss, eq_bb, c_is_deed, isi_tup _ ht A, isTupB, isStrB, len_tup, isD, ix0_tup, es, n0, q2, q, ix, z, z2]
      | _ => simp [u_seq, u_if, u_set, u_ret, u_retN, u_exp, u_nx, u_ix, u_par, u_tup, u_for, u_raise, u_or, u_and, u_not, u_cmp, u_val, u_tt, u_aR, u_aC, u_a0, u_v0, u_v1, u_v2, u_v3, u_v4, u_v5, u_v6, u_v7, u_v8, u_K, u_e1, u_e2, u_eIf, u_eNot, u_eOr, u_eAnd, u_call, callF2, callF1, callF0, callF3, u_gen, u_r1, u_sl, u_oN, onR_ok, onR_exc, toRes, cmpM, blT_some, truR_bl, optR, ltM, leM, eq_ii, eq_ss, eq_bb, c_is_deed, isi_tup _ ht A, isTupB, isStrB, len_tup, isD, ix0_tup, es, n0]
  | _ => simp [u_seq, u_if, u_set, u_ret, u_retN, u_exp, u_nx, u_ix, u_par, u_tup, u_for, u_raise, u_or, u_and, u_not, u_cmp, u_val, u_tt, u_aR, u_aC, u_a0, u_v0, u_v1, u_v2, u_v3, u_v4, u_v5, u_v6, u_v7, u_v8, u_K, u_e1, u_e2, u_eIf, u_eNot, u_eOr, u_eAnd, u_call, callF2, callF1, callF0, callF3, u_gen, u_r1, u_sl, u_oN, onR_ok, onR_exc, toRes, cmpM, blT_some, truR_bl, optR, ltM, leM, eq_ii, eq_ss, eq_bb, c_is_deed, isi_tup _ ht A, isTupB, isD]
end M
end
/-! ## G83u -/
section
set_option linter.all false
set_option maxRecDepth 100000
set_option maxHeartbeats 1000000
namespace M
open PySem L2
/-! numbers written as words, and read back -/
def numS (i : Int) : Str := Str.ofString (toString i)
theorem num_cps (m : Nat) : (numS (m : Int)).cps.toList = (Nat.toDigits 10 m).map Char.toNat := PySem.W.KIN.signs_num m
theorem num_len {m : Nat} (h : m < 10 ^ 20) : (numS (m : Int)).length ≤ 20 ∧ 1 ≤ (numS (m : Int)).length := by
  have e : (numS (m : Int)).length = (Nat.toDigits 10 m).length := by
    rw [show (numS (m : Int)).length = (numS (m : Int)).cps.toList.length by simp [Str.length], num_cps, List.length_map]
  rw [e]
  exact ⟨PyProof.Rows.digits10_le (by decide) h, PyProof.Rows.tDigits_len_ge 10 m⟩
theorem num_digs (m : Nat) : PySem.NumText.AllDigits (numS (m : Int)).cps.toList := by
  intro c hc
  rw [num_cps] at hc
  obtain ⟨x, hx, rfl⟩ := List.mem_map.1 hc
  have := Nat.isDigit_of_mem_toDigits (by decide) (by decide) hx
  simp [Char.isDigit] at this
  constructor
  · exact this.1
  · exact this.2
theorem num_val (m : Nat) : PySem.NumText.digitsVal (numS (m : Int)).cps.toList = m := by
  rw [num_cps]
  exact PySem.W.KIN.val_back m
theorem num_back {m : Nat} (h : m < 10 ^ 20) : numG (.str (numS (m : Int))) = some m := by
  obtain ⟨l1, l2⟩ := num_len h
  have hd := num_digs m
  have ne : (numS (m : Int)).cps.toList ≠ [] := by
    intro q
    have : (numS (m : Int)).length = 0 := by rw [show (numS (m : Int)).length = (numS (m : Int)).cps.toList.length by simp [Str.length], q]; rfl
    omega
  have it : PySem.intText? (numS (m : Int)) = some (m : Int) := by
    rw [intText_digits hd ne (by omega), num_val]
  have ad : (numS (m : Int)).cps.toList.all dig = true := List.all_eq_true.2 fun c hc => (dig_iff c).2 (hd c hc)
  have nz : ¬ ((numS (m : Int)).cps.toList.head? = some 48 ∧ numS (m : Int) ≠ "0") := by
    rintro ⟨q1, q2⟩
    cases hc : (numS (m : Int)).cps.toList with
    | nil => exact ne hc
    | cons c r =>
      rw [hc] at q1
      simp only [List.head?_cons, Option.some.injEq] at q1
      subst q1
      have t := PySem.NumText.toDigits_all _ hd
      rw [num_val, hc] at t
      have e : (48 :: r).length = (Nat.toDigits 10 m).length := by rw [← hc, num_cps, List.length_map]
      have dw : List.dropWhile (fun x => x == 48) (48 :: r) = List.dropWhile (fun x => x == 48) r := by simp [List.dropWhile]
      rw [dw] at t
      have le : (List.dropWhile (fun x => x == 48) r).length ≤ r.length := (List.dropWhile_sublist _).length_le
      cases hw : List.dropWhile (fun x => x == 48) r with
      | nil =>
        rw [hw] at t
        rw [t] at e
        simp at e
        subst e
        apply q2
        have : (numS (m : Int)).cps = ("0" : Str).cps := by
          apply Array.toList_inj.1
          rw [hc]
          decide
        cases hx : numS (m : Int)
        rw [hx] at this
        cases this
        rfl
      | cons c r' =>
        rw [hw] at t le
        rw [t] at e
        simp at e le
        omega
  simp only [numG]
  rw [if_neg (by omega), if_pos ad, if_neg nz, it]
  rfl
end M
end
/-! ## G83v -/
section
set_option linter.all false
set_option maxRecDepth 100000
set_option maxHeartbeats 1000000
namespace M
open PySem L2
/-! a deed as a text -/
theorem items_tup (ds : List D) (A : AH) : itemsM (.tup ds) A = .ok ds A := rfl
theorem items_lst (ds : List D) (A : AH) : itemsM (.lst ds) A = .ok ds A := rfl
theorem items_str (x : Str) (A : AH) : itemsM (.str x) A = .ok (x.cps.toList.map chD) A := rfl
theorem strDs_map (ys : List Str) : strDs (ys.map .str) = some ys := by
  induction ys with
  | nil => rfl
  | cons y ys ih => simp [strDs, ih]
theorem join_at {Φ : Fns} {L : M.Loc} {A A1 : AH} {a : ME} {sep : Str} {ys : List Str} (h : a L A = .ok (.lst (ys.map .str)) A1) (hl : (ys.map (·.length)).sum + ys.length * sep.length ≤ 16777216) :
    eMt tab Φ "join" 1 (eK (.str sep)) (aC a (a0)) L A = .ok (.str (Txt.join sep ys)) A1 := by
  have e : eMt tab Φ "join" 1 (eK (.str sep)) (aC a (a0)) L A = (aC a (a0) L A).bind fun ds A2 => mtM .join (.str sep) ds A2 := rfl
  rw [e, u_aC, h, Res.bind_ok, u_a0, Res.bind_ok, Res.bind_ok]
  have v : mtV A1 .join (.str sep) [.lst (ys.map .str)] = some (.str (Txt.join sep ys)) := by
    have v1 : mtV A1 .join (.str sep) [.lst (ys.map .str)] = (strDs (ys.map .str)).bind fun ys => if (ys.map (·.length)).sum + ys.length * sep.length ≤ 16777216 then some (.str (Txt.join sep ys)) else none := rfl
    rw [v1, strDs_map, Option.bind_some, if_pos hl]
  unfold mtM
  rw [v]
  rfl
theorem str_fig (i : Int) (h : Fig i) (A : AH) : biS tab.S .str [.int i] A = .ok (.str (numS i)) A := by
  have l : i.natAbs.log2 < 1920 := by
    have : i.natAbs < 2 ^ 67 := by
      have := h.2
      have := h.1
      omega
    by_cases z : i.natAbs = 0
    · rw [z]; decide
    · have := (Nat.log2_lt z).2 this
      omega
  have e : biS tab.S .str [.int i] A = optR A (if i.natAbs.log2 < 1920 then some (.str (toString i)) else none) := rfl
  rw [e, if_pos l]
  rfl
theorem str_str (x : Str) (A : AH) : biS tab.S .str [.str x] A = .ok (.str x) A := rfl
/-- words and figures -/
def WF (d : D) : Prop := (∃ x, d = .str x) ∨ ∃ i, d = .int i ∧ Fig i
def sD : D → Str
  | .str x => x
  | .int i => numS i
  | _ => ""
theorem spoken_loop (n : Nat) (t : D) (A : AH) : ∀ (ds acc : List D) (x : Option D), (∀ d ∈ ds, WF d) → acc.length + ds.length ≤ sizeLine →
    lcGo true (gN 1) tTrue (eIf (tVal (M.aR (aC (eVar 1) (aC (eK (.ty "tuple")) (a0))) (biS tab.S .isi))) (eCall (fns n) 1 "_law_lot_word" [] (aC (eVar 1) (a0))) (M.aR (aC (eVar 1) (a0)) (biS tab.S .str))) [some t, x] ds acc A = .ok (.lst (acc ++ (ds.map sD).map .str)) A
  | [], acc, x, _, _ => by rw [lc_nil]; simp
  | d :: ds, acc, x, h, hs => by
    simp only [List.length_cons] at hs
    have hd : eIf (tVal (M.aR (aC (eVar 1) (aC (eK (.ty "tuple")) (a0))) (biS tab.S .isi))) (eCall (fns n) 1 "_law_lot_word" [] (aC (eVar 1) (a0))) (M.aR (aC (eVar 1) (a0)) (biS tab.S .str)) [some t, some d] A = .ok (.str (sD d)) A := by
      rcases h d List.mem_cons_self with ⟨y, rfl⟩ | ⟨i, rfl, hi⟩
      · simp [u_seq, u_if, u_set, u_ret, u_retN, u_exp, u_nx, u_ix, u_par, u_tup, u_for, u_raise, u_or, u_and, u_not, u_cmp, u_val, u_tt, u_aR, u_aC, u_a0, u_v0, u_v1, u_v2, u_v3, u_v4, u_v5, u_v6, u_v7, u_v8, u_K, u_e1, u_e2, u_eIf, u_eNot, u_eOr, u_eAnd, u_call, callF2, callF1, callF0, callF3, u_gen, u_r1, u_sl, u_oN, onR_ok, onR_exc, toRes, cmpM, blT_some, truR_bl, optR, ltM, leM, eq_ii, eq_ss, eq_bb, isi_tup (.str y) rfl A, isTupB, str_str, sD]
      · simp [u_seq, u_if, u_set, u_ret, u_retN, u_exp, u_nx, u_ix, u_par, u_tup, u_for, u_raise, u_or, u_and, u_not, u_cmp, u_val, u_tt, u_aR, u_aC, u_a0, u_v0, u_v1, u_v2, u_v3, u_v4, u_v5, u_v6, u_v7, u_v8, u_K, u_e1, u_e2, u_eIf, u_eNot, u_eOr, u_eAnd, u_call, callF2, callF1, callF0, callF3, u_gen, u_r1, u_sl, u_oN, onR_ok, onR_exc, toRes, cmpM, blT_some, truR_bl, optR, ltM, leM, eq_ii, eq_ss, eq_bb, isi_tup (.int i) rfl A, isTupB, str_fig i hi, sD]
    rw [lc_in (L1 := [some t, some d]) rfl rfl hd (by omega), spoken_loop n t A ds _ x (fun y hy => h y (List.mem_cons_of_mem _ hy)) (by simp; omega)]
    simp
def deedW (w : Str) (is : List Int) : List Str := w :: is.map numS
def deedS (w : Str) (is : List Int) : Str := Txt.join " " (deedW w is)
theorem deedW_eq (w : Str) (is : List Int) : (D.str w :: is.map .int).map sD = deedW w is := by
  simp only [List.map_cons, sD, deedW, List.map_map]
  rfl
theorem word_len {w : Str} {m : Nat} (h : words6.lookup w = some m) : w.length ≤ 5 ∧ m ≤ 3 := by
  have q := mem6 h
  simp only [words6, List.mem_cons, Prod.mk.injEq, List.not_mem_nil, or_false] at q
  rcases q with ⟨rfl, rfl⟩ | ⟨rfl, rfl⟩ | ⟨rfl, rfl⟩ | ⟨rfl, rfl⟩ | ⟨rfl, rfl⟩ | ⟨rfl, rfl⟩ <;> decide
theorem fig_len {i : Int} (h : Fig i) : (numS i).length ≤ 20 := by
  obtain ⟨m, rfl⟩ := Int.eq_ofNat_of_zero_le h.1
  exact (num_len (by have := h.2; omega)).1
theorem figs_sum : ∀ {is : List Int}, (∀ i ∈ is, Fig i) → ((is.map numS).map (·.length)).sum ≤ 20 * is.length
  | [], _ => by simp
  | i :: is, h => by
    have a := fig_len (h i List.mem_cons_self)
    have b := figs_sum fun j hj => h j (List.mem_cons_of_mem _ hj)
    simp only [List.map_cons, List.sum_cons, List.length_cons]
    omega
theorem deed_sum {w : Str} {is : List Int} (h : words6.lookup w = some is.length) (f : ∀ i ∈ is, Fig i) : ((deedW w is).map (·.length)).sum + (deedW w is).length * (" " : Str).length ≤ 70 := by
  obtain ⟨h1, h2⟩ := word_len h
  have := figs_sum f
  have e : (" " : Str).length = 1 := rfl
  simp only [deedW, List.map_cons, List.sum_cons, List.length_cons, List.length_map, e]
  omega
theorem spoken_at {N : Nat} (hN : 0 < N) {w : Str} {is : List Int} (h : words6.lookup w = some is.length) (f : ∀ i ∈ is, Fig i) (A : AH) : fns N "_law_spoken" [.tup (.str w :: is.map .int)] A = .ok (.str (deedS w is)) A := by
  obtain ⟨n, rfl, hn⟩ := lvl hN
  rw [g__law_spoken]
  have hw : ∀ d ∈ (D.str w :: is.map .int), WF d := fun d hd => by
    rcases List.mem_cons.1 hd with rfl | hd
    · exact .inl ⟨_, rfl⟩
    · obtain ⟨i, hi, rfl⟩ := List.mem_map.1 hd
      exact .inr ⟨i, rfl, f i hi⟩
  have l3 := (word_len h).2
  have e1 : eLc true [1] (iGen (eVar 0)) (gN 1) (tTrue) (eIf (tVal (M.aR (aC (eVar 1) (aC (eK (.ty "tuple")) (a0))) (biS tab.S .isi))) (eCall (fns n) 1 "_law_lot_word" [] (aC (eVar 1) (a0))) (M.aR (aC (eVar 1) (a0)) (biS tab.S .str))) [some (.tup (.str w :: is.map .int)), none] A = .ok (.lst ((deedW w is).map .str)) A := by
    rw [u_lc, u_gen, u_v0, Res.bind_ok, items_tup, Res.bind_ok]
    show lcGo true (gN 1) _ _ (wipeL [some (.tup (.str w :: is.map .int)), none] [1]) (.str w :: is.map .int) [] A = _
    rw [show wipeL [some (.tup (.str w :: is.map .int)), none] [1] = [some (.tup (.str w :: is.map .int)), none] from rfl, spoken_loop n _ A _ [] none hw (by simpa using sz_small (by omega)), deedW_eq]
    rfl
  have e2 := join_at (Φ := fns n) (sep := " ") e1 (by have := deed_sum h f; omega)
  simp [u_seq, u_if, u_set, u_ret, u_retN, u_exp, u_nx, u_ix, u_par, u_tup, u_for, u_raise, u_or, u_and, u_not, u_cmp, u_val, u_tt, u_aR, u_aC, u_a0, u_v0, u_v1, u_v2, u_v3, u_v4, u_v5, u_v6, u_v7, u_v8, u_K, u_e1, u_e2, u_eIf, u_eNot, u_eOr, u_eAnd, u_call, callF2, callF1, callF0, callF3, u_gen, u_r1, u_sl, u_oN, onR_ok, onR_exc, toRes, cmpM, blT_some, truR_bl, optR, ltM, leM, eq_ii, eq_ss, eq_bb, c__law_spoken, e2, deedS]
theorem isD_deed {w : Str} {is : List Int} (h : words6.lookup w = some is.length) (f : ∀ i ∈ is, Fig i) : isD (.tup (.str w :: is.map .int)) = true := by
  have : (is.map D.int).all figB = true := by
    rw [List.all_map, List.all_eq_true]
    intro i hi
    have := f i hi
    simp only [Function.comp, figB, Bool.and_eq_true, decide_eq_true_eq]
    exact ⟨this.1, by have := this.2; omega⟩
  simp only [isD, List.length_map, h, this]
  simp
theorem isD_shape {t : D} (h : isD t = true) : ∃ (w : Str) (is : List Int), t = .tup (.str w :: is.map .int) ∧ words6.lookup w = some is.length ∧ ∀ i ∈ is, Fig i := by
  have go : ∀ xs : List D, xs.all figB = true → ∃ is : List Int, xs = is.map .int ∧ ∀ i ∈ is, Fig i := fun xs => by
    induction xs with
    | nil => exact fun _ => ⟨[], rfl, by simp⟩
    | cons x xs ih =>
      intro hx
      rw [List.all_cons, Bool.and_eq_true] at hx
      obtain ⟨is, rfl, hi⟩ := ih hx.2
      have h1 := hx.1
      cases x with
      | int i =>
        simp only [figB, Bool.and_eq_true, decide_eq_true_eq] at h1
        refine ⟨i :: is, rfl, fun j hj => ?_⟩
        rcases List.mem_cons.1 hj with rfl | hj
        · exact ⟨h1.1, by have := h1.2; omega⟩
        · exact hi j hj
      | _ => cases h1
  unfold isD at h
  split at h
  · rename_i w xs
    rw [Bool.and_eq_true, decide_eq_true_eq] at h
    obtain ⟨is, rfl, hi⟩ := go xs h.2
    exact ⟨w, is, rfl, by simpa using h.1, hi⟩
  · cases h
theorem str_loop (t : D) (A : AH) : ∀ (is : List Int) (acc : List D) (x : Option D), (∀ i ∈ is, Fig i) → acc.length + is.length ≤ sizeLine →
    lcGo true (gN 1) tTrue (M.aR (aC (eVar 1) (a0)) (biS tab.S .str)) [some t, x] (is.map .int) acc A = .ok (.lst (acc ++ (is.map numS).map .str)) A
  | [], acc, x, _, _ => by rw [List.map_nil, lc_nil]; simp
  | i :: is, acc, x, h, hs => by
    simp only [List.length_cons] at hs
    have hd : M.aR (aC (eVar 1) (a0)) (biS tab.S .str) [some t, some (.int i)] A = .ok (.str (numS i)) A := by
      simp [u_seq, u_if, u_set, u_ret, u_retN, u_exp, u_nx, u_ix, u_par, u_tup, u_for, u_raise, u_or, u_and, u_not, u_cmp, u_val, u_tt, u_aR, u_aC, u_a0, u_v0, u_v1, u_v2, u_v3, u_v4, u_v5, u_v6, u_v7, u_v8, u_K, u_e1, u_e2, u_eIf, u_eNot, u_eOr, u_eAnd, u_call, callF2, callF1, callF0, callF3, u_gen, u_r1, u_sl, u_oN, onR_ok, onR_exc, toRes, cmpM, blT_some, truR_bl, optR, ltM, leM, eq_ii, eq_ss, eq_bb, str_fig i (h i List.mem_cons_self)]
    rw [List.map_cons, lc_in (L1 := [some t, some (.int i)]) rfl rfl hd (by omega), str_loop t A is _ x (fun y hy => h y (List.mem_cons_of_mem _ hy)) (by simp; omega)]
    simp
/-- deed_text of a deed -/
theorem deed_text_at {N : Nat} (hN : 2 < N) {w : Str} {is : List Int} (h : words6.lookup w = some is.length) (f : ∀ i ∈ is, Fig i) (A : AH) : fns N "deed_text" [.tup (.str w :: is.map .int)] A = .ok (.str (deedS w is)) A := by
  obtain ⟨n, rfl, hn⟩ := lvl hN
  rw [g_deed_text]
  have l3 := (word_len h).2
  have hI : ∀ xs, D.tup (.str w :: is.map .int) = .tup xs → xs.length < 1000000 ∧ ∀ d ∈ xs, Itm d = true := fun xs q => by
    cases q
    refine ⟨by simp; omega, fun d hd => ?_⟩
    rcases List.mem_cons.1 hd with rfl | hd
    · rfl
    · obtain ⟨i, _, rfl⟩ := List.mem_map.1 hd
      rfl
  have e0 := is_deed_at (N := n) (by omega) _ (rfl : Itm (.tup (.str w :: is.map .int)) = true) hI A
  rw [isD_deed h f] at e0
  have e1 : eLc true [1] (iGen (eSl (eVar 0) (oS (eK (.int 1))) (oN))) (gN 1) (tTrue) (M.aR (aC (eVar 1) (a0)) (biS tab.S .str)) [some (.tup (.str w :: is.map .int)), none] A = .ok (.lst ((is.map numS).map .str)) A := by
    rw [u_lc, u_gen, rest_at _ _ _ A _ rfl, Res.bind_ok, items_tup, Res.bind_ok]
    show lcGo true (gN 1) _ _ (wipeL [some (.tup (.str w :: is.map .int)), none] [1]) (is.map .int) [] A = _
    rw [show wipeL [some (.tup (.str w :: is.map .int)), none] [1] = [some (.tup (.str w :: is.map .int)), none] from rfl, str_loop _ A _ [] none f (by simpa using sz_small (by omega))]
    rfl
  have e2 : M.aR (aC (M.e2 (eVar 0) (eK (.int 0)) (ixM tab.S)) (aS (eLc true [1] (iGen (eSl (eVar 0) (oS (eK (.int 1))) (oN))) (gN 1) (tTrue) (M.aR (aC (eVar 1) (a0)) (biS tab.S .str))) (a0))) lstR [some (.tup (.str w :: is.map .int)), none] A = .ok (.lst ((deedW w is).map .str)) A := by
    rw [u_aR, u_aC, u_e2, u_v0, Res.bind_ok, u_K, Res.bind_ok, ix0_tup, Res.bind_ok, u_aSl (h := e1), u_a0, Res.bind_ok, Res.bind_ok, Res.bind_ok, lstR_at (by simpa using sz_small (by omega))]
    simp [deedW]
  have e3 := join_at (Φ := fns n) (sep := " ") e2 (by have := deed_sum h f; omega)
  simp [u_seq, u_if, u_set, u_ret, u_retN, u_exp, u_nx, u_ix, u_par, u_tup, u_for, u_raise, u_or, u_and, u_not, u_cmp, u_val, u_tt, u_aR, u_aC, u_a0, u_v0, u_v1, u_v2, u_v3, u_v4, u_v5, u_v6, u_v7, u_v8, u_K, u_e1, u_e2, u_eIf, u_eNot, u_eOr, u_eAnd, u_call, callF2, callF1, callF0, callF3, u_gen, u_r1, u_sl, u_oN, onR_ok, onR_exc, toRes, cmpM, blT_some, truR_bl, optR, ltM, leM, eq_ii, eq_ss, eq_bb, c_deed_text, e0, e3, deedS]
end M
end
/-! ## G83w -/
section
set_option linter.all false
set_option maxRecDepth 100000
set_option maxHeartbeats 1000000
namespace M
open PySem L2
/-! the parts of a split text -/
theorem spl_mem (S : List Nat) : ∀ (l : List Nat) (k : Nat) (acc : List Nat), ∀ p ∈ TL.spl S k acc l, p.length ≤ acc.length + l.length ∧ ∀ c ∈ p, c ∈ acc ∨ c ∈ l
  | [], k, acc, p, hp => by
    rw [TL.spl_nil, List.mem_singleton] at hp
    subst hp
    exact ⟨by simp, fun c hc => .inl hc⟩
  | a :: l, 0, acc, p, hp => by
    cases q : TL.pre S (a :: l) with
    | true =>
      rw [TL.spl_hit q] at hp
      rcases List.mem_cons.1 hp with rfl | hp
      · exact ⟨by simp, fun c hc => .inl hc⟩
      · obtain ⟨h1, h2⟩ := spl_mem S l _ [] p hp
        refine ⟨by simp at h1 ⊢; omega, fun c hc => ?_⟩
        rcases h2 c hc with z | z
        · cases z
        · exact .inr (List.mem_cons_of_mem _ z)
    | false =>
      rw [TL.spl_miss q] at hp
      obtain ⟨h1, h2⟩ := spl_mem S l _ _ p hp
      refine ⟨by simp at h1 ⊢; omega, fun c hc => ?_⟩
      rcases h2 c hc with z | z
      · rcases List.mem_append.1 z with z | z
        · exact .inl z
        · rw [List.mem_singleton] at z
          exact .inr (by rw [z]; exact List.mem_cons_self)
      · exact .inr (List.mem_cons_of_mem _ z)
  | a :: l, k + 1, acc, p, hp => by
    have e : TL.spl S (k + 1) acc (a :: l) = TL.spl S k acc l := rfl
    rw [e] at hp
    obtain ⟨h1, h2⟩ := spl_mem S l _ _ p hp
    refine ⟨by simp at h1 ⊢; omega, fun c hc => ?_⟩
    rcases h2 c hc with z | z
    · exact .inl z
    · exact .inr (List.mem_cons_of_mem _ z)
theorem spl_ne (S : List Nat) : ∀ (l : List Nat) (k : Nat) (acc : List Nat), TL.spl S k acc l ≠ []
  | [], k, acc => by rw [TL.spl_nil]; simp
  | a :: l, 0, acc => by
    cases q : TL.pre S (a :: l) with
    | true => rw [TL.spl_hit q]; simp
    | false => rw [TL.spl_miss q]; exact spl_ne S l _ _
  | a :: l, k + 1, acc => spl_ne S l k acc
theorem split_parts (x y : Str) (hy : TL.tl y ≠ []) (hk : y.cps.all (· < 256) = true) : Txt.split x y ≠ [] ∧ ∀ p ∈ Txt.split x y, p.length ≤ x.length ∧ ∀ c ∈ p.cps.toList, c ∈ x.cps.toList := by
  have e := TL.split_spl x y hy (TL.kind_ok hk)
  refine ⟨fun q => ?_, fun p hp => ?_⟩
  · rw [q] at e
    exact spl_ne _ _ _ _ e.symm
  · have m : TL.tl p ∈ TL.spl (TL.tl y) 0 [] (TL.tl x) := by rw [← e]; exact List.mem_map.2 ⟨p, hp, rfl⟩
    obtain ⟨h1, h2⟩ := spl_mem _ _ _ _ _ m
    refine ⟨?_, fun c hc => ?_⟩
    · simpa [TL.tl, Str.length] using h1
    · rcases h2 c hc with z | z
      · cases z
      · exact z
theorem spl_cnt (S : List Nat) : ∀ (l : List Nat) (k : Nat) (acc : List Nat), (TL.spl S k acc l).length ≤ l.length + 1
  | [], k, acc => by rw [TL.spl_nil]; simp
  | a :: l, 0, acc => by
    cases q : TL.pre S (a :: l) with
    | true =>
      rw [TL.spl_hit q]
      have := spl_cnt S l (S.length - 1) []
      simp only [List.length_cons]
      omega
    | false =>
      rw [TL.spl_miss q]
      have := spl_cnt S l 0 (acc ++ [a])
      simp only [List.length_cons]
      omega
  | a :: l, k + 1, acc => by
    have e : TL.spl S (k + 1) acc (a :: l) = TL.spl S k acc l := rfl
    rw [e]
    have := spl_cnt S l k acc
    simp only [List.length_cons]
    omega
theorem split_cnt (x y : Str) (hy : TL.tl y ≠ []) (hk : y.cps.all (· < 256) = true) : (Txt.split x y).length ≤ x.length + 1 := by
  have e := TL.split_spl x y hy (TL.kind_ok hk)
  have := spl_cnt (TL.tl y) (TL.tl x) 0 []
  rw [← e, List.length_map] at this
  simpa [TL.tl, Str.length] using this
theorem nl_ok : TL.tl ("\n" : Str) ≠ [] ∧ ("\n" : Str).cps.all (· < 256) = true := by decide +kernel
theorem sp_ok : TL.tl (" " : Str) ≠ [] ∧ (" " : Str).cps.all (· < 256) = true := by decide +kernel
end M
end
/-! ## G83x -/
section
set_option linter.all false
set_option maxRecDepth 100000
set_option maxHeartbeats 1000000
namespace M
open PySem L2
/-! what the words of a line are read as -/
def natsR (ws : List Str) : Nat → Nat → Except Nat (List Nat)
  | 0, _ => .ok []
  | m + 1, a => match ws[a]? with
    | none => .error a
    | some w => match numG (.str w) with
      | none => .error a
      | some i => match natsR ws m (a + 1) with
        | .ok is => .ok (i :: is)
        | .error b => .error b
def deedR (ws : List Str) : Except Nat (Str × List Nat) := match ws with
  | [] => .error 0
  | w :: _ => match words6.lookup w with
    | none => .error 0
    | some m => match natsR ws m 1 with
      | .error b => .error b
      | .ok is => if ws.length > m + 1 then .error (m + 1) else .ok (w, is)
def intsD (is : List Nat) : List D := is.map fun (i : Nat) => D.int (i : Int)
theorem set_only {A : AH} {k : Nat} (x : AO) : Only1 k A (A.set k x) := ⟨by simp, fun j hj => by rw [List.getElem?_set_ne (Ne.symm hj)]⟩
theorem natsGo_R (ws : List Str) (ln : Int) (k : Nat) (A : AH) : ∀ (m a : Nat) (acc : List D), (∀ is, natsR ws m a = .ok is → natsGo numG (ws.map .str) ln k A m a acc = .ok (.lst (acc ++ intsD is)) (A.set k (rd (ws.map .str) ln ((a + m : Nat) : Int))) ∧ is.length = m) ∧
    (∀ b, natsR ws m a = .error b → ∃ c : Int, natsGo numG (ws.map .str) ln k A m a acc = .exc (wrongAt ln b) (A.set k (rd (ws.map .str) ln c)))
  | 0, a, acc => ⟨fun is h => by
      cases h
      exact ⟨by simp [natsGo, intsD], rfl⟩, fun b h => by cases h⟩
  | m + 1, a, acc => by
    have g : (ws.map D.str)[a]? = (ws[a]?).map .str := List.getElem?_map
    cases q : ws[a]? with
    | none =>
      rw [q] at g
      refine ⟨fun is h => ?_, fun b h => ?_⟩
      · simp only [natsR, q] at h; cases h
      · simp only [natsR, q] at h
        cases h
        exact ⟨a, by simp only [natsGo, g, Option.map_none]; rfl⟩
    | some w =>
      rw [q] at g
      cases p : numG (.str w) with
      | none =>
        refine ⟨fun is h => ?_, fun b h => ?_⟩
        · simp only [natsR, q, p] at h; cases h
        · simp only [natsR, q, p] at h
          cases h
          exact ⟨((a + 1 : Nat) : Int), by simp only [natsGo, g, Option.map_some, p]; rfl⟩
      | some i =>
        have e : natsGo numG (ws.map .str) ln k A (m + 1) a acc = natsGo numG (ws.map .str) ln k A m (a + 1) (acc ++ [.int i]) := by simp only [natsGo, g, Option.map_some, p]
        obtain ⟨ih1, ih2⟩ := natsGo_R ws ln k A m (a + 1) (acc ++ [.int i])
        rw [e]
        refine ⟨fun is h => ?_, fun b h => ?_⟩
        · simp only [natsR, q, p] at h
          cases r : natsR ws m (a + 1) with
          | error b => rw [r] at h; cases h
          | ok is' =>
            rw [r] at h
            cases h
            obtain ⟨z1, z2⟩ := ih1 _ r
            refine ⟨?_, by simp [z2]⟩
            rw [z1, show a + 1 + m = a + (m + 1) by omega]
            simp [intsD]
        · simp only [natsR, q, p] at h
          cases r : natsR ws m (a + 1) with
          | ok is' => rw [r] at h; cases h
          | error b' =>
            rw [r] at h
            cases h
            exact ih2 _ r
theorem words_in (w : Str) : inM tab.S (.str w) (.tup (formsT.map fun p => .str p.1)) = some (words6.lookup w).isSome := by
  rw [forms_in]
  congr 1
  simp only [formsT, words6, List.map_cons, List.map_nil, List.any_cons, List.any_nil, List.lookup_cons]
  by_cases h1 : w = "open"
  · subst h1; rfl
  by_cases h2 : w = "close"
  · subst h2; rfl
  by_cases h3 : w = "bar"
  · subst h3; rfl
  by_cases h4 : w = "part"
  · subst h4; rfl
  by_cases h5 : w = "wire"
  · subst h5; rfl
  by_cases h6 : w = "cut"
  · subst h6; rfl
  have e : ∀ y : Str, ¬ w = y → eqV (.str y) (.str w) = false := fun y h => by
    simp [eqV]
    exact fun q => h q.symm
  simp [beq_eq_false_iff_ne.mpr h1, beq_eq_false_iff_ne.mpr h2, beq_eq_false_iff_ne.mpr h3, beq_eq_false_iff_ne.mpr h4, beq_eq_false_iff_ne.mpr h5, beq_eq_false_iff_ne.mpr h6, e _ h1, e _ h2, e _ h3, e _ h4, e _ h5, e _ h6]
theorem natsR_len {ws : List Str} : ∀ {m a : Nat} {is : List Nat}, natsR ws m a = .ok is → a ≤ ws.length → a + m ≤ ws.length
  | 0, a, is, _, h => h
  | m + 1, a, is, h, ha => by
    cases q : ws[a]? with
    | none => simp only [natsR, q] at h; cases h
    | some w =>
      have al := (List.getElem?_eq_some_iff.1 q).1
      cases p : numG (.str w) with
      | none => simp only [natsR, q, p] at h; cases h
      | some i =>
        cases r : natsR ws m (a + 1) with
        | error b => simp only [natsR, q, p, r] at h; cases h
        | ok is' =>
          have := natsR_len r (by omega)
          omega
end M
end
/-! ## G83y -/
section
set_option linter.all false
set_option maxRecDepth 100000
set_option maxHeartbeats 1000000
namespace M
open PySem L2
def deedD (ln : Int) (r : Except Nat (Str × List Nat)) (A : AH) : Res D := match r with
  | .ok (w, is) => .ok (.tup (.str w :: intsD is)) A
  | .error b => .exc (wrongAt ln b) A
theorem deed_in_at {N : Nat} (hN : 3 < N) {A : AH} {k : Nat} {ws : List Str} {ln : Int} (h : A[k]? = some (rd (ws.map .str) ln 0)) (hw : ∀ w ∈ ws, w.length ≤ sizeLine) (hne : ws ≠ []) (hz : ws.length < 1000000) :
    ∃ A', Only1 k A A' ∧ fns N "deed_in" [.obj k] A = deedD ln (deedR ws) A' := by
  obtain ⟨n, rfl⟩ : ∃ n, N = n + 3 + 1 := ⟨N - 4, by omega⟩
  rw [g_deed_in]
  have kl : k < A.length := (List.getElem?_eq_some_iff.1 h).1
  cases ws with
  | nil => exact absurd rfl hne
  | cons w ws =>
    have h1 := rd_one_of n (ln := ln) (a := 0) (ws := (w :: ws).map .str) (ch := .tup (formsT.map fun p => .str p.1)) (f := fun d => match d with | .str w => (words6.lookup w).isSome | _ => false) (by simp) h (fun d hd => by
      simp at hd
      subst hd
      exact words_in w)
    simp only [List.map_cons, List.getElem?_cons_zero] at h1
    have a1 : aC (M.aR (aC (eK (.con FA)) (a0)) (biS tab.S .tuple)) (a0) [some (.obj k), none, none, none] A = .ok [.tup (formsT.map fun p => .str p.1)] A := rfl
    have e1 := (eMt_rd (n := 1) (m := "one_of") (Φ := fns (n + 3)) (rfl : eVar 0 [some (.obj k), none, none, none] A = .ok (.obj k) A) h (dvs := []) (i := ⟨RC, ("Reader.one_of" : Str), 2, []⟩) rfl a1 rfl).trans h1
    cases q : words6.lookup w with
    | none =>
      rw [q] at e1
      refine ⟨_, set_only (rd (D.str w :: ws.map .str) ln ((0 + 1 : Nat) : Int)), ?_⟩
      have e1' : eMt tab (fns (n + 3)) "one_of" 1 (eVar 0) (aC (M.aR (aC (eK (.con FA)) (a0)) (biS tab.S .tuple)) (a0)) [some (.obj k), none, none, none] A = .exc (wrongAt ln 0) (A.set k (rd (D.str w :: ws.map .str) ln ((0 + 1 : Nat) : Int))) := e1
      have r : deedR (w :: ws) = .error 0 := by simp only [deedR, q]
      rw [r]
      unfold c_deed_in
      rw [u_seq, u_set, e1']
      rfl
    | some m =>
      rw [q] at e1
      have e1' : eMt tab (fns (n + 3)) "one_of" 1 (eVar 0) (aC (M.aR (aC (eK (.con FA)) (a0)) (biS tab.S .tuple)) (a0)) [some (.obj k), none, none, none] A = .ok (.str w) (A.set k (rd (D.str w :: ws.map .str) ln ((1 : Nat) : Int))) := e1
      have hm : formsT.lookup w = some ((m + 1 : Nat) : Int) := by rw [forms_words, q]; rfl
      have m3 := (word_len q).2
      have e2 := deed_nats n (g := numG) (ws := D.str w :: ws.map .str) (ln := ln) (k := k) (A := A) (x := w) (m := m) kl (fun d hd B => by
        obtain ⟨y, hy, rfl⟩ := List.mem_map.1 (show d ∈ (w :: ws).map .str from hd)
        exact number_of_numG (n + 1) y B (hw y hy)) hm (by omega) (by simp) none
      obtain ⟨R1, R2⟩ := natsGo_R (w :: ws) ln k A m 1 []
      have s1 : sSet 1 (eMt tab (fns (n + 3)) "one_of" 1 (eVar 0) (aC (M.aR (aC (eK (.con FA)) (a0)) (biS tab.S .tuple)) (a0))) [some (.obj k), none, none, none] A = .nx [some (.obj k), some (.str w), none, none] (A.set k (rd (D.str w :: ws.map .str) ln ((1 : Nat) : Int))) := by
        rw [u_set, e1']
        rfl
      cases p : natsR (w :: ws) m 1 with
      | error b =>
        obtain ⟨c, e3⟩ := R2 _ p
        refine ⟨_, set_only (rd ((w :: ws).map .str) ln c), ?_⟩
        have r : deedR (w :: ws) = .error b := by simp only [deedR, q, p]
        have e4 : eLc true [3] (iR1 (M.e2 (M.e2 (eK (.con FA)) (eVar 1) (ixM tab.S)) (eK (.int 1)) (opM .Sub))) (gN 3) (tTrue) (eMt tab (fns (n + 3)) "natural" 0 (eVar 0) (a0)) [some (.obj k), some (.str w), none, none] (A.set k (rd (D.str w :: ws.map .str) ln ((1 : Nat) : Int))) = .exc (wrongAt ln b) (A.set k (rd ((w :: ws).map .str) ln c)) := e2.trans e3
        rw [r]
        unfold c_deed_in
        rw [sSeq_nx s1]
        have e5 : ∀ m' f, M.aR (aC (eVar 1) (aS (eLc true [3] (iR1 (M.e2 (M.e2 (eK (.con FA)) (eVar 1) (ixM tab.S)) (eK (.int 1)) (opM .Sub))) (gN 3) (tTrue) (eMt tab (fns (n + 3)) "natural" 0 (eVar 0) (a0))) m')) f [some (.obj k), some (.str w), none, none] (A.set k (rd (D.str w :: ws.map .str) ln ((1 : Nat) : Int))) = .exc (wrongAt ln b) (A.set k (rd ((w :: ws).map .str) ln c)) := fun m' f => by
          rw [u_aR, u_aC, u_v1, Res.bind_ok]
          unfold aS
          rw [e4]
          rfl
        rw [sSeq_exc (by rw [u_set, e5]; rfl)]
        rfl
      | ok is =>
        obtain ⟨e3, il⟩ := R1 _ p
        have e4 : eLc true [3] (iR1 (M.e2 (M.e2 (eK (.con FA)) (eVar 1) (ixM tab.S)) (eK (.int 1)) (opM .Sub))) (gN 3) (tTrue) (eMt tab (fns (n + 3)) "natural" 0 (eVar 0) (a0)) [some (.obj k), some (.str w), none, none] (A.set k (rd (D.str w :: ws.map .str) ln ((1 : Nat) : Int))) = .ok (.lst (intsD is)) (A.set k (rd ((w :: ws).map .str) ln ((1 + m : Nat) : Int))) := e2.trans e3
        have e5 : M.aR (aC (eVar 1) (aS (eLc true [3] (iR1 (M.e2 (M.e2 (eK (.con FA)) (eVar 1) (ixM tab.S)) (eK (.int 1)) (opM .Sub))) (gN 3) (tTrue) (eMt tab (fns (n + 3)) "natural" 0 (eVar 0) (a0))) (a0))) tupR [some (.obj k), some (.str w), none, none] (A.set k (rd (D.str w :: ws.map .str) ln ((1 : Nat) : Int))) = .ok (.tup (.str w :: intsD is)) (A.set k (rd ((w :: ws).map .str) ln ((1 + m : Nat) : Int))) := by
          rw [u_aR, u_aC, u_v1, Res.bind_ok, u_aSl (h := e4), u_a0, Res.bind_ok, Res.bind_ok, Res.bind_ok, tupR_at (by simp [intsD]; exact sz_small (by omega))]
          simp
        have s2 : sSet 2 (M.aR (aC (eVar 1) (aS (eLc true [3] (iR1 (M.e2 (M.e2 (eK (.con FA)) (eVar 1) (ixM tab.S)) (eK (.int 1)) (opM .Sub))) (gN 3) (tTrue) (eMt tab (fns (n + 3)) "natural" 0 (eVar 0) (a0))) (a0))) tupR) [some (.obj k), some (.str w), none, none] (A.set k (rd (D.str w :: ws.map .str) ln ((1 : Nat) : Int))) = .nx [some (.obj k), some (.str w), some (.tup (.str w :: intsD is)), none] (A.set k (rd ((w :: ws).map .str) ln ((1 + m : Nat) : Int))) := by
          rw [u_set, e5]
          rfl
        have h3 : (A.set k (rd ((w :: ws).map .str) ln ((1 + m : Nat) : Int)))[k]? = some (rd ((w :: ws).map .str) ln ((1 + m : Nat) : Int)) := by simp [kl]
        have e6 := (eMt_rd (n := 0) (m := "end") (Φ := fns (n + 3)) (rfl : eVar 0 [some (.obj k), some (.str w), some (.tup (.str w :: intsD is)), none] (A.set k (rd ((w :: ws).map .str) ln ((1 + m : Nat) : Int))) = .ok (.obj k) (A.set k (rd ((w :: ws).map .str) ln ((1 + m : Nat) : Int)))) h3 (dvs := []) (i := ⟨RC, ("Reader.end" : Str), 1, []⟩) rfl (rfl : a0 _ _ = .ok [] _) rfl).trans (rd_end (n + 1) h3)
        refine ⟨_, set_only (rd ((w :: ws).map .str) ln ((1 + m : Nat) : Int)), ?_⟩
        unfold c_deed_in
        rw [sSeq_nx s1, sSeq_nx s2]
        by_cases z : m + 1 < (w :: ws).length
        · have r : deedR (w :: ws) = .error (m + 1) := by simp only [deedR, q, p]; rw [if_pos z]
          rw [if_neg (by rw [List.length_map]; omega)] at e6
          rw [r, sSeq_exc (by rw [u_exp, e6]; rfl)]
          show _ = Res.exc (wrongAt ln (m + 1)) _
          rw [show ((1 + m : Nat) : Int) = ((m + 1 : Nat) : Int) by omega]
          rfl
        · have r : deedR (w :: ws) = .ok (w, is) := by simp only [deedR, q, p]; rw [if_neg z]
          have ll := natsR_len p (by simp)
          rw [if_pos (by rw [List.length_map]; omega)] at e6
          rw [r, sSeq_nx (by rw [u_exp, e6]; rfl)]
          rfl
/-- what a text is read as -/
def textR (x : Str) : Except Nat (Str × List Nat) := deedR (Txt.split ((Txt.split x "\n").headD "") " ")
def readD (x : Str) (A : AH) : Res D :=
  if 400000 < x.length then .exc ⟨1302, .int x.length, "TooMany"⟩ A
  else match textR x with
    | .error b => .exc (wrongAt 0 b) A
    | .ok (w, is) => if 1 < (Txt.split x "\n").length then .exc (wrongAt 1 0) A else .ok (.tup (.str w :: intsD is)) A
theorem sl_big : 1000000 ≤ sizeLine := by rw [sizeLine_eq]; omega
/-- from A to A': what stood there stays -/
structure Ext (A A' : AH) : Prop where
  le : A.length ≤ A'.length
  at_ : ∀ j, j < A.length → A'[j]? = A[j]?
theorem read_deed_at {N : Nat} (hN : 4 < N) (x : Str) (hx : x.length ≤ 400001) (A : AH) : ∃ A', Ext A A' ∧ fns N "read_deed" [.str x] A = readD x A' := by
  obtain ⟨n, rfl⟩ : ∃ n, N = n + 4 + 1 := ⟨N - 5, by omega⟩
  rw [g_read_deed]
  have sb := sl_big
  by_cases big : 400000 < x.length
  · refine ⟨A, ⟨Nat.le_refl _, fun _ _ => rfl⟩, ?_⟩
    have e1 : fns (n + 4) "lines_of" [.str x] A = .exc ⟨1302, .int x.length, "TooMany"⟩ A := by
      rw [show n + 4 = (n + 3) + 1 from rfl, g_lines_of]
      have hs : x.length ≤ sizeLine := by omega
      have l : biS tab.S .len [D.str x] A = .ok (.int x.length) A := by simp [biS, biM, biV, lenD, hs, optR]
      have z : (400000 : Int) < x.length := by omega
      simp [u_seq, u_if, u_set, u_ret, u_retN, u_exp, u_nx, u_ix, u_par, u_tup, u_for, u_raise, u_or, u_and, u_not, u_cmp, u_val, u_tt, u_aR, u_aC, u_a0, u_v0, u_v1, u_v2, u_v3, u_v4, u_v5, u_v6, u_v7, u_v8, u_K, u_e1, u_e2, u_eIf, u_eNot, u_eOr, u_eAnd, u_call, callF2, callF1, callF0, callF3, u_gen, u_r1, u_sl, u_oN, onR_ok, onR_exc, toRes, cmpM, blT_some, truR_bl, optR, ltM, leM, eq_ii, eq_ss, eq_bb, c_lines_of, isi_str (.str x) rfl A, isStrB, l, z]
    unfold readD
    rw [if_pos big]
    simp [u_seq, u_if, u_set, u_ret, u_retN, u_exp, u_nx, u_ix, u_par, u_tup, u_for, u_raise, u_or, u_and, u_not, u_cmp, u_val, u_tt, u_aR, u_aC, u_a0, u_v0, u_v1, u_v2, u_v3, u_v4, u_v5, u_v6, u_v7, u_v8, u_K, u_e1, u_e2, u_eIf, u_eNot, u_eOr, u_eAnd, u_call, callF2, callF1, callF0, callF3, u_gen, u_r1, u_sl, u_oN, onR_ok, onR_exc, toRes, cmpM, blT_some, truR_bl, optR, ltM, leM, eq_ii, eq_ss, eq_bb, c_read_deed, e1]
  · obtain ⟨ln, lp⟩ := split_parts x "\n" nl_ok.1 nl_ok.2
    have lc := split_cnt x "\n" nl_ok.1 nl_ok.2
    cases hy : Txt.split x "\n" with
    | nil => exact absurd hy ln
    | cons y ys =>
      rw [hy] at lp lc
      have yl := (lp y List.mem_cons_self).1
      obtain ⟨wn, wp⟩ := split_parts y " " sp_ok.1 sp_ok.2
      have wc := split_cnt y " " sp_ok.1 sp_ok.2
      have e1 : fns (n + 4) "lines_of" [.str x] A = .ok (.lst ((y :: ys).map .str)) A := by rw [← hy]; exact lines_of_str (n + 3) x A (by omega) (by omega)
      have e2 : fns (n + 4) "reader_at" [.lst ((y :: ys).map .str), .int 0] A = .ok (.obj A.length) (A ++ [rd ((Txt.split y " ").map .str) 0 0]) := reader_at_ok (n + 2) ((y :: ys).map .str) 0 y A rfl (by omega) (by simp only [List.length_map]; omega)
      have h0 : (A ++ [rd ((Txt.split y " ").map .str) 0 0])[A.length]? = some (rd ((Txt.split y " ").map .str) 0 0) := by simp
      obtain ⟨A2, o2, e3⟩ := deed_in_at (N := n + 4) (by omega) h0 (fun w hw => by have := (wp w hw).1; omega) wn (by omega)
      have e4 := end_lines_at (n + 3) ((y :: ys).map .str) 1 A2
      rw [List.length_map] at e4
      obtain ⟨ls, hls⟩ : ∃ ls, ls = (y :: ys).map D.str := ⟨_, rfl⟩
      rw [← hls] at e1 e2 e4
      have ex : Ext A A2 := ⟨by rw [o2.len]; simp, fun j hj => by rw [o2.at_ j (by omega), List.getElem?_append_left hj]⟩
      refine ⟨A2, ex, ?_⟩
      unfold readD textR
      rw [if_neg big, hy]
      simp only [List.headD_cons]
      cases r : deedR (Txt.split y " ") with
      | error b =>
        rw [r] at e3
        have e3' : fns (n + 4) "deed_in" [.obj A.length] (A ++ [rd ((Txt.split y " ").map .str) 0 0]) = .exc (wrongAt 0 b) A2 := e3
        simp [u_seq, u_if, u_set, u_ret, u_retN, u_exp, u_nx, u_ix, u_par, u_tup, u_for, u_raise, u_or, u_and, u_not, u_cmp, u_val, u_tt, u_aR, u_aC, u_a0, u_v0, u_v1, u_v2, u_v3, u_v4, u_v5, u_v6, u_v7, u_v8, u_K, u_e1, u_e2, u_eIf, u_eNot, u_eOr, u_eAnd, u_call, callF2, callF1, callF0, callF3, u_gen, u_r1, u_sl, u_oN, onR_ok, onR_exc, toRes, cmpM, blT_some, truR_bl, optR, ltM, leM, eq_ii, eq_ss, eq_bb, c_read_deed, e1, e2, e3']
      | ok p =>
        obtain ⟨w, is⟩ := p
        rw [r] at e3
        have e3' : fns (n + 4) "deed_in" [.obj A.length] (A ++ [rd ((Txt.split y " ").map .str) 0 0]) = .ok (.tup (.str w :: intsD is)) A2 := e3
        show _ = if 1 < (y :: ys).length then Res.exc (wrongAt 1 0) A2 else Res.ok (D.tup (.str w :: intsD is)) A2
        by_cases z : 1 < (y :: ys).length
        · rw [if_pos (by omega)] at e4
          have e4' : fns (n + 4) "end_lines" [.lst ls, .int 1] A2 = .exc (wrongAt 1 0) A2 := e4
          rw [if_pos z]
          simp [u_seq, u_if, u_set, u_ret, u_retN, u_exp, u_nx, u_ix, u_par, u_tup, u_for, u_raise, u_or, u_and, u_not, u_cmp, u_val, u_tt, u_aR, u_aC, u_a0, u_v0, u_v1, u_v2, u_v3, u_v4, u_v5, u_v6, u_v7, u_v8, u_K, u_e1, u_e2, u_eIf, u_eNot, u_eOr, u_eAnd, u_call, callF2, callF1, callF0, callF3, u_gen, u_r1, u_sl, u_oN, onR_ok, onR_exc, toRes, cmpM, blT_some, truR_bl, optR, ltM, leM, eq_ii, eq_ss, eq_bb, c_read_deed, e1, e2, e3', e4']
        · rw [if_neg (by omega)] at e4
          have e4' : fns (n + 4) "end_lines" [.lst ls, .int 1] A2 = .ok .non A2 := e4
          rw [if_neg z]
          simp [u_seq, u_if, u_set, u_ret, u_retN, u_exp, u_nx, u_ix, u_par, u_tup, u_for, u_raise, u_or, u_and, u_not, u_cmp, u_val, u_tt, u_aR, u_aC, u_a0, u_v0, u_v1, u_v2, u_v3, u_v4, u_v5, u_v6, u_v7, u_v8, u_K, u_e1, u_e2, u_eIf, u_eNot, u_eOr, u_eAnd, u_call, callF2, callF1, callF0, callF3, u_gen, u_r1, u_sl, u_oN, onR_ok, onR_exc, toRes, cmpM, blT_some, truR_bl, optR, ltM, leM, eq_ii, eq_ss, eq_bb, c_read_deed, e1, e2, e3', e4']
end M
end
/-! ## G83z -/
section
set_option linter.all false
set_option maxRecDepth 100000
set_option maxHeartbeats 1000000
namespace M
open PySem L2
/-! the law's own reader -/
def OkT (x : Str) : Prop := ∀ c ∈ x.cps.toList, c < 1114112
theorem sh_ch {c : Nat} (h : c < 1114112) : Sh (chD c) = true := by
  have e : Sh (chD c) = ((PyData.str ⟨#[c]⟩).canLay0 && decide ((PyData.str ⟨#[c]⟩).depth ≤ 60)) := rfl
  rw [e]
  simp [PyData.canLay0, PyData.depth, PyData.strOk, h]
theorem sign_filter (t : D) (A : AH) : ∀ (cs : List Nat) (acc : List D) (x : Option D), acc.length + cs.length ≤ sizeLine →
    lcGo true (gN 1) (tCmp tab.S .NotIn (eVar 1) (eK (.str "0123456789"))) (eVar 1) [some t, x] (cs.map chD) acc A = .ok (.lst (acc ++ (cs.filter fun c => !dig c).map chD)) A
  | [], acc, x, _ => by rw [List.map_nil, lc_nil]; simp
  | c :: cs, acc, x, hs => by
    simp only [List.length_cons] at hs
    have hi : inM tab.S (chD c) (.str "0123456789") = some (dig c) := rfl
    have ht : tCmp tab.S .NotIn (eVar 1) (eK (.str "0123456789")) [some t, some (chD c)] A = .ok (!dig c) A := by
      simp [u_seq, u_if, u_set, u_ret, u_retN, u_exp, u_nx, u_ix, u_par, u_tup, u_for, u_raise, u_or, u_and, u_not, u_cmp, u_val, u_tt, u_aR, u_aC, u_a0, u_v0, u_v1, u_v2, u_v3, u_v4, u_v5, u_v6, u_v7, u_v8, u_K, u_e1, u_e2, u_eIf, u_eNot, u_eOr, u_eAnd, u_call, callF2, callF1, callF0, callF3, u_gen, u_r1, u_sl, u_oN, onR_ok, onR_exc, toRes, cmpM, blT_some, truR_bl, optR, ltM, leM, eq_ii, eq_ss, eq_bb, hi]
    cases q : dig c
    · rw [q] at ht
      rw [List.map_cons, lc_in (L1 := [some t, some (chD c)]) rfl ht (u_v1 _ _ _ _) (by omega), sign_filter t A cs _ x (by simp; omega)]
      simp [q]
    · rw [q] at ht
      rw [List.map_cons, lc_out (L1 := [some t, some (chD c)]) rfl ht, sign_filter t A cs acc x (by omega)]
      simp [q]
theorem flt_all (l : List Nat) : ((l.filter fun c => !dig c).map chD).isEmpty = l.all dig := by
  induction l with
  | nil => rfl
  | cons c l ih => cases q : dig c <;> simp [q] at ih ⊢; exact ih
theorem law_number_at {N : Nat} (hN : 0 < N) (x : Str) (hx : x.length ≤ 1000000) (ok : OkT x) (A : AH) : fns N "_law_word_number" [.str x] A = .ok (optD (numG (.str x))) A := by
  obtain ⟨n, rfl, hn⟩ := lvl hN
  rw [g__law_word_number]
  have sb := sl_big
  have hs : x.length ≤ sizeLine := by omega
  have l : biS tab.S .len [D.str x] A = .ok (.int x.length) A := by simp [biS, biM, biV, lenD, hs, optR]
  have xl : x.length = x.cps.toList.length := by simp [Str.length]
  by_cases h0 : x = ""
  · subst h0
    simp [u_seq, u_if, u_set, u_ret, u_retN, u_exp, u_nx, u_ix, u_par, u_tup, u_for, u_raise, u_or, u_and, u_not, u_cmp, u_val, u_tt, u_aR, u_aC, u_a0, u_v0, u_v1, u_v2, u_v3, u_v4, u_v5, u_v6, u_v7, u_v8, u_K, u_e1, u_e2, u_eIf, u_eNot, u_eOr, u_eAnd, u_call, callF2, callF1, callF0, callF3, u_gen, u_r1, u_sl, u_oN, onR_ok, onR_exc, toRes, cmpM, blT_some, truR_bl, optR, ltM, leM, eq_ii, eq_ss, eq_bb, c__law_word_number, numG, optD]
    rfl
  have l1 : ¬ x.length < 1 := by
    intro q
    apply h0
    have : x.cps.toList = [] := List.length_eq_zero_iff.1 (by omega)
    cases x
    simp at this
    subst this
    rfl
  by_cases h20 : 20 < x.length
  · have z : (20 : Int) < x.length := by omega
    have g : numG (.str x) = none := by simp only [numG]; rw [if_pos (.inr h20)]
    simp [u_seq, u_if, u_set, u_ret, u_retN, u_exp, u_nx, u_ix, u_par, u_tup, u_for, u_raise, u_or, u_and, u_not, u_cmp, u_val, u_tt, u_aR, u_aC, u_a0, u_v0, u_v1, u_v2, u_v3, u_v4, u_v5, u_v6, u_v7, u_v8, u_K, u_e1, u_e2, u_eIf, u_eNot, u_eOr, u_eAnd, u_call, callF2, callF1, callF0, callF3, u_gen, u_r1, u_sl, u_oN, onR_ok, onR_exc, toRes, cmpM, blT_some, truR_bl, optR, ltM, leM, eq_ii, eq_ss, eq_bb, c__law_word_number, h0, l, z, g, optD]
  have z : ¬ (20 : Int) < x.length := by omega
  have e1 : eLc true [1] (iGen (eVar 0)) (gN 1) (tCmp tab.S .NotIn (eVar 1) (eK (.str "0123456789"))) (eVar 1) [some (.str x), none] A = .ok (.lst ((x.cps.toList.filter fun c => !dig c).map chD)) A := by
    rw [u_lc, u_gen, u_v0, Res.bind_ok, items_str, Res.bind_ok]
    show lcGo true (gN 1) _ _ (wipeL [some (.str x), none] [1]) (x.cps.toList.map chD) [] A = _
    rw [show wipeL [some (.str x), none] [1] = [some (.str x), none] from rfl, sign_filter _ A _ [] none (by show 0 + x.cps.toList.length ≤ sizeLine; omega)]
    rfl
  have e2 : eqM (.lst ((x.cps.toList.filter fun c => !dig c).map chD)) (.lst []) = some (x.cps.toList.all dig) := by
    rw [eq_nil fun d hd => by
      obtain ⟨c, hc, rfl⟩ := List.mem_map.1 hd
      exact sh_ch (ok c (List.mem_filter.1 hc).1)]
    rw [flt_all]
  obtain ⟨f, hf⟩ : ∃ f, f = (x.cps.toList.filter fun c => !dig c).map chD := ⟨_, rfl⟩
  rw [← hf] at e1 e2
  have l0 : ∀ A, lstR [] A = .ok (.lst []) A := fun A => lstR_at (by simp)
  cases ad : x.cps.toList.all dig
  · rw [ad] at e2
    have g : numG (.str x) = none := by simp only [numG]; rw [if_neg (by omega), if_neg (by rw [ad]; decide)]
    simp [u_seq, u_if, u_set, u_ret, u_retN, u_exp, u_nx, u_ix, u_par, u_tup, u_for, u_raise, u_or, u_and, u_not, u_cmp, u_val, u_tt, u_aR, u_aC, u_a0, u_v0, u_v1, u_v2, u_v3, u_v4, u_v5, u_v6, u_v7, u_v8, u_K, u_e1, u_e2, u_eIf, u_eNot, u_eOr, u_eAnd, u_call, callF2, callF1, callF0, callF3, u_gen, u_r1, u_sl, u_oN, onR_ok, onR_exc, toRes, cmpM, blT_some, truR_bl, optR, ltM, leM, eq_ii, eq_ss, eq_bb, c__law_word_number, h0, l, z, g, optD, e1, e2, l0]
  · rw [ad] at e2
    obtain ⟨c, cs, hc⟩ : ∃ c cs, x.cps.toList = c :: cs := by
      cases h : x.cps.toList with
      | nil => rw [h] at xl; simp at xl; omega
      | cons c cs => exact ⟨c, cs, rfl⟩
    have hi : ixM tab.S (.str x) (.int 0) A = .ok (chD c) A := by
      simp [ixM, ixV, hs, atI, ixN, hc, optR, chD]
    have hq : eqM (chD c) (.str "0") = some (decide (c = 48)) := by
      have : (("0" : Str)) = ⟨#[48]⟩ := by decide
      simp [chD, eqM, this]
    have dg : ∀ d ∈ x.cps.toList, 48 ≤ d ∧ d ≤ 57 := fun d hd => (dig_iff d).1 (List.all_eq_true.1 ad d hd)
    have it := intText_digits (x := x) dg (by rw [hc]; simp) (by omega)
    have hI : biS tab.S .int [D.str x] A = .ok (.int (PySem.NumText.digitsVal x.cps.toList : Nat)) A := by
      have : x.length ≤ 640 := by omega
      simp [biS, biM, biV, this, it, optR]
    have g : numG (.str x) = if c = 48 ∧ x ≠ "0" then none else some (PySem.NumText.digitsVal x.cps.toList) := by
      simp only [numG]
      rw [if_neg (by omega), if_pos ad, hc]
      simp only [List.head?_cons, Option.some.injEq]
      rw [it]
      by_cases q : c = 48 ∧ x ≠ "0"
      · rw [if_pos q, if_pos q]
      · rw [if_neg q, if_neg q, hc]; rfl
    rw [g]
    by_cases x0 : x = "0"
    · have q : ¬ (c = 48 ∧ x ≠ "0") := fun w => w.2 x0
      rw [if_neg q]
      have dx : decide (x = "0") = true := decide_eq_true x0
      clear x0
      simp [u_seq, u_if, u_set, u_ret, u_retN, u_exp, u_nx, u_ix, u_par, u_tup, u_for, u_raise, u_or, u_and, u_not, u_cmp, u_val, u_tt, u_aR, u_aC, u_a0, u_v0, u_v1, u_v2, u_v3, u_v4, u_v5, u_v6, u_v7, u_v8, u_K, u_e1, u_e2, u_eIf, u_eNot, u_eOr, u_eAnd, u_call, callF2, callF1, callF0, callF3, u_gen, u_r1, u_sl, u_oN, onR_ok, onR_exc, toRes, cmpM, blT_some, truR_bl, optR, ltM, leM, eq_ii, eq_ss, eq_bb, c__law_word_number, h0, l, z, optD, e1, e2, l0, hI, dx]
    · by_cases c0 : c = 48
      · rw [if_pos ⟨c0, x0⟩]
        rw [c0] at hi hq
        simp [u_seq, u_if, u_set, u_ret, u_retN, u_exp, u_nx, u_ix, u_par, u_tup, u_for, u_raise, u_or, u_and, u_not, u_cmp, u_val, u_tt, u_aR, u_aC, u_a0, u_v0, u_v1, u_v2, u_v3, u_v4, u_v5, u_v6, u_v7, u_v8, u_K, u_e1, u_e2, u_eIf, u_eNot, u_eOr, u_eAnd, u_call, callF2, callF1, callF0, callF3, u_gen, u_r1, u_sl, u_oN, onR_ok, onR_exc, toRes, cmpM, blT_some, truR_bl, optR, ltM, leM, eq_ii, eq_ss, eq_bb, c__law_word_number, h0, l, z, optD, e1, e2, l0, hI, x0, hi, hq, c0]
      · rw [if_neg fun w => c0 w.1]
        simp [u_seq, u_if, u_set, u_ret, u_retN, u_exp, u_nx, u_ix, u_par, u_tup, u_for, u_raise, u_or, u_and, u_not, u_cmp, u_val, u_tt, u_aR, u_aC, u_a0, u_v0, u_v1, u_v2, u_v3, u_v4, u_v5, u_v6, u_v7, u_v8, u_K, u_e1, u_e2, u_eIf, u_eNot, u_eOr, u_eAnd, u_call, callF2, callF1, callF0, callF3, u_gen, u_r1, u_sl, u_oN, onR_ok, onR_exc, toRes, cmpM, blT_some, truR_bl, optR, ltM, leM, eq_ii, eq_ss, eq_bb, c__law_word_number, h0, l, z, optD, e1, e2, l0, hI, x0, hi, hq, c0]
end M
end
/-! ## Ga83 -/
section
set_option linter.all false
set_option maxRecDepth 100000
set_option maxHeartbeats 1000000
namespace M
open PySem L2
theorem ix_q {ds : List D} {i : Nat} {d : D} (h : ds[i]? = some d) (A : AH) : ixM tab.S (.lst ds) (.int i) A = .ok d A := by
  obtain ⟨hl, rfl⟩ := List.getElem?_eq_some_iff.1 h
  exact ix_lst ds i A hl
/-- the number at a place of a line -/
def fdA (ws : List Str) (a : Nat) : Option Nat := (ws[a]?).bind fun w => numG (.str w)
theorem natsR_find (ws : List Str) : ∀ (m a : Nat), natsR ws m a = match (List.range m).find? (fun j => (fdA ws (a + j)).isNone) with
    | some j => .error (a + j)
    | none => .ok ((List.range m).map fun j => (fdA ws (a + j)).getD 0)
  | 0, a => rfl
  | m + 1, a => by
    have ih := natsR_find ws m (a + 1)
    rw [List.range_succ_eq_map, List.find?_cons]
    have e0 : fdA ws (a + 0) = fdA ws a := rfl
    cases q : ws[a]? with
    | none =>
      have f : fdA ws a = none := by simp [fdA, q]
      simp only [natsR, q, e0, f, Option.isNone_none]
      rfl
    | some w =>
      cases p : numG (.str w) with
      | none =>
        have f : fdA ws a = none := by simp [fdA, q, p]
        simp only [natsR, q, p, e0, f, Option.isNone_none]
        rfl
      | some i =>
        have f : fdA ws a = some i := by simp [fdA, q, p]
        simp only [natsR, q, p, e0, f, Option.isNone_some, ih, List.find?_map]
        have c : ((fun j => (fdA ws (a + j)).isNone) ∘ Nat.succ) = fun j => (fdA ws (a + 1 + j)).isNone := by
          funext j
          simp only [Function.comp]
          rw [show a + j.succ = a + 1 + j by omega]
        rw [c]
        cases r : (List.range m).find? (fun j => (fdA ws (a + 1 + j)).isNone) with
        | some j =>
          simp only [Option.map_some]
          rw [show a + 1 + j = a + j.succ by omega]
        | none =>
          simp only [Option.map_none, List.map_cons, List.map_map, e0, f, Option.getD_some]
          congr 2
          apply List.map_congr_left
          intro j _
          simp only [Function.comp]
          rw [show a + j.succ = a + 1 + j by omega]
theorem word_at_ge {N : Nat} (hN : 0 < N) (ws : List Str) (a : Nat) (A : AH) : fns N "_law_word_at" [.lst (ws.map .str), .int a] A = .ok (.str (ws.getD a "")) A := by
  obtain ⟨n, rfl, hn⟩ := lvl hN
  rw [g__law_word_at]
  have l := len_lst (ws.map .str) A
  rw [List.length_map] at l
  by_cases h : a < ws.length
  · have h' : (a : Int) < ws.length := by omega
    have ix := ix_q (ds := ws.map .str) (i := a) (d := .str ws[a]) (by simp [h]) A
    have g : ws.getD a "" = ws[a] := by simp [List.getD, h]
    rw [g]
    obtain ⟨ls, hls⟩ : ∃ ls, ls = ws.map D.str := ⟨_, rfl⟩
    rw [← hls] at l ix ⊢
    simp [u_seq, u_if, u_set, u_ret, u_retN, u_exp, u_nx, u_ix, u_par, u_tup, u_for, u_raise, u_or, u_and, u_not, u_cmp, u_val, u_tt, u_aR, u_aC, u_a0, u_v0, u_v1, u_v2, u_v3, u_v4, u_v5, u_v6, u_v7, u_v8, u_K, u_e1, u_e2, u_eIf, u_eNot, u_eOr, u_eAnd, u_call, callF2, callF1, callF0, callF3, u_gen, u_r1, u_sl, u_oN, onR_ok, onR_exc, toRes, cmpM, blT_some, truR_bl, optR, ltM, leM, eq_ii, eq_ss, eq_bb, c__law_word_at, l, h', ix]
  · have h' : ¬ (a : Int) < ws.length := by omega
    have g : ws.getD a "" = "" := by
      rw [List.getD_eq_getElem?_getD, List.getElem?_eq_none (by omega)]
      rfl
    rw [g]
    obtain ⟨ls, hls⟩ : ∃ ls, ls = ws.map D.str := ⟨_, rfl⟩
    rw [← hls] at l ⊢
    simp [u_seq, u_if, u_set, u_ret, u_retN, u_exp, u_nx, u_ix, u_par, u_tup, u_for, u_raise, u_or, u_and, u_not, u_cmp, u_val, u_tt, u_aR, u_aC, u_a0, u_v0, u_v1, u_v2, u_v3, u_v4, u_v5, u_v6, u_v7, u_v8, u_K, u_e1, u_e2, u_eIf, u_eNot, u_eOr, u_eAnd, u_call, callF2, callF1, callF0, callF3, u_gen, u_r1, u_sl, u_oN, onR_ok, onR_exc, toRes, cmpM, blT_some, truR_bl, optR, ltM, leM, eq_ii, eq_ss, eq_bb, c__law_word_at, l, h']
/-- the first place that does not fit -/
def badAt (S : Nat) (bs : List Bool) (i : Nat) : Bool := decide (S ≤ i) || !(bs.getD i true)
def wrongN (S : Nat) (bs : List Bool) : Option Nat := match (List.range bs.length).find? (badAt S bs) with
  | some i => some i
  | none => if bs.length < S then some bs.length else none
theorem wrong_loop (said : List D) (bs : List Bool) (A : AH) : ∀ (ns : List Nat) (x : Option D), (∀ i ∈ ns, i < bs.length) →
    (∀ i, ns.find? (badAt said.length bs) = some i → sFor (gN 2) (sIf (M.tOp .Or (tCmp tab.S .GtE (eVar 2) (M.aR (aC (eVar 0) (a0)) (biS tab.S .len))) (tNot (tVal (M.e2 (eVar 1) (eVar 2) (ixM tab.S))))) (sRet (eVar 2)) (sNx)) (ns.map fun (i : Nat) => D.int ((0 : Int) + (i : Nat))) [some (.lst said), some (.lst (bs.map .bl)), x] A = .rt (.int i) A) ∧
    (ns.find? (badAt said.length bs) = none → ∃ y, sFor (gN 2) (sIf (M.tOp .Or (tCmp tab.S .GtE (eVar 2) (M.aR (aC (eVar 0) (a0)) (biS tab.S .len))) (tNot (tVal (M.e2 (eVar 1) (eVar 2) (ixM tab.S))))) (sRet (eVar 2)) (sNx)) (ns.map fun (i : Nat) => D.int ((0 : Int) + (i : Nat))) [some (.lst said), some (.lst (bs.map .bl)), x] A = .nx [some (.lst said), some (.lst (bs.map .bl)), y] A)
  | [], x, _ => ⟨fun i h => (by cases h), fun _ => ⟨x, rfl⟩⟩
  | a :: ns, x, h => by
    have ha := h a List.mem_cons_self
    have ih := wrong_loop said bs A ns (some (.int (a : Int))) fun i hi => h i (List.mem_cons_of_mem _ hi)
    have z : (0 : Int) + (a : Nat) = (a : Int) := by omega
    have ix := ix_q (ds := bs.map .bl) (i := a) (d := .bl bs[a]) (by simp [ha]) A
    have gd : bs.getD a true = bs[a] := by simp [List.getD, ha]
    have l := len_lst said A
    have hb : sIf (M.tOp .Or (tCmp tab.S .GtE (eVar 2) (M.aR (aC (eVar 0) (a0)) (biS tab.S .len))) (tNot (tVal (M.e2 (eVar 1) (eVar 2) (ixM tab.S))))) (sRet (eVar 2)) (sNx) [some (.lst said), some (.lst (bs.map .bl)), some (.int (a : Int))] A = if badAt said.length bs a then .rt (.int a) A else .nx [some (.lst said), some (.lst (bs.map .bl)), some (.int (a : Int))] A := by
      unfold badAt
      rw [gd]
      obtain ⟨ls, hls⟩ : ∃ ls, ls = bs.map D.bl := ⟨_, rfl⟩
      rw [← hls] at ix ⊢
      by_cases p : said.length ≤ a
      · have p' : (said.length : Int) ≤ a := by omega
        simp [u_seq, u_if, u_set, u_ret, u_retN, u_exp, u_nx, u_ix, u_par, u_tup, u_for, u_raise, u_or, u_and, u_not, u_cmp, u_val, u_tt, u_aR, u_aC, u_a0, u_v0, u_v1, u_v2, u_v3, u_v4, u_v5, u_v6, u_v7, u_v8, u_K, u_e1, u_e2, u_eIf, u_eNot, u_eOr, u_eAnd, u_call, callF2, callF1, callF0, callF3, u_gen, u_r1, u_sl, u_oN, onR_ok, onR_exc, toRes, cmpM, blT_some, truR_bl, optR, ltM, leM, eq_ii, eq_ss, eq_bb, l, p, p']
      · have p' : ¬ (said.length : Int) ≤ a := by omega
        cases q : bs[a] <;> (rw [q] at ix; simp [u_seq, u_if, u_set, u_ret, u_retN, u_exp, u_nx, u_ix, u_par, u_tup, u_for, u_raise, u_or, u_and, u_not, u_cmp, u_val, u_tt, u_aR, u_aC, u_a0, u_v0, u_v1, u_v2, u_v3, u_v4, u_v5, u_v6, u_v7, u_v8, u_K, u_e1, u_e2, u_eIf, u_eNot, u_eOr, u_eAnd, u_call, callF2, callF1, callF0, callF3, u_gen, u_r1, u_sl, u_oN, onR_ok, onR_exc, toRes, cmpM, blT_some, truR_bl, optR, ltM, leM, eq_ii, eq_ss, eq_bb, l, p, p', ix])
    have st : ∀ b : MS, sFor (gN 2) b ((a :: ns).map fun (i : Nat) => D.int ((0 : Int) + (i : Nat))) [some (.lst said), some (.lst (bs.map .bl)), x] A = match b [some (.lst said), some (.lst (bs.map .bl)), some (.int ((0 : Int) + (a : Nat)))] A with
      | .nx L2 A2 => sFor (gN 2) b (ns.map fun (i : Nat) => D.int ((0 : Int) + (i : Nat))) L2 A2
      | .ct L2 A2 => sFor (gN 2) b (ns.map fun (i : Nat) => D.int ((0 : Int) + (i : Nat))) L2 A2
      | .bk L2 A2 => .nx L2 A2
      | r => r := fun b => rfl
    rw [st, z, hb, List.find?_cons]
    cases q : badAt said.length bs a
    · exact ih
    · exact ⟨fun i h => (by cases h; rfl), fun h => (by cases h)⟩
theorem wrong_at_ge {N : Nat} (hN : 0 < N) (said : List D) (bs : List Bool) (hb : bs.length < 20) (A : AH) : fns N "_law_wrong_at" [.lst said, .lst (bs.map .bl)] A = .ok (optD (wrongN said.length bs)) A := by
  obtain ⟨n, rfl, hn⟩ := lvl hN
  rw [g__law_wrong_at]
  obtain ⟨w1, w2⟩ := wrong_loop said bs A (List.range bs.length) none fun i hi => List.mem_range.1 hi
  have l := len_lst said A
  have lb := len_lst (bs.map .bl) A
  rw [List.length_map] at lb
  have hr := rng1_at hb A
  have e1 : iR1 (M.aR (aC (eVar 1) (a0)) (biS tab.S .len)) [some (.lst said), some (.lst (bs.map .bl)), none] A = .ok ((List.range bs.length).map fun (i : Nat) => D.int ((0 : Int) + (i : Nat))) A := by
    rw [u_r1, u_aR, u_aC, u_v1, Res.bind_ok, u_a0, Res.bind_ok, Res.bind_ok, lb, Res.bind_ok, hr]
    rfl
  unfold c__law_wrong_at
  rw [u_seq, u_for, e1, onR_ok]
  unfold wrongN
  cases q : (List.range bs.length).find? (badAt said.length bs) with
  | some i =>
    rw [w1 i q]
    rfl
  | none =>
    obtain ⟨y, hy⟩ := w2 q
    rw [hy]
    obtain ⟨ls, hls⟩ : ∃ ls, ls = bs.map D.bl := ⟨_, rfl⟩
    rw [← hls] at lb ⊢
    by_cases p : bs.length < said.length
    · have p' : (bs.length : Int) < said.length := by omega
      simp [u_seq, u_if, u_set, u_ret, u_retN, u_exp, u_nx, u_ix, u_par, u_tup, u_for, u_raise, u_or, u_and, u_not, u_cmp, u_val, u_tt, u_aR, u_aC, u_a0, u_v0, u_v1, u_v2, u_v3, u_v4, u_v5, u_v6, u_v7, u_v8, u_K, u_e1, u_e2, u_eIf, u_eNot, u_eOr, u_eAnd, u_call, callF2, callF1, callF0, callF3, u_gen, u_r1, u_sl, u_oN, onR_ok, onR_exc, toRes, cmpM, blT_some, truR_bl, optR, ltM, leM, eq_ii, eq_ss, eq_bb, l, lb, p, p', optD]
    · have p' : ¬ (bs.length : Int) < said.length := by omega
      simp [u_seq, u_if, u_set, u_ret, u_retN, u_exp, u_nx, u_ix, u_par, u_tup, u_for, u_raise, u_or, u_and, u_not, u_cmp, u_val, u_tt, u_aR, u_aC, u_a0, u_v0, u_v1, u_v2, u_v3, u_v4, u_v5, u_v6, u_v7, u_v8, u_K, u_e1, u_e2, u_eIf, u_eNot, u_eOr, u_eAnd, u_call, callF2, callF1, callF0, callF3, u_gen, u_r1, u_sl, u_oN, onR_ok, onR_exc, toRes, cmpM, blT_some, truR_bl, optR, ltM, leM, eq_ii, eq_ss, eq_bb, l, lb, p, p', optD]
end M
end
/-! ## Gb83 -/
section
set_option linter.all false
set_option maxRecDepth 100000
set_option maxHeartbeats 1000000
namespace M
open PySem L2
theorem in_sizes (w : Str) : inM tab.S (.str w) szD = some (words6.lookup w).isSome := by
  have e : inM tab.S (.str w) szD = some (szK.any fun k => decide (k = Sum.inr w)) := rfl
  rw [e]
  congr 1
  simp only [szK, words6, List.map_cons, List.map_nil, List.any_cons, List.any_nil, List.lookup_cons]
  by_cases h1 : w = "open"
  · subst h1; rfl
  by_cases h2 : w = "close"
  · subst h2; rfl
  by_cases h3 : w = "bar"
  · subst h3; rfl
  by_cases h4 : w = "part"
  · subst h4; rfl
  by_cases h5 : w = "wire"
  · subst h5; rfl
  by_cases h6 : w = "cut"
  · subst h6; rfl
  simp [beq_eq_false_iff_ne.mpr h1, beq_eq_false_iff_ne.mpr h2, beq_eq_false_iff_ne.mpr h3, beq_eq_false_iff_ne.mpr h4, beq_eq_false_iff_ne.mpr h5, beq_eq_false_iff_ne.mpr h6]
  exact ⟨fun q => h1 q.symm, fun q => h2 q.symm, fun q => h3 q.symm, fun q => h4 q.symm, fun q => h5 q.symm, fun q => h6 q.symm⟩
theorem fdA_getD (ws : List Str) (a : Nat) : numG (.str (ws.getD a "")) = fdA ws a := by
  unfold fdA
  rw [List.getD_eq_getElem?_getD]
  cases ws[a]? with
  | none => rfl
  | some w => rfl
theorem found_loop {n : Nat} (hn : 0 < n) (ws : List Str) (hw : ∀ w ∈ ws, w.length ≤ 1000000 ∧ OkT w) (s p q : Option D) (A : AH) : ∀ (ns : List Nat) (acc : List D) (x : Option D), acc.length + ns.length ≤ sizeLine →
    lcGo true (gN 3) tTrue (eCall (fns n) 1 "_law_word_number" [] (aC (eCall (fns n) 2 "_law_word_at" [] (aC (eVar 0) (aC (M.e2 (eK (.int 1)) (eVar 3) (opM .Add)) (a0)))) (a0))) [some (.lst (ws.map .str)), s, p, x, q] (ns.map fun (i : Nat) => D.int ((0 : Int) + (i : Nat))) acc A = .ok (.lst (acc ++ ns.map fun j => optD (fdA ws (1 + j)))) A
  | [], acc, x, _ => by rw [List.map_nil, lc_nil]; simp
  | j :: ns, acc, x, hs => by
    simp only [List.length_cons] at hs
    have z : (1 : Int) + ((0 : Int) + (j : Nat)) = ((1 + j : Nat) : Int) := by omega
    have e1 := word_at_ge hn ws (1 + j) A
    have hg : (ws.getD (1 + j) "").length ≤ 1000000 ∧ OkT (ws.getD (1 + j) "") := by
      rw [List.getD_eq_getElem?_getD]
      cases r : ws[1 + j]? with
      | none => exact ⟨by decide, fun c hc => by cases hc⟩
      | some w => exact hw w (List.mem_of_getElem? r)
    have e2 := law_number_at hn _ hg.1 hg.2 A
    rw [fdA_getD] at e2
    have hb : eCall (fns n) 1 "_law_word_number" [] (aC (eCall (fns n) 2 "_law_word_at" [] (aC (eVar 0) (aC (M.e2 (eK (.int 1)) (eVar 3) (opM .Add)) (a0)))) (a0)) [some (.lst (ws.map .str)), s, p, some (.int ((0 : Int) + (j : Nat))), q] A = .ok (optD (fdA ws (1 + j))) A := by
      have a1 : M.e2 (eK (.int 1)) (eVar 3) (opM .Add) [some (.lst (ws.map .str)), s, p, some (.int ((0 : Int) + (j : Nat))), q] A = .ok (.int ((1 + j : Nat) : Int)) A := by
        rw [u_e2, u_K, Res.bind_ok, u_v3, Res.bind_ok, op_add, z]
      rw [u_call, u_aC, u_call, u_aC, u_v0, Res.bind_ok, u_aC, a1, Res.bind_ok, u_a0, Res.bind_ok, Res.bind_ok, Res.bind_ok]
      show ((fns n "_law_word_at" [.lst (ws.map .str), .int ((1 + j : Nat) : Int)] A).bind _).bind _ = _
      rw [e1, Res.bind_ok, u_a0, Res.bind_ok, Res.bind_ok]
      exact e2
    rw [List.map_cons, lc_in (L1 := [some (.lst (ws.map .str)), s, p, some (.int ((0 : Int) + (j : Nat))), q]) rfl rfl hb (by omega), found_loop hn ws hw s p q A ns _ x (by simp; omega)]
    simp
theorem lets_loop (a b c d : Option D) (A : AH) : ∀ (fs : List (Option Nat)) (acc : List D) (x : Option D), acc.length + fs.length ≤ sizeLine →
    lcGo true (gN 4) tTrue (M.e2 (eVar 4) (eK .non) (cmpO tab.S .IsNot)) [a, b, c, d, x] (fs.map optD) acc A = .ok (.lst (acc ++ (fs.map Option.isSome).map .bl)) A
  | [], acc, x, _ => by rw [List.map_nil, lc_nil]; simp
  | f :: fs, acc, x, hs => by
    simp only [List.length_cons] at hs
    have hb : M.e2 (eVar 4) (eK .non) (cmpO tab.S .IsNot) [a, b, c, d, some (optD f)] A = .ok (.bl f.isSome) A := by
      cases f <;> rfl
    rw [List.map_cons, lc_in (L1 := [a, b, c, d, some (optD f)]) rfl rfl hb (by omega), lets_loop a b c d A fs _ x (by simp; omega)]
    simp
def wordsD (ws : List Str) : D := match ws with
  | [] => .non
  | w :: _ => match words6.lookup w with
    | none => .tup [.int 0, .tup []]
    | some m => .tup [optD (wrongN ws.length (true :: (List.range m).map fun j => (fdA ws (1 + j)).isSome)), .tup (.str w :: (List.range m).map fun j => optD (fdA ws (1 + j)))]
theorem read_words_ge {N : Nat} (hN : 1 < N) (w : Str) (ws : List Str) (hw : ∀ y ∈ w :: ws, y.length ≤ 1000000 ∧ OkT y) (A : AH) : fns N "_law_read_deed_words" [.lst ((w :: ws).map .str)] A = .ok (wordsD (w :: ws)) A := by
  obtain ⟨n, rfl, hn⟩ := lvl hN
  rw [g__law_read_deed_words]
  have e1 := sizes_at (N := n) (by omega) A
  have i0 : ixM tab.S (.lst ((w :: ws).map .str)) (.int 0) A = .ok (.str w) A := ix0_lst _ _ _
  have t2 : ∀ x y A, tupR [x, y] A = .ok (.tup [x, y]) A := fun x y A => tupR_at (sz_small (by simp))
  have t0 : ∀ A, tupR [] A = .ok (.tup []) A := fun A => tupR_at (by simp)
  have t1 : ∀ x A, tupR [x] A = .ok (.tup [x]) A := fun x A => tupR_at (sz_small (by simp))
  have l1 : ∀ x A, lstR [x] A = .ok (.lst [x]) A := fun x A => lstR_at (sz_small (by simp))
  cases q : words6.lookup w with
  | none =>
    have q2 := in_sizes w
    rw [q] at q2
    have r : wordsD (w :: ws) = .tup [.int 0, .tup []] := by simp only [wordsD, q]
    rw [r]
    obtain ⟨ls, hls⟩ : ∃ ls, ls = (w :: ws).map D.str := ⟨_, rfl⟩
    rw [← hls] at i0 ⊢
    simp [u_seq, u_if, u_set, u_ret, u_retN, u_exp, u_nx, u_ix, u_par, u_tup, u_for, u_raise, u_or, u_and, u_not, u_cmp, u_val, u_tt, u_aR, u_aC, u_a0, u_v0, u_v1, u_v2, u_v3, u_v4, u_v5, u_v6, u_v7, u_v8, u_K, u_e1, u_e2, u_eIf, u_eNot, u_eOr, u_eAnd, u_call, callF2, callF1, callF0, callF3, u_gen, u_r1, u_sl, u_oN, onR_ok, onR_exc, toRes, cmpM, blT_some, truR_bl, optR, ltM, leM, eq_ii, eq_ss, eq_bb, c__law_read_deed_words, e1, i0, q2, t0, t2]
  | some m =>
    have q2 := in_sizes w
    rw [q] at q2
    have m3 := (word_len q).2
    have sx := words_ix w m q A
    have r : wordsD (w :: ws) = .tup [optD (wrongN (w :: ws).length (true :: (List.range m).map fun j => (fdA (w :: ws) (1 + j)).isSome)), .tup (.str w :: (List.range m).map fun j => optD (fdA (w :: ws) (1 + j)))] := by simp only [wordsD, q]
    rw [r]
    have hr := rng1_at (show m < 20 by omega) A
    have e2 : eLc true [3] (iR1 (M.e2 (eVar 1) (M.e2 (eVar 0) (eK (.int 0)) (ixM tab.S)) (ixM tab.S))) (gN 3) (tTrue) (eCall (fns n) 1 "_law_word_number" [] (aC (eCall (fns n) 2 "_law_word_at" [] (aC (eVar 0) (aC (M.e2 (eK (.int 1)) (eVar 3) (opM .Add)) (a0)))) (a0))) [some (.lst ((w :: ws).map .str)), some szD, none, none, none] A = .ok (.lst ((List.range m).map fun j => optD (fdA (w :: ws) (1 + j)))) A := by
      rw [u_lc, u_r1, u_e2, u_v1, Res.bind_ok, u_e2, u_v0, Res.bind_ok, u_K, Res.bind_ok, i0, Res.bind_ok, sx, Res.bind_ok, hr, Res.bind_ok]
      have := found_loop (n := n) (by omega) (w :: ws) hw (some szD) none none A (List.range m) [] none (by simp; exact sz_small (by omega))
      exact this
    have e3 : eLc true [4] (iGen (eVar 2)) (gN 4) (tTrue) (M.e2 (eVar 4) (eK .non) (cmpO tab.S .IsNot)) [some (.lst ((w :: ws).map .str)), some szD, some (.lst ((List.range m).map fun j => optD (fdA (w :: ws) (1 + j)))), none, none] A = .ok (.lst (((List.range m).map fun j => (fdA (w :: ws) (1 + j)).isSome).map .bl)) A := by
      rw [u_lc, u_gen, u_v2, Res.bind_ok, items_lst, Res.bind_ok]
      have := lets_loop (some (.lst ((w :: ws).map .str))) (some szD) (some (.lst ((List.range m).map fun j => optD (fdA (w :: ws) (1 + j))))) none A ((List.range m).map fun j => fdA (w :: ws) (1 + j)) [] none (by simp; exact sz_small (by omega))
      have hm : ((List.range m).map fun j => fdA (w :: ws) (1 + j)).map optD = (List.range m).map fun j => optD (fdA (w :: ws) (1 + j)) := by rw [List.map_map]; rfl
      have hs : ((List.range m).map fun j => fdA (w :: ws) (1 + j)).map Option.isSome = (List.range m).map fun j => (fdA (w :: ws) (1 + j)).isSome := by rw [List.map_map]; rfl
      rw [hm, hs] at this
      exact this
    have e4 : fns n "_law_wrong_at" [.lst ((w :: ws).map .str), .lst (.bl true :: ((List.range m).map fun j => (fdA (w :: ws) (1 + j)).isSome).map .bl)] A = .ok (optD (wrongN (w :: ws).length (true :: (List.range m).map fun j => (fdA (w :: ws) (1 + j)).isSome))) A := by
      have := wrong_at_ge (N := n) (by omega) ((w :: ws).map .str) (true :: (List.range m).map fun j => (fdA (w :: ws) (1 + j)).isSome) (by simp; omega) A
      rw [List.length_map] at this
      exact this
    generalize hW : optD (wrongN (w :: ws).length (true :: (List.range m).map fun j => (fdA (w :: ws) (1 + j)).isSome)) = W at *
    have o1 : opM .Add (.lst [.bl true]) (.lst (((List.range m).map fun j => (fdA (w :: ws) (1 + j)).isSome).map .bl)) A = .ok (.lst (.bl true :: ((List.range m).map fun j => (fdA (w :: ws) (1 + j)).isSome).map .bl)) A := op_lst (by simp; exact sz_small (by omega))
    have o2 : ∀ xs : List D, xs.length = m → opM .Add (.tup [.str w]) (.tup xs) A = .ok (.tup (.str w :: xs)) A := fun xs hx => op_tup (by simp [hx]; exact sz_small (by omega))
    have o3 := o2 ((List.range m).map fun j => optD (fdA (w :: ws) (1 + j))) (by simp)
    have tl : ∀ xs : List D, biS tab.S .tuple [.lst xs] A = .ok (.tup xs) A := fun xs => rfl
    generalize hF : ((List.range m).map fun j => optD (fdA (w :: ws) (1 + j))) = F at *
    generalize hB : (((List.range m).map fun j => (fdA (w :: ws) (1 + j)).isSome).map D.bl) = B at *
    generalize hL : (w :: ws).map D.str = ls at *
    simp [u_seq, u_if, u_set, u_ret, u_retN, u_exp, u_nx, u_ix, u_par, u_tup, u_for, u_raise, u_or, u_and, u_not, u_cmp, u_val, u_tt, u_aR, u_aC, u_a0, u_v0, u_v1, u_v2, u_v3, u_v4, u_v5, u_v6, u_v7, u_v8, u_K, u_e1, u_e2, u_eIf, u_eNot, u_eOr, u_eAnd, u_call, callF2, callF1, callF0, callF3, u_gen, u_r1, u_sl, u_oN, onR_ok, onR_exc, toRes, cmpM, blT_some, truR_bl, optR, ltM, leM, eq_ii, eq_ss, eq_bb, c__law_read_deed_words, e1, i0, q2, t0, t1, t2, l1, e2, e3, e4, o1, o3, tl]
end M
end
/-! ## Gc83 -/
section
set_option linter.all false
set_option maxRecDepth 100000
set_option maxHeartbeats 1000000
namespace M
open PySem L2
theorem find_congr {α : Type} {p q : α → Bool} : ∀ {l : List α}, (∀ x ∈ l, p x = q x) → l.find? p = l.find? q
  | [], _ => rfl
  | x :: l, h => by
    rw [List.find?_cons, List.find?_cons, h x List.mem_cons_self, find_congr fun y hy => h y (List.mem_cons_of_mem _ hy)]
theorem wrong_eq (ws : List Str) (m : Nat) (h : 1 ≤ ws.length) : wrongN ws.length (true :: (List.range m).map fun j => (fdA ws (1 + j)).isSome) = match (List.range m).find? (fun j => (fdA ws (1 + j)).isNone) with
    | some j => some (1 + j)
    | none => if m + 1 < ws.length then some (m + 1) else none := by
  unfold wrongN
  have l : (true :: (List.range m).map fun j => (fdA ws (1 + j)).isSome).length = m + 1 := by simp
  rw [l, List.range_succ_eq_map, List.find?_cons]
  have b0 : badAt ws.length (true :: (List.range m).map fun j => (fdA ws (1 + j)).isSome) 0 = false := by
    unfold badAt
    simp
    intro q
    rw [q] at h
    simp at h
  rw [b0, List.find?_map]
  have e : (List.range m).find? (badAt ws.length (true :: (List.range m).map fun j => (fdA ws (1 + j)).isSome) ∘ Nat.succ) = (List.range m).find? (fun j => (fdA ws (1 + j)).isNone) := by
    apply find_congr
    intro j hj
    have hj' := List.mem_range.1 hj
    simp only [Function.comp, badAt]
    have g : (true :: (List.range m).map fun j => (fdA ws (1 + j)).isSome).getD j.succ true = (fdA ws (1 + j)).isSome := by
      simp [List.getD, hj']
    rw [g]
    cases q : fdA ws (1 + j) with
    | none => simp
    | some i =>
      have : 1 + j < ws.length := by
        unfold fdA at q
        cases r : ws[1 + j]? with
        | none => rw [r] at q; cases q
        | some w => exact (List.getElem?_eq_some_iff.1 r).1
      have z : ¬ ws.length ≤ j.succ := by omega
      simp [z]
  rw [e]
  cases (List.range m).find? (fun j => (fdA ws (1 + j)).isNone) with
  | none => rfl
  | some j =>
    simp only [Option.map_some]
    congr 1
    omega
theorem wordsD_R (w : Str) (ws : List Str) : (∀ b, deedR (w :: ws) = .error b → ∃ X, wordsD (w :: ws) = .tup [.int b, X]) ∧ (∀ w' is, deedR (w :: ws) = .ok (w', is) → wordsD (w :: ws) = .tup [.non, .tup (.str w' :: intsD is)]) := by
  cases q : words6.lookup w with
  | none =>
    refine ⟨fun b h => ?_, fun w' is h => ?_⟩
    · simp only [deedR, q] at h
      cases h
      exact ⟨_, by simp only [wordsD, q]; rfl⟩
    · simp only [deedR, q] at h
      cases h
  | some m =>
    have we := wrong_eq (w :: ws) m (by simp)
    have nf := natsR_find (w :: ws) m 1
    have wd : wordsD (w :: ws) = .tup [optD (wrongN (w :: ws).length (true :: (List.range m).map fun j => (fdA (w :: ws) (1 + j)).isSome)), .tup (.str w :: (List.range m).map fun j => optD (fdA (w :: ws) (1 + j)))] := by simp only [wordsD, q]
    rw [wd, we]
    cases r : (List.range m).find? (fun j => (fdA (w :: ws) (1 + j)).isNone) with
    | some j =>
      rw [r] at nf
      have dr : deedR (w :: ws) = .error (1 + j) := by simp only [deedR, q, nf]
      rw [dr]
      exact ⟨fun b h => (by cases h; exact ⟨_, rfl⟩), fun w' is h => (by cases h)⟩
    | none =>
      rw [r] at nf
      by_cases z : m + 1 < (w :: ws).length
      · have dr : deedR (w :: ws) = .error (m + 1) := by simp only [deedR, q, nf]; rw [if_pos z]
        rw [dr]
        simp only []
        rw [if_pos z]
        exact ⟨fun b h => (by cases h; exact ⟨_, rfl⟩), fun w' is h => (by cases h)⟩
      · have dr : deedR (w :: ws) = .ok (w, (List.range m).map fun j => (fdA (w :: ws) (1 + j)).getD 0) := by simp only [deedR, q, nf]; rw [if_neg z]
        rw [dr]
        simp only []
        rw [if_neg z]
        refine ⟨fun b h => (by cases h), fun w' is h => ?_⟩
        cases h
        have e : (List.range m).map (fun j => optD (fdA (w :: ws) (1 + j))) = intsD ((List.range m).map fun j => (fdA (w :: ws) (1 + j)).getD 0) := by
          unfold intsD
          rw [List.map_map]
          apply List.map_congr_left
          intro j hj
          have := List.find?_eq_none.1 r j hj
          cases f : fdA (w :: ws) (1 + j) with
          | none => rw [f] at this; exact absurd rfl this
          | some i => simp [Function.comp, f, optD]
        rw [e]
        rfl
/-- what the law owes of a text -/
def lawR (x : Str) : D :=
  if 400000 < x.length then .tup [.str "TooMany", .int x.length]
  else match textR x with
    | .error b => .tup [.str "WrongLine", .tup [.int 0, .int b]]
    | .ok (w, is) => if 1 < (Txt.split x "\n").length then .tup [.str "WrongLine", .tup [.int 1, .int 0]] else .tup [.str "told", .tup (.str w :: intsD is)]
theorem heard_read (x : Str) (A : AH) : heardR tab (readD x A) = .ok (lawR x) A := by
  unfold readD lawR
  by_cases big : 400000 < x.length
  · rw [if_pos big, if_pos big]
    rfl
  · rw [if_neg big, if_neg big]
    cases textR x with
    | error b => rfl
    | ok p =>
      obtain ⟨w, is⟩ := p
      by_cases z : 1 < (Txt.split x "\n").length
      · show heardR tab (if 1 < (Txt.split x "\n").length then .exc (wrongAt 1 0) A else .ok (.tup (.str w :: intsD is)) A) = .ok (if 1 < (Txt.split x "\n").length then .tup [.str "WrongLine", .tup [.int 1, .int 0]] else .tup [.str "told", .tup (.str w :: intsD is)]) A
        rw [if_pos z, if_pos z]
        rfl
      · show heardR tab (if 1 < (Txt.split x "\n").length then .exc (wrongAt 1 0) A else .ok (.tup (.str w :: intsD is)) A) = .ok (if 1 < (Txt.split x "\n").length then .tup [.str "WrongLine", .tup [.int 1, .int 0]] else .tup [.str "told", .tup (.str w :: intsD is)]) A
        rw [if_neg z, if_neg z]
        rfl
theorem split_gen {Φ : Fns} {L : M.Loc} {A A1 : AH} {a : ME} {x y : Str} (h : x.length + 2 ≤ sizeLine) (hy : (y.length == 0) = false) (ho : a L A = .ok (.str x) A1) : eMt tab Φ "split" 1 a (aC (eK (.str y)) (a0)) L A = .ok (.lst ((Txt.split x y).map .str)) A1 := by
  have e : eMt tab Φ "split" 1 a (aC (eK (.str y)) (a0)) L A = (a L A).bind fun d A1 => match d with
    | .obj k => (match A1[k]? with
      | some (.ins C fs) => (match methGo tab "split" C fs 1 with
        | some (dvs, i) => ((aC (eK (.str y)) (a0)) L A1).bind fun ds A2 => callF i.np (Φ i.key) (.obj k :: (ds ++ dvs)) A2
        | none => .stuck)
      | _ => .stuck)
    | _ => (match mNames.lookup ("split" : Str) with
      | some b => if rcv b d then ((aC (eK (.str y)) (a0)) L A1).bind fun ds A2 => mtM b d ds A2 else .stuck
      | none => .stuck) := rfl
  rw [e, ho, Res.bind_ok]
  show mtM .split (.str x) [.str y] A1 = _
  unfold mtM
  have v : mtV A1 .split (.str x) [.str y] = if (y.length == 0) = false ∧ x.length + 2 ≤ sizeLine then some (.lst ((Txt.split x y).map .str)) else none := rfl
  rw [v, if_pos ⟨hy, h⟩]
  rfl
theorem law_read_at {N : Nat} (hN : 2 < N) (x : Str) (hx : x.length ≤ 900000) (ok : OkT x) (A : AH) : fns N "_law_read_deed" [.str x] A = .ok (lawR x) A := by
  obtain ⟨n, rfl, hn⟩ := lvl hN
  rw [g__law_read_deed]
  have sb := sl_big
  have hs : x.length ≤ sizeLine := by omega
  have l : ∀ A, biS tab.S .len [D.str x] A = .ok (.int x.length) A := fun A => by simp [biS, biM, biV, lenD, hs, optR]
  have t2 : ∀ x y A, tupR [x, y] A = .ok (.tup [x, y]) A := fun x y A => tupR_at (sz_small (by simp))
  have e1 : fns n "_law_text_wrong" [.str x] A = .ok (if 400000 < x.length then .tup [.str "TooMany", .int x.length] else .non) A := by
    obtain ⟨n', rfl, _⟩ := lvl (show 0 < n by omega)
    rw [g__law_text_wrong]
    by_cases z : 400000 < x.length
    · have z' : (400000 : Int) < x.length := by omega
      rw [if_pos z]
      simp [u_seq, u_if, u_set, u_ret, u_retN, u_exp, u_nx, u_ix, u_par, u_tup, u_for, u_raise, u_or, u_and, u_not, u_cmp, u_val, u_tt, u_aR, u_aC, u_a0, u_v0, u_v1, u_v2, u_v3, u_v4, u_v5, u_v6, u_v7, u_v8, u_K, u_e1, u_e2, u_eIf, u_eNot, u_eOr, u_eAnd, u_call, callF2, callF1, callF0, callF3, u_gen, u_r1, u_sl, u_oN, onR_ok, onR_exc, toRes, cmpM, blT_some, truR_bl, optR, ltM, leM, eq_ii, eq_ss, eq_bb, c__law_text_wrong, isi_str (.str x) rfl A, isStrB, l, z', t2]
    · have z' : ¬ (400000 : Int) < x.length := by omega
      rw [if_neg z]
      simp [u_seq, u_if, u_set, u_ret, u_retN, u_exp, u_nx, u_ix, u_par, u_tup, u_for, u_raise, u_or, u_and, u_not, u_cmp, u_val, u_tt, u_aR, u_aC, u_a0, u_v0, u_v1, u_v2, u_v3, u_v4, u_v5, u_v6, u_v7, u_v8, u_K, u_e1, u_e2, u_eIf, u_eNot, u_eOr, u_eAnd, u_call, callF2, callF1, callF0, callF3, u_gen, u_r1, u_sl, u_oN, onR_ok, onR_exc, toRes, cmpM, blT_some, truR_bl, optR, ltM, leM, eq_ii, eq_ss, eq_bb, c__law_text_wrong, isi_str (.str x) rfl A, isStrB, l, z', t2]
  have nt : ∀ ds : List D, isM (.tup ds) .non = some false := fun _ => rfl
  have nn : isM .non .non = some true := rfl
  have ni : ∀ i : Int, isM (.int i) .non = some false := fun _ => rfl
  unfold lawR
  by_cases big : 400000 < x.length
  · rw [if_pos big] at e1 ⊢
    simp [u_seq, u_if, u_set, u_ret, u_retN, u_exp, u_nx, u_ix, u_par, u_tup, u_for, u_raise, u_or, u_and, u_not, u_cmp, u_val, u_tt, u_aR, u_aC, u_a0, u_v0, u_v1, u_v2, u_v3, u_v4, u_v5, u_v6, u_v7, u_v8, u_K, u_e1, u_e2, u_eIf, u_eNot, u_eOr, u_eAnd, u_call, callF2, callF1, callF0, callF3, u_gen, u_r1, u_sl, u_oN, onR_ok, onR_exc, toRes, cmpM, blT_some, truR_bl, optR, ltM, leM, eq_ii, eq_ss, eq_bb, c__law_read_deed, e1, nt]
  · rw [if_neg big] at e1 ⊢
    obtain ⟨ln, lp⟩ := split_parts x "\n" nl_ok.1 nl_ok.2
    have lc := split_cnt x "\n" nl_ok.1 nl_ok.2
    have s1 : ∀ y z w, eMt tab (fns n) "split" 1 (eVar 0) (aC (eK (.str "\n")) (a0)) [some (.str x), y, z, w] A = .ok (.lst ((Txt.split x "\n").map .str)) A := fun y z w => split_gen (by omega) (by decide) (u_v0 _ _ _)
    unfold textR
    cases hy : Txt.split x "\n" with
    | nil => exact absurd hy ln
    | cons y ys =>
      rw [hy] at lp lc s1
      have yl := (lp y List.mem_cons_self).1
      have yo : OkT y := fun c hc => ok c ((lp y List.mem_cons_self).2 c hc)
      obtain ⟨wn, wp⟩ := split_parts y " " sp_ok.1 sp_ok.2
      simp only [List.headD_cons]
      cases hw : Txt.split y " " with
      | nil => exact absurd hw wn
      | cons w ws =>
        rw [hw] at wp
        have rw' := read_words_ge (N := n) (by omega) w ws (fun z hz => ⟨by have := (wp z hz).1; omega, fun c hc => yo c ((wp z hz).2 c hc)⟩) A
        have s2 : ∀ a b c, eMt tab (fns n) "split" 1 (M.e2 (eVar 2) (eK (.int 0)) (ixM tab.S)) (aC (eK (.str " ")) (a0)) [a, b, some (.lst ((y :: ys).map .str)), c] A = .ok (.lst ((w :: ws).map .str)) A := fun a b c => by
          rw [← hw]
          exact split_gen (by omega) (by decide) (by rw [u_e2, u_v2, Res.bind_ok, u_K, Res.bind_ok]; exact ix0_lst _ _ _)
        obtain ⟨R1, R2⟩ := wordsD_R w ws
        have ll := len_lst ((y :: ys).map .str) A
        rw [List.length_map] at ll
        generalize hL : (y :: ys).map D.str = ls at *
        generalize hW : (w :: ws).map D.str = lw at *
        cases r : deedR (w :: ws) with
        | error b =>
          obtain ⟨X, hX⟩ := R1 b r
          rw [hX] at rw'
          simp [u_seq, u_if, u_set, u_ret, u_retN, u_exp, u_nx, u_ix, u_par, u_tup, u_for, u_raise, u_or, u_and, u_not, u_cmp, u_val, u_tt, u_aR, u_aC, u_a0, u_v0, u_v1, u_v2, u_v3, u_v4, u_v5, u_v6, u_v7, u_v8, u_K, u_e1, u_e2, u_eIf, u_eNot, u_eOr, u_eAnd, u_call, callF2, callF1, callF0, callF3, u_gen, u_r1, u_sl, u_oN, onR_ok, onR_exc, toRes, cmpM, blT_some, truR_bl, optR, ltM, leM, eq_ii, eq_ss, eq_bb, c__law_read_deed, e1, nn, s1, s2, rw', gT, gNs, ni, t2]
        | ok p =>
          obtain ⟨w', is⟩ := p
          rw [R2 w' is r] at rw'
          show _ = Res.ok (if 1 < (y :: ys).length then D.tup [.str "WrongLine", .tup [.int 1, .int 0]] else D.tup [.str "told", .tup (.str w' :: intsD is)]) A
          by_cases z : 1 < (y :: ys).length
          · have z' : ¬ (((y :: ys).length : Int) = 1) := by omega
            rw [if_pos z]
            generalize hq : ((y :: ys).length : Int) = q at *
            simp [u_seq, u_if, u_set, u_ret, u_retN, u_exp, u_nx, u_ix, u_par, u_tup, u_for, u_raise, u_or, u_and, u_not, u_cmp, u_val, u_tt, u_aR, u_aC, u_a0, u_v0, u_v1, u_v2, u_v3, u_v4, u_v5, u_v6, u_v7, u_v8, u_K, u_e1, u_e2, u_eIf, u_eNot, u_eOr, u_eAnd, u_call, callF2, callF1, callF0, callF3, u_gen, u_r1, u_sl, u_oN, onR_ok, onR_exc, toRes, cmpM, blT_some, truR_bl, optR, ltM, leM, eq_ii, eq_ss, eq_bb, c__law_read_deed, e1, nn, s1, s2, rw', gT, gNs, t2, ll, z']
          · have z' : ((y :: ys).length : Int) = 1 := by simp only [List.length_cons] at z ⊢; omega
            rw [if_neg z]
            rw [z'] at ll
            simp [u_seq, u_if, u_set, u_ret, u_retN, u_exp, u_nx, u_ix, u_par, u_tup, u_for, u_raise, u_or, u_and, u_not, u_cmp, u_val, u_tt, u_aR, u_aC, u_a0, u_v0, u_v1, u_v2, u_v3, u_v4, u_v5, u_v6, u_v7, u_v8, u_K, u_e1, u_e2, u_eIf, u_eNot, u_eOr, u_eAnd, u_call, callF2, callF1, callF0, callF3, u_gen, u_r1, u_sl, u_oN, onR_ok, onR_exc, toRes, cmpM, blT_some, truR_bl, optR, ltM, leM, eq_ii, eq_ss, eq_bb, c__law_read_deed, e1, nn, s1, s2, rw', gT, gNs, t2, ll]
end M
end
/-! ## Gd83 -/
section
set_option linter.all false
set_option maxRecDepth 100000
set_option maxHeartbeats 1000000
namespace M
open PySem L2
/-! _law_same of a thing with itself -/
def PD : Nat → D → Bool
  | _, .non => true
  | _, .bl _ => true
  | _, .int _ => true
  | _, .str _ => true
  | k + 1, .tup ds => decide (ds.length < 20) && ds.all (PD k)
  | _, _ => false
theorem pd_itm {k : Nat} {d : D} (h : PD k d = true) : Itm d = true := by
  cases d <;> first | rfl | (cases k <;> cases h)
theorem sIf_nx {c : MT} {a : MS} {L : M.Loc} {A A1 : AH} (h : c L A = .ok false A1) : sIf c a sNx L A = .nx L A1 := by rw [u_if, h]; rfl
theorem same_loop {n k : Nat} (ih : ∀ d A, PD k d = true → fns n "_law_same" [d, d] A = .ok (.bl true) A) (ds : List D) (hd : ds.all (PD k) = true) (A : AH) : ∀ (ns : List Nat) (x : Option D), (∀ i ∈ ns, i < ds.length) →
    ∃ y, sFor (gN 2) (sIf (tNot (tVal (eCall (fns n) 2 "_law_same" [] (aC (M.e2 (eVar 0) (eVar 2) (ixM tab.S)) (aC (M.e2 (eVar 1) (eVar 2) (ixM tab.S)) (a0)))))) (sRet (eK (.bl false))) (sNx)) (ns.map fun (i : Nat) => D.int ((0 : Int) + (i : Nat))) [some (.tup ds), some (.tup ds), x] A = .nx [some (.tup ds), some (.tup ds), y] A
  | [], x, _ => ⟨x, rfl⟩
  | a :: ns, x, h => by
    have ha := h a List.mem_cons_self
    obtain ⟨y, hy⟩ := same_loop ih ds hd A ns (some (.int (a : Int))) fun i hi => h i (List.mem_cons_of_mem _ hi)
    refine ⟨y, ?_⟩
    have z : (0 : Int) + (a : Nat) = (a : Int) := by omega
    have ix := ix_tup ds a A ha
    have sm := ih ds[a] A (List.all_eq_true.1 hd _ (List.getElem_mem ha))
    have hb : sIf (tNot (tVal (eCall (fns n) 2 "_law_same" [] (aC (M.e2 (eVar 0) (eVar 2) (ixM tab.S)) (aC (M.e2 (eVar 1) (eVar 2) (ixM tab.S)) (a0)))))) (sRet (eK (.bl false))) (sNx) [some (.tup ds), some (.tup ds), some (.int (a : Int))] A = .nx [some (.tup ds), some (.tup ds), some (.int (a : Int))] A := by
      generalize ds[a] = e at *
      simp [u_seq, u_if, u_set, u_ret, u_retN, u_exp, u_nx, u_ix, u_par, u_tup, u_for, u_raise, u_or, u_and, u_not, u_cmp, u_val, u_tt, u_aR, u_aC, u_a0, u_v0, u_v1, u_v2, u_v3, u_v4, u_v5, u_v6, u_v7, u_v8, u_K, u_e1, u_e2, u_eIf, u_eNot, u_eOr, u_eAnd, u_call, callF2, callF1, callF0, callF3, u_gen, u_r1, u_sl, u_oN, onR_ok, onR_exc, toRes, cmpM, blT_some, truR_bl, optR, ltM, leM, eq_ii, eq_ss, eq_bb, ix, sm]
    have st : ∀ b : MS, sFor (gN 2) b ((a :: ns).map fun (i : Nat) => D.int ((0 : Int) + (i : Nat))) [some (.tup ds), some (.tup ds), x] A = match b [some (.tup ds), some (.tup ds), some (.int ((0 : Int) + (a : Nat)))] A with
      | .nx L2 A2 => sFor (gN 2) b (ns.map fun (i : Nat) => D.int ((0 : Int) + (i : Nat))) L2 A2
      | .ct L2 A2 => sFor (gN 2) b (ns.map fun (i : Nat) => D.int ((0 : Int) + (i : Nat))) L2 A2
      | .bk L2 A2 => .nx L2 A2
      | r => r := fun b => rfl
    rw [st, z, hb]
    exact hy
theorem same_ge : ∀ (k : Nat) {N : Nat} (hN : k + 1 < N) (d : D) (A : AH), PD k d = true → fns N "_law_same" [d, d] A = .ok (.bl true) A
  | k, N, hN, d, A, h => by
    obtain ⟨n, rfl, hn⟩ := lvl hN
    rw [g__law_same]
    have hi := pd_itm h
    have b1 := isi_bool d hi A
    have b2 := isi_int d hi A
    have b3 := isi_str d hi A
    have b4 := isi_tup d hi A
    have b5 := isi_list d hi A
    have lw := law_whole (N := n) (by omega) d hi A
    have n1 : isM .non .non = some true := rfl
    cases d with
    | non => simp [u_seq, u_if, u_set, u_ret, u_retN, u_exp, u_nx, u_ix, u_par, u_tup, u_for, u_raise, u_or, u_and, u_not, u_cmp, u_val, u_tt, u_aR, u_aC, u_a0, u_v0, u_v1, u_v2, u_v3, u_v4, u_v5, u_v6, u_v7, u_v8, u_K, u_e1, u_e2, u_eIf, u_eNot, u_eOr, u_eAnd, u_call, callF2, callF1, callF0, callF3, u_gen, u_r1, u_sl, u_oN, onR_ok, onR_exc, toRes, cmpM, blT_some, truR_bl, optR, ltM, leM, eq_ii, eq_ss, eq_bb, c__law_same, n1, cmpO, blR]
    | bl b =>
      have n2 : isM (.bl b) .non = some false := rfl
      cases b <;> simp [u_seq, u_if, u_set, u_ret, u_retN, u_exp, u_nx, u_ix, u_par, u_tup, u_for, u_raise, u_or, u_and, u_not, u_cmp, u_val, u_tt, u_aR, u_aC, u_a0, u_v0, u_v1, u_v2, u_v3, u_v4, u_v5, u_v6, u_v7, u_v8, u_K, u_e1, u_e2, u_eIf, u_eNot, u_eOr, u_eAnd, u_call, callF2, callF1, callF0, callF3, u_gen, u_r1, u_sl, u_oN, onR_ok, onR_exc, toRes, cmpM, blT_some, truR_bl, optR, ltM, leM, eq_ii, eq_ss, eq_bb, c__law_same, n2, b1, isBlB, cmpO, blR, isM, isNon]
    | int i =>
      have n2 : isM (.int i) .non = some false := rfl
      simp [u_seq, u_if, u_set, u_ret, u_retN, u_exp, u_nx, u_ix, u_par, u_tup, u_for, u_raise, u_or, u_and, u_not, u_cmp, u_val, u_tt, u_aR, u_aC, u_a0, u_v0, u_v1, u_v2, u_v3, u_v4, u_v5, u_v6, u_v7, u_v8, u_K, u_e1, u_e2, u_eIf, u_eNot, u_eOr, u_eAnd, u_call, callF2, callF1, callF0, callF3, u_gen, u_r1, u_sl, u_oN, onR_ok, onR_exc, toRes, cmpM, blT_some, truR_bl, optR, ltM, leM, eq_ii, eq_ss, eq_bb, c__law_same, n2, b1, b2, lw, isIntB, isBlB, cmpO, blR]
    | str x =>
      have n2 : isM (.str x) .non = some false := rfl
      simp [u_seq, u_if, u_set, u_ret, u_retN, u_exp, u_nx, u_ix, u_par, u_tup, u_for, u_raise, u_or, u_and, u_not, u_cmp, u_val, u_tt, u_aR, u_aC, u_a0, u_v0, u_v1, u_v2, u_v3, u_v4, u_v5, u_v6, u_v7, u_v8, u_K, u_e1, u_e2, u_eIf, u_eNot, u_eOr, u_eAnd, u_call, callF2, callF1, callF0, callF3, u_gen, u_r1, u_sl, u_oN, onR_ok, onR_exc, toRes, cmpM, blT_some, truR_bl, optR, ltM, leM, eq_ii, eq_ss, eq_bb, c__law_same, n2, b1, b2, b3, isIntB, isBlB, isStrB, cmpO, blR]
    | tup ds =>
      have n2 : isM (.tup ds) .non = some false := rfl
      cases k with
      | zero => cases h
      | succ k =>
        have h' : (decide (ds.length < 20) && ds.all (PD k)) = true := h
        rw [Bool.and_eq_true, decide_eq_true_eq] at h'
        obtain ⟨y, hy⟩ := same_loop (n := n) (fun d A hd => same_ge k (by omega) d A hd) ds h'.2 A (List.range ds.length) none fun i hi => List.mem_range.1 hi
        have l := len_tup ds A
        have hr : rng1 (.int ds.length) A = .ok ((List.range ds.length).map fun (i : Nat) => D.int ((0 : Int) + (i : Nat))) A := rng1_at h'.1 A
        generalize hR : ((List.range ds.length).map fun (i : Nat) => D.int ((0 : Int) + (i : Nat))) = R at *
        generalize hQ : (ds.length : Int) = Q at *
        have it : iR1 (M.aR (aC (eVar 1) (a0)) (biS tab.S .len)) [some (.tup ds), some (.tup ds), none] A = .ok R A := by
          rw [u_r1, u_aR, u_aC, u_v1, Res.bind_ok, u_a0, Res.bind_ok, Res.bind_ok, l, Res.bind_ok, hr]
        have t1 : tCmp tab.S .Is (eVar 1) (eK .non) [some (.tup ds), some (.tup ds), none] A = .ok false A := by simp [u_seq, u_if, u_set, u_ret, u_retN, u_exp, u_nx, u_ix, u_par, u_tup, u_for, u_raise, u_or, u_and, u_not, u_cmp, u_val, u_tt, u_aR, u_aC, u_a0, u_v0, u_v1, u_v2, u_v3, u_v4, u_v5, u_v6, u_v7, u_v8, u_K, u_e1, u_e2, u_eIf, u_eNot, u_eOr, u_eAnd, u_call, callF2, callF1, callF0, callF3, u_gen, u_r1, u_sl, u_oN, onR_ok, onR_exc, toRes, cmpM, blT_some, truR_bl, optR, ltM, leM, eq_ii, eq_ss, eq_bb, n2]
        have t2 : tVal (M.aR (aC (eVar 1) (aC (eK (.ty "bool")) (a0))) (biS tab.S .isi)) [some (.tup ds), some (.tup ds), none] A = .ok false A := by simp [u_seq, u_if, u_set, u_ret, u_retN, u_exp, u_nx, u_ix, u_par, u_tup, u_for, u_raise, u_or, u_and, u_not, u_cmp, u_val, u_tt, u_aR, u_aC, u_a0, u_v0, u_v1, u_v2, u_v3, u_v4, u_v5, u_v6, u_v7, u_v8, u_K, u_e1, u_e2, u_eIf, u_eNot, u_eOr, u_eAnd, u_call, callF2, callF1, callF0, callF3, u_gen, u_r1, u_sl, u_oN, onR_ok, onR_exc, toRes, cmpM, blT_some, truR_bl, optR, ltM, leM, eq_ii, eq_ss, eq_bb, b1, isBlB]
        have t3 : tVal (M.aR (aC (eVar 1) (aC (eK (.ty "int")) (a0))) (biS tab.S .isi)) [some (.tup ds), some (.tup ds), none] A = .ok false A := by simp [u_seq, u_if, u_set, u_ret, u_retN, u_exp, u_nx, u_ix, u_par, u_tup, u_for, u_raise, u_or, u_and, u_not, u_cmp, u_val, u_tt, u_aR, u_aC, u_a0, u_v0, u_v1, u_v2, u_v3, u_v4, u_v5, u_v6, u_v7, u_v8, u_K, u_e1, u_e2, u_eIf, u_eNot, u_eOr, u_eAnd, u_call, callF2, callF1, callF0, callF3, u_gen, u_r1, u_sl, u_oN, onR_ok, onR_exc, toRes, cmpM, blT_some, truR_bl, optR, ltM, leM, eq_ii, eq_ss, eq_bb, b2, isBlB, isIntB]
        have t4 : tVal (M.aR (aC (eVar 1) (aC (eK (.ty "str")) (a0))) (biS tab.S .isi)) [some (.tup ds), some (.tup ds), none] A = .ok false A := by simp [u_seq, u_if, u_set, u_ret, u_retN, u_exp, u_nx, u_ix, u_par, u_tup, u_for, u_raise, u_or, u_and, u_not, u_cmp, u_val, u_tt, u_aR, u_aC, u_a0, u_v0, u_v1, u_v2, u_v3, u_v4, u_v5, u_v6, u_v7, u_v8, u_K, u_e1, u_e2, u_eIf, u_eNot, u_eOr, u_eAnd, u_call, callF2, callF1, callF0, callF3, u_gen, u_r1, u_sl, u_oN, onR_ok, onR_exc, toRes, cmpM, blT_some, truR_bl, optR, ltM, leM, eq_ii, eq_ss, eq_bb, b3, isStrB]
        have t5 : M.tOp .Or (M.tOp .And (tVal (M.aR (aC (eVar 1) (aC (eK (.ty "tuple")) (a0))) (biS tab.S .isi))) (tNot (tVal (M.aR (aC (eVar 0) (aC (eK (.ty "tuple")) (a0))) (biS tab.S .isi))))) (M.tOp .And (tVal (M.aR (aC (eVar 1) (aC (eK (.ty "list")) (a0))) (biS tab.S .isi))) (tNot (tVal (M.aR (aC (eVar 0) (aC (eK (.ty "list")) (a0))) (biS tab.S .isi))))) [some (.tup ds), some (.tup ds), none] A = .ok false A := by simp [u_seq, u_if, u_set, u_ret, u_retN, u_exp, u_nx, u_ix, u_par, u_tup, u_for, u_raise, u_or, u_and, u_not, u_cmp, u_val, u_tt, u_aR, u_aC, u_a0, u_v0, u_v1, u_v2, u_v3, u_v4, u_v5, u_v6, u_v7, u_v8, u_K, u_e1, u_e2, u_eIf, u_eNot, u_eOr, u_eAnd, u_call, callF2, callF1, callF0, callF3, u_gen, u_r1, u_sl, u_oN, onR_ok, onR_exc, toRes, cmpM, blT_some, truR_bl, optR, ltM, leM, eq_ii, eq_ss, eq_bb, b4, b5, isTupB, isLstB]
        have t6 : tCmp tab.S .NotEq (M.aR (aC (eVar 0) (a0)) (biS tab.S .len)) (M.aR (aC (eVar 1) (a0)) (biS tab.S .len)) [some (.tup ds), some (.tup ds), none] A = .ok false A := by simp [u_seq, u_if, u_set, u_ret, u_retN, u_exp, u_nx, u_ix, u_par, u_tup, u_for, u_raise, u_or, u_and, u_not, u_cmp, u_val, u_tt, u_aR, u_aC, u_a0, u_v0, u_v1, u_v2, u_v3, u_v4, u_v5, u_v6, u_v7, u_v8, u_K, u_e1, u_e2, u_eIf, u_eNot, u_eOr, u_eAnd, u_call, callF2, callF1, callF0, callF3, u_gen, u_r1, u_sl, u_oN, onR_ok, onR_exc, toRes, cmpM, blT_some, truR_bl, optR, ltM, leM, eq_ii, eq_ss, eq_bb, l]
        unfold c__law_same
        rw [sSeq_nx (sIf_nx t1), sSeq_nx (sIf_nx t2), sSeq_nx (sIf_nx t3), sSeq_nx (sIf_nx t4), sSeq_nx (sIf_nx t5), sSeq_nx (sIf_nx t6), u_seq, u_for, it, onR_ok, hy]
        rfl
    | lst xs => cases k <;> cases h
    | _ => cases hi
end M
end
/-! ## Ge83 -/
section
set_option linter.all false
set_option maxRecDepth 100000
set_option maxHeartbeats 1000000
namespace M
open PySem L2
/-! texts: what they are made of -/
def Asc (x : Str) : Prop := ∀ c ∈ x.cps.toList, c < 128
theorem asc_ok {x : Str} (h : Asc x) : OkT x := fun c hc => by have := h c hc; omega
structure TxB (b : Nat) (x : Str) : Prop where
  len : x.length ≤ b
  asc : Asc x
theorem txb_mono {a b : Nat} {x : Str} (h : TxB a x) (k : a ≤ b) : TxB b x := ⟨Nat.le_trans h.len k, h.asc⟩
theorem txb_app {a b : Nat} {x y : Str} (h : TxB a x) (k : TxB b y) : TxB (a + b) (x ++ y) := by
  have e : (x ++ y).cps = x.cps ++ y.cps := rfl
  refine ⟨?_, fun c hc => ?_⟩
  · have := h.len
    have := k.len
    simp only [Str.length, e, Array.size_append] at *
    omega
  · rw [e, Array.toList_append] at hc
    rcases List.mem_append.1 hc with z | z
    · exact h.asc c z
    · exact k.asc c z
theorem txb_cut {b : Nat} {x : Str} (lo hi : Option Int) (h : TxB b x) : TxB b (cutS x lo hi) := by
  have e : (cutS x lo hi).cps.toList = (x.cps.toList.drop (HT.sIx x.length 0 lo)).take (HT.sIx x.length x.length hi - HT.sIx x.length 0 lo) := rfl
  have sl : List.Sublist (cutS x lo hi).cps.toList x.cps.toList := by
    rw [e]
    exact (List.take_sublist _ _).trans (List.drop_sublist _ _)
  refine ⟨?_, fun c hc => h.asc c (sl.subset hc)⟩
  have := sl.length_le
  have h2 := h.len
  simp only [Str.length, Array.length_toList] at *
  omega
theorem txb_upper {b : Nat} {x : Str} (h : TxB b x) : TxB b (Txt.upper x) := by
  have e := PyProof.Rows.upper_ascii (x := x) h.asc
  have e2 : (Txt.upper x).cps.toList = x.cps.toList.map PyProof.Rows.up1 := by
    rw [e]
    simp
  refine ⟨?_, fun c hc => ?_⟩
  · have := h.len
    have l : (Txt.upper x).length = (Txt.upper x).cps.toList.length := by simp [Str.length]
    rw [l, e2, List.length_map]
    simpa [Str.length] using this
  · rw [e2] at hc
    obtain ⟨d, hd, rfl⟩ := List.mem_map.1 hc
    have := h.asc d hd
    unfold PyProof.Rows.up1
    split <;> omega
theorem joinL_mem (S : List Nat) : ∀ (ps : List (List Nat)), ∀ c ∈ TL.joinL S ps, c ∈ S ∨ ∃ p ∈ ps, c ∈ p
  | [], c, h => by cases h
  | [p], c, h => .inr ⟨p, List.mem_singleton.2 rfl, h⟩
  | p :: q :: r, c, h => by
    have e : TL.joinL S (p :: q :: r) = p ++ (S ++ TL.joinL S (q :: r)) := rfl
    rw [e] at h
    rcases List.mem_append.1 h with z | z
    · exact .inr ⟨p, List.mem_cons_self, z⟩
    · rcases List.mem_append.1 z with z | z
      · exact .inl z
      · rcases joinL_mem S (q :: r) c z with z | ⟨p', h1, h2⟩
        · exact .inl z
        · exact .inr ⟨p', List.mem_cons_of_mem _ h1, h2⟩
theorem joinL_len (S : List Nat) (b : Nat) : ∀ (ps : List (List Nat)), (∀ p ∈ ps, p.length ≤ b) → (TL.joinL S ps).length ≤ ps.length * (b + S.length)
  | [], h => by simp [TL.joinL]
  | [p], h => by
    have := h p List.mem_cons_self
    simp [TL.joinL]
    omega
  | p :: q :: r, h => by
    have e : TL.joinL S (p :: q :: r) = p ++ (S ++ TL.joinL S (q :: r)) := rfl
    have ih := joinL_len S b (q :: r) fun x hx => h x (List.mem_cons_of_mem _ hx)
    have h1 := h p List.mem_cons_self
    rw [e]
    simp only [List.length_append, List.length_cons] at *
    rw [Nat.add_mul (r.length + 1) 1]
    omega
theorem txb_join {b n : Nat} {sep : Str} {ps : List Str} (hs : Asc sep) (h : ∀ p ∈ ps, TxB b p) (hn : ps.length ≤ n) : TxB (n * (b + sep.length)) (Txt.join sep ps) := by
  have e : TL.tl (Txt.join sep ps) = TL.joinL (TL.tl sep) (ps.map TL.tl) := by rw [TL.join_eq, TL.tl_join]
  refine ⟨?_, fun c hc => ?_⟩
  · have l := joinL_len (TL.tl sep) b (ps.map TL.tl) fun p hp => by
      obtain ⟨y, hy, rfl⟩ := List.mem_map.1 hp
      have := (h y hy).len
      simpa [TL.tl, Str.length] using this
    rw [← e] at l
    have l2 : (Txt.join sep ps).length ≤ ps.length * (b + sep.length) := by simpa [TL.tl, Str.length] using l
    exact Nat.le_trans l2 (Nat.mul_le_mul_right _ hn)
  · have hc' : c ∈ TL.joinL (TL.tl sep) (ps.map TL.tl) := by rw [← e]; exact hc
    rcases joinL_mem _ _ c hc' with z | ⟨p, hp, z⟩
    · exact hs c z
    · obtain ⟨y, hy, rfl⟩ := List.mem_map.1 hp
      exact (h y hy).asc c z
theorem txb_split {b : Nat} {x y : Str} (hy : TL.tl y ≠ []) (hk : y.cps.all (· < 256) = true) (h : TxB b x) : ∀ p ∈ Txt.split x y, TxB b p := fun p hp => by
  obtain ⟨h1, h2⟩ := (split_parts x y hy hk).2 p hp
  exact ⟨Nat.le_trans h1 h.len, fun c hc => h.asc c (h2 c hc)⟩
theorem num_asc (m : Nat) : Asc (numS (m : Int)) := fun c hc => by have := num_digs m c hc; omega
theorem deedS_txb {w : Str} {is : List Int} (h : words6.lookup w = some is.length) (f : ∀ i ∈ is, Fig i) : TxB 90 (deedS w is) := by
  have wa : TxB 20 w := by
    refine ⟨by have := (word_len h).1; omega, ?_⟩
    have q := mem6 h
    simp only [words6, List.mem_cons, Prod.mk.injEq, List.not_mem_nil, or_false] at q
    unfold Asc
    rcases q with ⟨rfl, _⟩ | ⟨rfl, _⟩ | ⟨rfl, _⟩ | ⟨rfl, _⟩ | ⟨rfl, _⟩ | ⟨rfl, _⟩ <;> decide +kernel
  have l := (word_len h).2
  have := txb_join (b := 20) (n := 4) (sep := " ") (ps := deedW w is) (by unfold Asc; decide +kernel) (fun p hp => by
    rcases List.mem_cons.1 hp with rfl | hp
    · exact wa
    · obtain ⟨i, hi, rfl⟩ := List.mem_map.1 hp
      obtain ⟨m, rfl⟩ := Int.eq_ofNat_of_zero_le (f i hi).1
      exact ⟨fig_len (f _ hi), num_asc m⟩) (by simp [deedW]; omega)
  exact txb_mono this (by decide)
end M
end
/-! ## Gf83 -/
section
set_option linter.all false
set_option maxRecDepth 100000
set_option maxHeartbeats 1000000
namespace M
open PySem L2
theorem sl_str {L : M.Loc} {A : AH} {a : ME} {x : Str} {lo hi : M.Loc → AH → Res (Option Int)} {l u : Option Int} (h : a L A = .ok (.str x) A) (hl : lo L A = .ok l A) (hu : hi L A = .ok u A) (hx : x.length ≤ sizeLine) : eSl a lo hi L A = .ok (.str (cutS x l u)) A := by
  rw [u_sl, h, Res.bind_ok, hl, Res.bind_ok, hu, Res.bind_ok]
  have e : slV A (.str x) l u = if x.length ≤ sizeLine then some (.str (cutS x l u)) else none := rfl
  rw [e, if_pos hx]
  rfl
theorem cut_map {ps : List Str} {l u : Option Int} : cutD (ps.map D.str) l u = (cutD ps l u).map D.str := by
  unfold cutD
  rw [List.length_map, List.map_take, List.map_drop]
theorem sl_rows {L : M.Loc} {A : AH} {a : ME} {ps : List Str} {lo hi : M.Loc → AH → Res (Option Int)} {l u : Option Int} (h : a L A = .ok (.lst (ps.map .str)) A) (hl : lo L A = .ok l A) (hu : hi L A = .ok u A) : eSl a lo hi L A = .ok (.lst ((cutD ps l u).map .str)) A := by
  rw [u_sl, h, Res.bind_ok, hl, Res.bind_ok, hu, Res.bind_ok]
  have e : slV A (.lst (ps.map .str)) l u = some (.lst (cutD (ps.map .str) l u)) := rfl
  rw [e, cut_map]
  rfl
theorem cut_sub {α : Type} (ps : List α) (l u : Option Int) : List.Sublist (cutD ps l u) ps := (List.take_sublist _ _).trans (List.drop_sublist _ _)
theorem sum_le {b : Nat} : ∀ {ys : List Str}, (∀ y ∈ ys, y.length ≤ b) → (ys.map (·.length)).sum ≤ ys.length * b
  | [], _ => by simp
  | y :: ys, h => by
    have := h y List.mem_cons_self
    have ih := sum_le fun z hz => h z (List.mem_cons_of_mem _ hz)
    simp only [List.map_cons, List.sum_cons, List.length_cons, Nat.add_mul]
    omega
theorem two_rows {Φ : Fns} {L : M.Loc} {A : AH} {a b : ME} {ps : List Str} {i j : Int} (hv : eVar 2 L A = .ok (.lst (ps.map .str)) A) (ha : a L A = .ok (.int i) A) (hb : b L A = .ok (.int j) A) (hp : ∀ p ∈ ps, TxB 200 p) (hn : ps.length ≤ 201) :
    ∃ x', eMt tab Φ "join" 1 (eK (.str "\n")) (aC (M.e2 (eSl (eVar 2) (oN) (oS a)) (eSl (eVar 2) (oS b) (oN)) (opM .Add)) (a0)) L A = .ok (.str x') A ∧ TxB 100000 x' := by
  have s1 : eSl (eVar 2) (oN) (oS a) L A = .ok (.lst ((cutD ps none (some i)).map .str)) A := sl_rows hv (u_oN _ _) (u_oS _ _ _ _ _ ha)
  have s2 : eSl (eVar 2) (oS b) (oN) L A = .ok (.lst ((cutD ps (some j) none).map .str)) A := sl_rows hv (u_oS _ _ _ _ _ hb) (u_oN _ _)
  have l1 := (cut_sub ps none (some i)).length_le
  have l2 := (cut_sub ps (some j) none).length_le
  have m : ∀ p ∈ cutD ps none (some i) ++ cutD ps (some j) none, TxB 200 p := fun p h => by
    rcases List.mem_append.1 h with z | z
    · exact hp p ((cut_sub _ _ _).subset z)
    · exact hp p ((cut_sub _ _ _).subset z)
  have e : M.e2 (eSl (eVar 2) (oN) (oS a)) (eSl (eVar 2) (oS b) (oN)) (opM .Add) L A = .ok (.lst ((cutD ps none (some i) ++ cutD ps (some j) none).map .str)) A := by
    rw [u_e2, s1, Res.bind_ok, s2, Res.bind_ok, op_lst (by rw [List.length_map, List.length_map]; exact sz_small (by omega)), List.map_append]
  have sm := sum_le fun p hp => (m p hp).len
  have ll : (cutD ps none (some i) ++ cutD ps (some j) none).length ≤ 402 := by rw [List.length_append]; omega
  have nl : ("\n" : Str).length = 1 := rfl
  refine ⟨_, join_at e (by rw [nl]; omega), ?_⟩
  have := txb_join (b := 200) (n := 402) (sep := "\n") (by unfold Asc; decide +kernel) m ll
  exact txb_mono this (by rw [nl]; decide)
theorem bent_ge {N : Nat} (hN : 2 < N) {A : AH} {k : Nat} {x : Str} (J : Jar A k) (hx : TxB 200 x) : ∃ (x' : Str) (A' : AH), fns N "_law_bent_text" [.obj k, .str x] A = .ok (.str x') A' ∧ TxB 100000 x' ∧ Jar A' k ∧ Only1 k A A' := by
  obtain ⟨n, rfl, hn⟩ := lvl hN
  rw [g__law_bent_text]
  have sb := sl_big
  have xl := hx.len
  have hs : x.length ≤ sizeLine := by omega
  have l : ∀ A, biS tab.S .len [D.str x] A = .ok (.int x.length) A := fun A => by simp [biS, biM, biV, lenD, hs, optR]
  obtain ⟨f, A1, h1, f0, f1, J1, o1⟩ := take_ge (N := n) (by omega) (top := 6) J (by decide) (by decide)
  obtain ⟨a, A2, h2, a0', a1', J2, o2⟩ := take_ge (N := n) (by omega) (top := (x.length : Int) + 1) J1 (by omega) (log_small (by omega))
  obtain ⟨rn, rp⟩ := split_parts x "\n" nl_ok.1 nl_ok.2
  have rc := split_cnt x "\n" nl_ok.1 nl_ok.2
  have rt := txb_split nl_ok.1 nl_ok.2 hx
  have s1 : ∀ y z w u v, eMt tab (fns n) "split" 1 (eVar 1) (aC (eK (.str "\n")) (a0)) [y, some (.str x), z, w, u, v, none] A2 = .ok (.lst ((Txt.split x "\n").map .str)) A2 := fun y z w u v => split_gen (by omega) (by decide) (u_v1 _ _ _ _)
  generalize hR : Txt.split x "\n" = ps at *
  have pp : 0 < ps.length := List.length_pos_iff.2 rn
  have ll : ∀ A, biS tab.S .len [.lst (ps.map .str)] A = .ok (.int ps.length) A := fun A => by
    have := len_lst (ps.map .str) A
    rw [List.length_map] at this
    exact this
  obtain ⟨r, A3, h3, r0, r1, J3, o3⟩ := take_ge (N := n) (by omega) (top := (ps.length : Int)) J2 (by omega) (log_small (by omega))
  have p1 : sPar 4 5 (eCall (fns n) 2 "_law_take" [] (aC (eVar 0) (aC (eK (.int 6)) (a0)))) (eCall (fns n) 2 "_law_take" [] (aC (eVar 0) (aC (M.e2 (M.aR (aC (eVar 1) (a0)) (biS tab.S .len)) (eK (.int 1)) (opM .Add)) (a0)))) [some (.obj k), some (.str x), none, none, none, none, none] A = .nx [some (.obj k), some (.str x), none, none, some (.int f), some (.int a), none] A2 := by
    simp [u_seq, u_if, u_set, u_ret, u_retN, u_exp, u_nx, u_ix, u_par, u_tup, u_for, u_raise, u_or, u_and, u_not, u_cmp, u_val, u_tt, u_aR, u_aC, u_a0, u_v0, u_v1, u_v2, u_v3, u_v4, u_v5, u_v6, u_v7, u_v8, u_K, u_e1, u_e2, u_eIf, u_eNot, u_eOr, u_eAnd, u_call, callF2, callF1, callF0, callF3, u_gen, u_r1, u_sl, u_oN, onR_ok, onR_exc, toRes, cmpM, blT_some, truR_bl, optR, ltM, leM, eq_ii, eq_ss, eq_bb, h1, l, op_add, h2]
  have p2 : sSet 2 (eMt tab (fns n) "split" 1 (eVar 1) (aC (eK (.str "\n")) (a0))) [some (.obj k), some (.str x), none, none, some (.int f), some (.int a), none] A2 = .nx [some (.obj k), some (.str x), some (.lst (ps.map .str)), none, some (.int f), some (.int a), none] A2 := by
    rw [u_set, s1]
    rfl
  have p3 : sSet 3 (eCall (fns n) 2 "_law_take" [] (aC (eVar 0) (aC (M.aR (aC (eVar 2) (a0)) (biS tab.S .len)) (a0)))) [some (.obj k), some (.str x), some (.lst (ps.map .str)), none, some (.int f), some (.int a), none] A2 = .nx [some (.obj k), some (.str x), some (.lst (ps.map .str)), some (.int r), some (.int f), some (.int a), none] A3 := by
    generalize ps.map D.str = lp at *
    simp [u_seq, u_if, u_set, u_ret, u_retN, u_exp, u_nx, u_ix, u_par, u_tup, u_for, u_raise, u_or, u_and, u_not, u_cmp, u_val, u_tt, u_aR, u_aC, u_a0, u_v0, u_v1, u_v2, u_v3, u_v4, u_v5, u_v6, u_v7, u_v8, u_K, u_e1, u_e2, u_eIf, u_eNot, u_eOr, u_eAnd, u_call, callF2, callF1, callF0, callF3, u_gen, u_r1, u_sl, u_oN, onR_ok, onR_exc, toRes, cmpM, blT_some, truR_bl, optR, ltM, leM, eq_ii, eq_ss, eq_bb, ll, h3]
  unfold c__law_bent_text
  rw [sSeq_nx p1, sSeq_nx p2, sSeq_nx p3]
  have o13 := only_trans o1 (only_trans o2 o3)
  have cl : ∀ B lo hi, sSeq (sIf (tCmp tab.S .Eq (eVar 4) (eK (.int 0))) lo (sNx)) hi [some (.obj k), some (.str x), some (.lst (ps.map .str)), some (.int r), some (.int f), some (.int a), none] B = if f = 0 then sSeq lo hi [some (.obj k), some (.str x), some (.lst (ps.map .str)), some (.int r), some (.int f), some (.int a), none] B else hi [some (.obj k), some (.str x), some (.lst (ps.map .str)), some (.int r), some (.int f), some (.int a), none] B := fun B lo hi => by
    by_cases z : f = 0
    · rw [if_pos z, u_seq, u_seq, u_if, u_cmp, u_v4, Res.bind_ok, u_K, Res.bind_ok]
      show (match onR (blT (some (decide (f = 0))) B) _ with | .nx L1 A1 => _ | r => r) = _
      rw [decide_eq_true z]
      rfl
    · rw [if_neg z, u_seq, u_if, u_cmp, u_v4, Res.bind_ok, u_K, Res.bind_ok]
      show (match onR (blT (some (decide (f = 0))) B) _ with | .nx L1 A1 => _ | r => r) = _
      rw [decide_eq_false z]
      rfl
  rw [cl]
  by_cases z0 : f = 0
  · rw [if_pos z0]
    have c1 := txb_cut none (some a) hx
    have c2 := txb_cut (some (a + 1)) none hx
    have e1 : eSl (eVar 1) (oN) (oS (eVar 5)) [some (.obj k), some (.str x), some (.lst (ps.map .str)), some (.int r), some (.int f), some (.int a), none] A3 = .ok (.str (cutS x none (some a))) A3 := sl_str (u_v1 _ _ _ _) (u_oN _ _) (u_oS _ _ _ _ _ (u_v5 _ _ _ _ _ _ _ _)) hs
    have e2 : eSl (eVar 1) (oS (M.e2 (eVar 5) (eK (.int 1)) (opM .Add))) (oN) [some (.obj k), some (.str x), some (.lst (ps.map .str)), some (.int r), some (.int f), some (.int a), none] A3 = .ok (.str (cutS x (some (a + 1)) none)) A3 := sl_str (u_v1 _ _ _ _) (u_oS _ _ _ _ _ (by rw [u_e2, u_v5, Res.bind_ok, u_K, Res.bind_ok, op_add])) (u_oN _ _) hs
    have e3 := op_str (x := cutS x none (some a)) (y := cutS x (some (a + 1)) none) (A := A3) (by have := c1.len; have := c2.len; omega)
    refine ⟨_, A3, ?_, txb_mono (txb_app c1 c2) (by decide), J3, o13⟩
    rw [u_seq, u_ret, u_e2, e1, Res.bind_ok, e2, Res.bind_ok, e3]
    rfl
  rw [if_neg z0]
  by_cases z4 : f < 4
  · obtain ⟨d, A4, h4, hd, J4, o4⟩ := one_ge (N := n) (by omega) (ds := [.str " ", .str "\n", .str "-", .str "0", .str "1", .str "7", .str ",", .str "a", .str "none", .str "x", .str "+", .str "\t", .str "(", .str "not", .str "and"]) J3 (by simp) (by decide)
    obtain ⟨g, rfl, hg⟩ : ∃ g, d = .str g ∧ TxB 10 g := by
      simp only [List.mem_cons, List.not_mem_nil, or_false] at hd
      rcases hd with rfl | rfl | rfl | rfl | rfl | rfl | rfl | rfl | rfl | rfl | rfl | rfl | rfl | rfl | rfl <;> exact ⟨_, rfl, by decide +kernel, by unfold Asc; decide +kernel⟩
    have c1 := txb_cut none (some a) hx
    have c2 := txb_cut (some (a + if f = 3 then 1 else 0)) none hx
    have q1 : sSet 6 (eCall (fns n) 2 "_law_one" [] (aC (eVar 0) (aC (M.aR (aC (eK (.str " ")) (aC (eK (.str "\n")) (aC (eK (.str "-")) (aC (eK (.str "0")) (aC (eK (.str "1")) (aC (eK (.str "7")) (aC (eK (.str ",")) (aC (eK (.str "a")) (aC (eK (.str "none")) (aC (eK (.str "x")) (aC (eK (.str "+")) (aC (eK (.str "\t")) (aC (eK (.str "(")) (aC (eK (.str "not")) (aC (eK (.str "and")) (a0)))))))))))))))) lstR) (a0)))) [some (.obj k), some (.str x), some (.lst (ps.map .str)), some (.int r), some (.int f), some (.int a), none] A3 = .nx [some (.obj k), some (.str x), some (.lst (ps.map .str)), some (.int r), some (.int f), some (.int a), some (.str g)] A4 := by
      have ls := lstR_at (ds := [.str " ", .str "\n", .str "-", .str "0", .str "1", .str "7", .str ",", .str "a", .str "none", .str "x", .str "+", .str "\t", .str "(", .str "not", .str "and"]) (A := A3) (sz_small (by decide))
      simp [u_seq, u_if, u_set, u_ret, u_retN, u_exp, u_nx, u_ix, u_par, u_tup, u_for, u_raise, u_or, u_and, u_not, u_cmp, u_val, u_tt, u_aR, u_aC, u_a0, u_v0, u_v1, u_v2, u_v3, u_v4, u_v5, u_v6, u_v7, u_v8, u_K, u_e1, u_e2, u_eIf, u_eNot, u_eOr, u_eAnd, u_call, callF2, callF1, callF0, callF3, u_gen, u_r1, u_sl, u_oN, onR_ok, onR_exc, toRes, cmpM, blT_some, truR_bl, optR, ltM, leM, eq_ii, eq_ss, eq_bb, ls, h4]
    have tt : tCmp tab.S .Lt (eVar 4) (eK (.int 4)) [some (.obj k), some (.str x), some (.lst (ps.map .str)), some (.int r), some (.int f), some (.int a), none] A3 = .ok true A3 := by
      rw [u_cmp, u_v4, Res.bind_ok, u_K, Res.bind_ok]
      show blT (some (decide (f < 4))) A3 = _
      rw [decide_eq_true z4]
      rfl
    have off : M.e2 (eVar 5) (M.aR (aC (M.e2 (eVar 4) (eK (.int 3)) (cmpO tab.S .Eq)) (a0)) (biS tab.S .int)) (opM .Add) [some (.obj k), some (.str x), some (.lst (ps.map .str)), some (.int r), some (.int f), some (.int a), some (.str g)] A4 = .ok (.int (a + if f = 3 then 1 else 0)) A4 := by
      have e : M.e2 (eVar 4) (eK (.int 3)) (cmpO tab.S .Eq) [some (.obj k), some (.str x), some (.lst (ps.map .str)), some (.int r), some (.int f), some (.int a), some (.str g)] A4 = .ok (.bl (decide (f = 3))) A4 := rfl
      rw [u_e2, u_v5, Res.bind_ok, u_aR, u_aC, e, Res.bind_ok, u_a0, Res.bind_ok, Res.bind_ok]
      by_cases z : f = 3
      · rw [decide_eq_true z, if_pos z]; rfl
      · rw [decide_eq_false z, if_neg z]; rfl
    have e1 : eSl (eVar 1) (oN) (oS (eVar 5)) [some (.obj k), some (.str x), some (.lst (ps.map .str)), some (.int r), some (.int f), some (.int a), some (.str g)] A4 = .ok (.str (cutS x none (some a))) A4 := sl_str (u_v1 _ _ _ _) (u_oN _ _) (u_oS _ _ _ _ _ (u_v5 _ _ _ _ _ _ _ _)) hs
    have e2 : eSl (eVar 1) (oS (M.e2 (eVar 5) (M.aR (aC (M.e2 (eVar 4) (eK (.int 3)) (cmpO tab.S .Eq)) (a0)) (biS tab.S .int)) (opM .Add))) (oN) [some (.obj k), some (.str x), some (.lst (ps.map .str)), some (.int r), some (.int f), some (.int a), some (.str g)] A4 = .ok (.str (cutS x (some (a + if f = 3 then 1 else 0)) none)) A4 := sl_str (u_v1 _ _ _ _) (u_oS _ _ _ _ _ off) (u_oN _ _) hs
    have v6 : eVar 6 [some (.obj k), some (.str x), some (.lst (ps.map .str)), some (.int r), some (.int f), some (.int a), some (.str g)] A4 = .ok (.str g) A4 := rfl
    have e3 := op_str (x := cutS x none (some a)) (y := g) (A := A4) (by have := c1.len; have := hg.len; omega)
    have c3 := txb_app c1 hg
    have e4 := op_str (x := cutS x none (some a) ++ g) (y := cutS x (some (a + if f = 3 then 1 else 0)) none) (A := A4) (by have := c3.len; have := c2.len; omega)
    refine ⟨_, A4, ?_, txb_mono (txb_app c3 c2) (by decide), J4, only_trans o13 o4⟩
    rw [u_seq, u_if, tt, onR_ok, if_pos rfl, u_seq, q1]
    show toRes (match sRet _ _ A4 with | .nx L1 A1 => _ | r => r) = _
    rw [u_ret, u_e2, u_e2, e1, Res.bind_ok, v6, Res.bind_ok, e3, Res.bind_ok, e2, Res.bind_ok, e4]
    rfl
  · have tt : tCmp tab.S .Lt (eVar 4) (eK (.int 4)) [some (.obj k), some (.str x), some (.lst (ps.map .str)), some (.int r), some (.int f), some (.int a), none] A3 = .ok false A3 := by
      rw [u_cmp, u_v4, Res.bind_ok, u_K, Res.bind_ok]
      show blT (some (decide (f < 4))) A3 = _
      rw [decide_eq_false z4]
      rfl
    have hv : eVar 2 [some (.obj k), some (.str x), some (.lst (ps.map .str)), some (.int r), some (.int f), some (.int a), none] A3 = .ok (.lst (ps.map .str)) A3 := rfl
    have v3 : eVar 3 [some (.obj k), some (.str x), some (.lst (ps.map .str)), some (.int r), some (.int f), some (.int a), none] A3 = .ok (.int r) A3 := rfl
    have v31 : M.e2 (eVar 3) (eK (.int 1)) (opM .Add) [some (.obj k), some (.str x), some (.lst (ps.map .str)), some (.int r), some (.int f), some (.int a), none] A3 = .ok (.int (r + 1)) A3 := rfl
    have te : tCmp tab.S .Eq (eVar 4) (eK (.int 4)) [some (.obj k), some (.str x), some (.lst (ps.map .str)), some (.int r), some (.int f), some (.int a), none] A3 = .ok (decide (f = 4)) A3 := rfl
    rw [sSeq_nx (sIf_nx tt), u_ret, u_eIf, te, Res.bind_ok]
    by_cases z : f = 4
    · obtain ⟨x', e1, e2⟩ := two_rows (Φ := fns n) hv v31 v3 rt (by omega)
      refine ⟨x', A3, ?_, e2, J3, o13⟩
      rw [decide_eq_true z, if_pos rfl, e1]
      rfl
    · obtain ⟨x', e1, e2⟩ := two_rows (Φ := fns n) hv v3 v31 rt (by omega)
      refine ⟨x', A3, ?_, e2, J3, o13⟩
      rw [decide_eq_false z, if_neg (by decide), e1]
      rfl
end M
end
/-! ## Gg83 -/
section
set_option linter.all false
set_option maxRecDepth 100000
set_option maxHeartbeats 1000000
namespace M
open PySem L2
def rep (c : Str) (k : Nat) : Str := ⟨(List.replicate k c.cps).foldl (· ++ ·) #[]⟩
theorem op_rep {c : Str} {k : Nat} {A : AH} (h : c.length = 1) (h2 : 2 ≤ k) (h3 : k ≤ 4000000) : opM .Mult (.str c) (.int k) A = .ok (.str (rep c k)) A := by
  have e : opM .Mult (.str c) (.int k) A = if 2 ≤ (k : Int) ∧ (k : Int) ≤ 4000000 ∧ c.length = 1 then .ok (.str ⟨(List.replicate (k : Int).toNat c.cps).foldl (· ++ ·) #[]⟩) A else .stuck := rfl
  rw [e, if_pos ⟨by omega, by omega, h⟩]
  rfl
theorem upper_at {Φ : Fns} {L : M.Loc} {A A1 : AH} {a : ME} {x : Str} (h : x.length ≤ 5592405) (ho : a L A = .ok (.str x) A1) : eMt tab Φ "upper" 0 a (a0) L A = .ok (.str (Txt.upper x)) A1 := by
  have e : eMt tab Φ "upper" 0 a (a0) L A = (a L A).bind fun d A1 => match d with
    | .obj k => (match A1[k]? with
      | some (.ins C fs) => (match methGo tab "upper" C fs 0 with
        | some (dvs, i) => ((a0) L A1).bind fun ds A2 => callF i.np (Φ i.key) (.obj k :: (ds ++ dvs)) A2
        | none => .stuck)
      | _ => .stuck)
    | _ => (match mNames.lookup ("upper" : Str) with
      | some b => if rcv b d then ((a0) L A1).bind fun ds A2 => mtM b d ds A2 else .stuck
      | none => .stuck) := rfl
  rw [e, ho, Res.bind_ok]
  show mtM .upper (.str x) [] A1 = _
  unfold mtM
  have v : mtV A1 .upper (.str x) [] = if x.length ≤ 5592405 then some (.str (Txt.upper x)) else none := rfl
  rw [v, if_pos h]
  rfl
def lateTexts (x : Str) : List D := [.str ("close " ++ rep "9" 20), .str ("close " ++ rep "9" 21), .str ("close 1" ++ rep "0" 20), .str "Open", .str "bar 0,1", .str "bar  0 1", .str "cut 0 1 2", .str (x ++ " 0"), .str (Txt.upper x), .str (x ++ " ")]
theorem some_text_ge {N : Nat} (hN : 3 < N) {A : AH} {k : Nat} {x : Str} (J : Jar A k) (hx : TxB 200 x) : ∃ (x' : Str) (A' : AH), fns N "_law_some_text" [.obj k, .str x] A = .ok (.str x') A' ∧ TxB 100000 x' ∧ Jar A' k ∧ Only1 k A A' := by
  obtain ⟨n, rfl, hn⟩ := lvl hN
  rw [g__law_some_text]
  obtain ⟨f, A1, h1, f0, f1, J1, o1⟩ := take_ge (N := n) (by omega) (top := 5) J (by decide) (by decide)
  by_cases z3 : f < 3
  · obtain ⟨x', A2, h2, t2, J2, o2⟩ := bent_ge (N := n) (by omega) J1 hx
    refine ⟨x', A2, ?_, t2, J2, only_trans o1 o2⟩
    simp [u_seq, u_if, u_set, u_ret, u_retN, u_exp, u_nx, u_ix, u_par, u_tup, u_for, u_raise, u_or, u_and, u_not, u_cmp, u_val, u_tt, u_aR, u_aC, u_a0, u_v0, u_v1, u_v2, u_v3, u_v4, u_v5, u_v6, u_v7, u_v8, u_K, u_e1, u_e2, u_eIf, u_eNot, u_eOr, u_eAnd, u_call, callF2, callF1, callF0, callF3, u_gen, u_r1, u_sl, u_oN, onR_ok, onR_exc, toRes, cmpM, blT_some, truR_bl, optR, ltM, leM, eq_ii, eq_ss, eq_bb, c__law_some_text, h1, z3, h2]
  by_cases z4 : f = 3
  · obtain ⟨d, A2, h2, hd, J2, o2⟩ := one_ge (N := n) (by omega) (ds := [.str "undo", .str "redo", .str "", .str " ", .str "open ", .str " open", .str "open 0", .str "close", .str "close 00", .str "close 01", .str "close -1", .str "close 1 ", .str "wire 0 1", .str "wire 0 1 2 3"]) J1 (by simp) (by decide)
    obtain ⟨g, rfl, hg⟩ : ∃ g, d = .str g ∧ TxB 100000 g := by
      simp only [List.mem_cons, List.not_mem_nil, or_false] at hd
      rcases hd with rfl | rfl | rfl | rfl | rfl | rfl | rfl | rfl | rfl | rfl | rfl | rfl | rfl | rfl <;> exact ⟨_, rfl, by decide +kernel, by unfold Asc; decide +kernel⟩
    refine ⟨g, A2, ?_, hg, J2, only_trans o1 o2⟩
    have ls := lstR_at (ds := [.str "undo", .str "redo", .str "", .str " ", .str "open ", .str " open", .str "open 0", .str "close", .str "close 00", .str "close 01", .str "close -1", .str "close 1 ", .str "wire 0 1", .str "wire 0 1 2 3"]) (A := A1) (sz_small (by decide))
    simp [u_seq, u_if, u_set, u_ret, u_retN, u_exp, u_nx, u_ix, u_par, u_tup, u_for, u_raise, u_or, u_and, u_not, u_cmp, u_val, u_tt, u_aR, u_aC, u_a0, u_v0, u_v1, u_v2, u_v3, u_v4, u_v5, u_v6, u_v7, u_v8, u_K, u_e1, u_e2, u_eIf, u_eNot, u_eOr, u_eAnd, u_call, callF2, callF1, callF0, callF3, u_gen, u_r1, u_sl, u_oN, onR_ok, onR_exc, toRes, cmpM, blT_some, truR_bl, optR, ltM, leM, eq_ii, eq_ss, eq_bb, c__law_some_text, h1, z3, z4, ls, h2]
  · obtain ⟨d, A2, h2, hd, J2, o2⟩ := one_ge (N := n) (by omega) (ds := lateTexts x) J1 (by simp [lateTexts]) (by simp [lateTexts])
    obtain ⟨g, rfl, hg⟩ : ∃ g, d = .str g ∧ TxB 100000 g := by
      simp only [lateTexts, List.mem_cons, List.not_mem_nil, or_false] at hd
      rcases hd with rfl | rfl | rfl | rfl | rfl | rfl | rfl | rfl | rfl | rfl
      · exact ⟨_, rfl, by decide +kernel, by unfold Asc; decide +kernel⟩
      · exact ⟨_, rfl, by decide +kernel, by unfold Asc; decide +kernel⟩
      · exact ⟨_, rfl, by decide +kernel, by unfold Asc; decide +kernel⟩
      · exact ⟨_, rfl, by decide +kernel, by unfold Asc; decide +kernel⟩
      · exact ⟨_, rfl, by decide +kernel, by unfold Asc; decide +kernel⟩
      · exact ⟨_, rfl, by decide +kernel, by unfold Asc; decide +kernel⟩
      · exact ⟨_, rfl, by decide +kernel, by unfold Asc; decide +kernel⟩
      · exact ⟨_, rfl, txb_mono (txb_app hx (b := 10) ⟨by decide +kernel, by unfold Asc; decide +kernel⟩) (by decide)⟩
      · exact ⟨_, rfl, txb_mono (txb_upper hx) (by decide)⟩
      · exact ⟨_, rfl, txb_mono (txb_app hx (b := 10) ⟨by decide +kernel, by unfold Asc; decide +kernel⟩) (by decide)⟩
    refine ⟨g, A2, ?_, hg, J2, only_trans o1 o2⟩
    have xl := hx.len
    have sb := sl_big
    have ls := lstR_at (ds := lateTexts x) (A := A1) (sz_small (by simp [lateTexts]))
    have r1 : opM .Mult (.str "9") (.int 20) A1 = .ok (.str (rep "9" 20)) A1 := op_rep (c := "9") (k := 20) (A := A1) rfl (by decide) (by decide)
    have r2 : opM .Mult (.str "9") (.int 21) A1 = .ok (.str (rep "9" 21)) A1 := op_rep (c := "9") (k := 21) (A := A1) rfl (by decide) (by decide)
    have r3 : opM .Mult (.str "0") (.int 20) A1 = .ok (.str (rep "0" 20)) A1 := op_rep (c := "0") (k := 20) (A := A1) rfl (by decide) (by decide)
    have s1 := op_str (x := "close ") (y := rep "9" 20) (A := A1) (sz_small (by decide +kernel))
    have s2 := op_str (x := "close ") (y := rep "9" 21) (A := A1) (sz_small (by decide +kernel))
    have s3 := op_str (x := "close 1") (y := rep "0" 20) (A := A1) (sz_small (by decide +kernel))
    have s4 := op_str (x := x) (y := " 0") (A := A1) (by have : (" 0" : Str).length = 2 := rfl; omega)
    have s5 := op_str (x := x) (y := " ") (A := A1) (by have : (" " : Str).length = 1 := rfl; omega)
    have u1 := upper_at (Φ := fns n) (L := [some (.obj k), some (.str x), some (.int f)]) (A := A1) (A1 := A1) (a := eVar 1) (by omega) rfl
    unfold lateTexts at ls h2
    simp [u_seq, u_if, u_set, u_ret, u_retN, u_exp, u_nx, u_ix, u_par, u_tup, u_for, u_raise, u_or, u_and, u_not, u_cmp, u_val, u_tt, u_aR, u_aC, u_a0, u_v0, u_v1, u_v2, u_v3, u_v4, u_v5, u_v6, u_v7, u_v8, u_K, u_e1, u_e2, u_eIf, u_eNot, u_eOr, u_eAnd, u_call, callF2, callF1, callF0, callF3, u_gen, u_r1, u_sl, u_oN, onR_ok, onR_exc, toRes, cmpM, blT_some, truR_bl, optR, ltM, leM, eq_ii, eq_ss, eq_bb, c__law_some_text, h1, z3, z4, r1, r2, r3, s1, s2, s3, s4, s5, u1, ls, h2]
end M
end
/-! ## Gh83 -/
section
set_option linter.all false
set_option maxRecDepth 100000
set_option maxHeartbeats 1000000
namespace M
open PySem L2
/-! odd deeds -/
theorem call2 {Φ : Fns} {f : Str} {L : M.Loc} {A A1 A2 : AH} {a b : ME} {x y : D} (h1 : a L A = .ok x A1) (h2 : b L A1 = .ok y A2) : eCall Φ 2 f [] (aC a (aC b (a0))) L A = Φ f [x, y] A2 := by
  rw [u_call, u_aC, h1, Res.bind_ok, u_aC, h2, Res.bind_ok, u_a0, Res.bind_ok, Res.bind_ok, Res.bind_ok]
  rfl
theorem call1 {Φ : Fns} {f : Str} {L : M.Loc} {A A1 : AH} {a : ME} {x : D} (h1 : a L A = .ok x A1) : eCall Φ 1 f [] (aC a (a0)) L A = Φ f [x] A1 := by
  rw [u_call, u_aC, h1, Res.bind_ok, u_a0, Res.bind_ok, Res.bind_ok]
  rfl
theorem aR_ok {m : MA} {f : List D → AH → Res D} {L : M.Loc} {A A1 : AH} {ds : List D} (h : m L A = .ok ds A1) : M.aR m f L A = f ds A1 := by rw [u_aR, h, Res.bind_ok]
theorem aC_ok {a : ME} {m : MA} {L : M.Loc} {A A1 A2 : AH} {d : D} {ds : List D} (h : a L A = .ok d A1) (k : m L A1 = .ok ds A2) : aC a m L A = .ok (d :: ds) A2 := by rw [u_aC, h, Res.bind_ok, k, Res.bind_ok]
theorem set_ok {i : Nat} {a : ME} {L : M.Loc} {A A1 : AH} {d : D} (h : a L A = .ok d A1) : sSet i a L A = .nx (L.set i (some d)) A1 := by rw [u_set, h]; rfl
theorem add_tup {a b : ME} {L : M.Loc} {A A1 A2 : AH} {x y : List D} (h : a L A = .ok (.tup x) A1) (k : b L A1 = .ok (.tup y) A2) (l : x.length + y.length < 1000000) : M.e2 a b (opM .Add) L A = .ok (.tup (x ++ y)) A2 := by rw [u_e2, h, Res.bind_ok, k, Res.bind_ok, op_tup (sz_small l)]
theorem add_lst {a b : ME} {L : M.Loc} {A A1 A2 : AH} {x y : List D} (h : a L A = .ok (.lst x) A1) (k : b L A1 = .ok (.lst y) A2) (l : x.length + y.length < 1000000) : M.e2 a b (opM .Add) L A = .ok (.lst (x ++ y)) A2 := by rw [u_e2, h, Res.bind_ok, k, Res.bind_ok, op_lst (sz_small l)]
def GoodT (d : D) : Prop := Itm d = true ∧ Sh d = true
/-- what may be asked whether it is a deed -/
def Thing (t : D) : Prop := Itm t = true ∧ ∀ xs, t = .tup xs → xs.length < 1000000 ∧ ∀ d ∈ xs, GoodT d
theorem thing_tup {xs : List D} (h : xs.length < 1000000) (g : ∀ d ∈ xs, GoodT d) : Thing (.tup xs) := ⟨rfl, fun ys e => by cases e; exact ⟨h, g⟩⟩
theorem thing_else {t : D} (h : Itm t = true) (n : isTupB t = false) : Thing t := ⟨h, fun xs e => by subst e; cases n⟩
theorem sl_tup {L : M.Loc} {A : AH} {a : ME} {ds : List D} {lo hi : M.Loc → AH → Res (Option Int)} {l u : Option Int} (h : a L A = .ok (.tup ds) A) (hl : lo L A = .ok l A) (hu : hi L A = .ok u A) : eSl a lo hi L A = .ok (.tup (cutD ds l u)) A := by
  rw [u_sl, h, Res.bind_ok, hl, Res.bind_ok, hu, Res.bind_ok]
  rfl
def oddL : List D := [.int (-1), .bl true, .non, .str "1", .int (10 ^ 20), .int (10 ^ 20 - 1), .tup [.int 0], .int 0, .str "open", .str "undo"]
def someL (ds : List D) (a : Int) (o : D) : List D := [.tup ((cutD ds none (some a) ++ [o]) ++ cutD ds (some (a + 1)) none), .tup ((cutD ds none (some a) ++ [o]) ++ cutD ds (some (a + 1)) none), .tup ((cutD ds none (some a) ++ [o]) ++ cutD ds (some a) none), .tup (cutD ds none (some (-1))), .lst ds]
def moreL (ds : List D) : List D := [.non, .tup [], .tup [.str "undo"], .tup [.str "redo"], .str "open", .tup [.str "Open"], .tup [.int 0], .tup [.str "open", .int 0], .tup [.str "wire", .int 0, .int 1], .tup (.non :: cutD ds (some 1) none), .int 7]
theorem some_things {ds : List D} {a : Int} {o : D} (h : ds.length ≤ 4) (g : ∀ d ∈ ds, GoodT d) (ho : GoodT o) : ∀ t ∈ someL ds a o ++ moreL ds, Thing t := by
  have cg : ∀ l u, ∀ d ∈ cutD ds l u, GoodT d := fun l u d hd => g d ((cut_sub ds l u).subset hd)
  have cl : ∀ l u, (cutD ds l u).length ≤ 4 := fun l u => Nat.le_trans (cut_sub ds l u).length_le h
  have big : ∀ l u l' u', Thing (.tup ((cutD ds l u ++ [o]) ++ cutD ds l' u')) := fun l u l' u' => by
    refine thing_tup ?_ fun d hd => ?_
    · have := cl l u
      have := cl l' u'
      simp only [List.length_append, List.length_cons, List.length_nil]
      omega
    · rcases List.mem_append.1 hd with z | z
      · rcases List.mem_append.1 z with z | z
        · exact cg _ _ d z
        · rw [List.mem_singleton] at z
          rw [z]
          exact ho
      · exact cg _ _ d z
  intro t ht
  simp only [someL, moreL, List.mem_append, List.mem_cons, List.not_mem_nil, or_false] at ht
  rcases ht with (rfl | rfl | rfl | rfl | rfl) | (rfl | rfl | rfl | rfl | rfl | rfl | rfl | rfl | rfl | rfl | rfl)
  · exact big _ _ _ _
  · exact big _ _ _ _
  · exact big _ _ _ _
  · exact thing_tup (by have := cl none (some (-1)); omega) (cg _ _)
  · exact thing_else rfl rfl
  · exact thing_else rfl rfl
  · exact thing_tup (by decide) (fun d hd => by cases hd)
  · exact thing_tup (by decide) (fun d hd => by rw [List.mem_singleton] at hd; subst hd; exact ⟨rfl, by decide +kernel⟩)
  · exact thing_tup (by decide) (fun d hd => by rw [List.mem_singleton] at hd; subst hd; exact ⟨rfl, by decide +kernel⟩)
  · exact thing_else rfl rfl
  · exact thing_tup (by decide) (fun d hd => by rw [List.mem_singleton] at hd; subst hd; exact ⟨rfl, by decide +kernel⟩)
  · exact thing_tup (by decide) (fun d hd => by rw [List.mem_singleton] at hd; subst hd; exact ⟨rfl, by decide +kernel⟩)
  · exact thing_tup (by decide) (fun d hd => by
      simp only [List.mem_cons, List.not_mem_nil, or_false] at hd
      rcases hd with rfl | rfl <;> exact ⟨rfl, by decide +kernel⟩)
  · exact thing_tup (by decide) (fun d hd => by
      simp only [List.mem_cons, List.not_mem_nil, or_false] at hd
      rcases hd with rfl | rfl | rfl <;> exact ⟨rfl, by decide +kernel⟩)
  · refine thing_tup (by have := cl (some 1) none; simp only [List.length_cons]; omega) fun d hd => ?_
    rcases List.mem_cons.1 hd with rfl | hd
    · exact ⟨rfl, by decide +kernel⟩
    · exact cg _ _ d hd
  · exact thing_else rfl rfl
theorem odd_good : ∀ o ∈ oddL, GoodT o := by
  intro o ho
  simp only [oddL, List.mem_cons, List.not_mem_nil, or_false] at ho
  rcases ho with rfl | rfl | rfl | rfl | rfl | rfl | rfl | rfl | rfl | rfl <;> exact ⟨rfl, by decide +kernel⟩
theorem odd_ge {N : Nat} (hN : 2 < N) {A : AH} {k : Nat} {ds : List D} (J : Jar A k) (hl : ds.length ≤ 4) (hg : ∀ d ∈ ds, GoodT d) : ∃ (t : D) (A' : AH), fns N "_law_odd_deed_of" [.obj k, .tup ds] A = .ok t A' ∧ Thing t ∧ Jar A' k ∧ Only1 k A A' := by
  obtain ⟨n, rfl, hn⟩ := lvl hN
  rw [g__law_odd_deed_of]
  obtain ⟨a, A1, h1, a0', a1', J1, o1⟩ := take_ge (N := n) (by omega) (top := (ds.length : Int) + 1) J (by omega) (log_small (by omega))
  obtain ⟨o, A2, h2, ho, J2, o2⟩ := one_ge (N := n) (by omega) (ds := oddL) J1 (by simp [oddL]) (by simp [oddL])
  obtain ⟨t, A3, h3, ht, J3, o3⟩ := one_ge (N := n) (by omega) (ds := someL ds a o ++ moreL ds) J2 (by simp [someL]) (by simp [someL, moreL])
  refine ⟨t, A3, ?_, some_things hl hg (odd_good o ho) t ht, J3, only_trans o1 (only_trans o2 o3)⟩
  have len := len_tup ds A
  have t1 : ∀ x A, tupR [x] A = .ok (.tup [x]) A := fun x A => tupR_at (sz_small (by simp))
  have p20 : ∀ A, opM .Pow (.int 10) (.int 20) A = .ok (.int (10 ^ 20)) A := fun _ => rfl
  have lo := lstR_at (ds := oddL) (A := A1) (sz_small (by simp [oddL]))
  have q1 : sSet 2 (eCall (fns n) 2 "_law_take" [] (aC (eVar 0) (aC (M.e2 (M.aR (aC (eVar 1) (a0)) (biS tab.S .len)) (eK (.int 1)) (opM .Add)) (a0)))) [some (.obj k), some (.tup ds), none, none, none] A = .nx [some (.obj k), some (.tup ds), some (.int a), none, none] A1 := by
    simp [u_seq, u_if, u_set, u_ret, u_retN, u_exp, u_nx, u_ix, u_par, u_tup, u_for, u_raise, u_or, u_and, u_not, u_cmp, u_val, u_tt, u_aR, u_aC, u_a0, u_v0, u_v1, u_v2, u_v3, u_v4, u_v5, u_v6, u_v7, u_v8, u_K, u_e1, u_e2, u_eIf, u_eNot, u_eOr, u_eAnd, u_call, callF2, callF1, callF0, callF3, u_gen, u_r1, u_sl, u_oN, onR_ok, onR_exc, toRes, cmpM, blT_some, truR_bl, optR, ltM, leM, eq_ii, eq_ss, eq_bb, len, op_add, h1]
  have q2 : sSet 3 (eCall (fns n) 2 "_law_one" [] (aC (eVar 0) (aC (M.aR (aC (M.e1 (eK (.int 1)) negM) (aC (eK (.bl true)) (aC (eK .non) (aC (eK (.str "1")) (aC (M.e2 (eK (.int 10)) (eK (.int 20)) (opM .Pow)) (aC (M.e2 (M.e2 (eK (.int 10)) (eK (.int 20)) (opM .Pow)) (eK (.int 1)) (opM .Sub)) (aC (M.aR (aC (eK (.int 0)) (a0)) tupR) (aC (eK (.int 0)) (aC (eK (.str "open")) (aC (eK (.str "undo")) (a0))))))))))) lstR) (a0)))) [some (.obj k), some (.tup ds), some (.int a), none, none] A1 = .nx [some (.obj k), some (.tup ds), some (.int a), some o, none] A2 := by
    refine set_ok ((call2 (u_v0 _ _ _) ((aR_ok (ds := oddL) (A1 := A1) ?_).trans lo)).trans h2)
    rfl
  have v2 : ∀ B, eVar 2 [some (.obj k), some (.tup ds), some (.int a), some o, none] B = .ok (.int a) B := fun _ => rfl
  have v21 : ∀ B, M.e2 (eVar 2) (eK (.int 1)) (opM .Add) [some (.obj k), some (.tup ds), some (.int a), some o, none] B = .ok (.int (a + 1)) B := fun _ => rfl
  have c1 := (cut_sub ds none (some a)).length_le
  have c2 := (cut_sub ds (some (a + 1)) none).length_le
  have c3 := (cut_sub ds (some a) none).length_le
  have e1 : eSl (eVar 1) (oN) (oS (eVar 2)) [some (.obj k), some (.tup ds), some (.int a), some o, none] A2 = .ok (.tup (cutD ds none (some a))) A2 := sl_tup rfl (u_oN _ _) (u_oS _ _ _ _ _ (v2 _))
  have e2 : M.aR (aC (eVar 3) (a0)) tupR [some (.obj k), some (.tup ds), some (.int a), some o, none] A2 = .ok (.tup [o]) A2 := (aR_ok rfl).trans (t1 o A2)
  have e3 := add_tup e1 e2 (by simp; omega)
  have e4 : eSl (eVar 1) (oS (M.e2 (eVar 2) (eK (.int 1)) (opM .Add))) (oN) [some (.obj k), some (.tup ds), some (.int a), some o, none] A2 = .ok (.tup (cutD ds (some (a + 1)) none)) A2 := sl_tup rfl (u_oS _ _ _ _ _ (v21 _)) (u_oN _ _)
  have e5 : eSl (eVar 1) (oS (eVar 2)) (oN) [some (.obj k), some (.tup ds), some (.int a), some o, none] A2 = .ok (.tup (cutD ds (some a) none)) A2 := sl_tup rfl (u_oS _ _ _ _ _ (v2 _)) (u_oN _ _)
  have e6 := add_tup e3 e4 (by simp; omega)
  have e7 := add_tup e3 e5 (by simp; omega)
  have e8 : eSl (eVar 1) (oN) (oS (M.e1 (eK (.int 1)) negM)) [some (.obj k), some (.tup ds), some (.int a), some o, none] A2 = .ok (.tup (cutD ds none (some (-1)))) A2 := sl_tup rfl (u_oN _ _) (u_oS _ _ _ _ _ rfl)
  have e9 : M.aR (aC (eVar 1) (a0)) (biS tab.S .list) [some (.obj k), some (.tup ds), some (.int a), some o, none] A2 = .ok (.lst ds) A2 := rfl
  have q3 := set_ok (i := 4) ((aR_ok (aC_ok e6 (aC_ok e6 (aC_ok e7 (aC_ok e8 (aC_ok e9 (u_a0 _ _))))))).trans (lstR_at (ds := someL ds a o) (A := A2) (sz_small (by simp [someL]))))
  have f1 : eSl (eVar 1) (oS (eK (.int 1))) (oN) [some (.obj k), some (.tup ds), some (.int a), some o, some (.lst (someL ds a o))] A2 = .ok (.tup (cutD ds (some 1) none)) A2 := sl_tup rfl (u_oS _ _ _ _ _ rfl) (u_oN _ _)
  have c4 := (cut_sub ds (some 1) none).length_le
  have f2 := add_tup (a := M.aR (aC (eK .non) (a0)) tupR) (L := [some (.obj k), some (.tup ds), some (.int a), some o, some (.lst (someL ds a o))]) (A := A2) (A1 := A2) (x := [.non]) ((aR_ok rfl).trans (t1 .non A2)) f1 (by simp; omega)
  have f3 := (aR_ok (f := lstR) (L := [some (.obj k), some (.tup ds), some (.int a), some o, some (.lst (someL ds a o))]) (A := A2) (aC_ok (a := eK .non) rfl (aC_ok (a := M.aR (a0) tupR) rfl (aC_ok (a := M.aR (aC (eK (.str "undo")) (a0)) tupR) rfl (aC_ok (a := M.aR (aC (eK (.str "redo")) (a0)) tupR) rfl (aC_ok (a := eK (.str "open")) rfl (aC_ok (a := M.aR (aC (eK (.str "Open")) (a0)) tupR) rfl (aC_ok (a := M.aR (aC (eK (.int 0)) (a0)) tupR) rfl (aC_ok (a := M.aR (aC (eK (.str "open")) (aC (eK (.int 0)) (a0))) tupR) rfl (aC_ok (a := M.aR (aC (eK (.str "wire")) (aC (eK (.int 0)) (aC (eK (.int 1)) (a0)))) tupR) rfl (aC_ok f2 (aC_ok (a := eK (.int 7)) rfl (u_a0 _ _))))))))))))).trans (lstR_at (ds := moreL ds) (A := A2) (sz_small (by simp [moreL])))
  have f4 := add_lst (a := eVar 4) (L := [some (.obj k), some (.tup ds), some (.int a), some o, some (.lst (someL ds a o))]) (A := A2) (x := someL ds a o) rfl f3 (by simp [someL, moreL])
  have f5 := (call2 (Φ := fns n) (f := "_law_one") (a := eVar 0) (L := [some (.obj k), some (.tup ds), some (.int a), some o, some (.lst (someL ds a o))]) (A := A2) (A1 := A2) (x := .obj k) rfl f4).trans h3
  unfold c__law_odd_deed_of
  rw [sSeq_nx q1, sSeq_nx q2, sSeq_nx q3, u_ret]
  show toRes (onR (eCall (fns n) 2 "_law_one" [] _ [some (.obj k), some (.tup ds), some (.int a), some o, some (.lst (someL ds a o))] A2) _) = _
  rw [f5]
  rfl
end M
end
/-! ## Gi83 -/
section
set_option linter.all false
set_option maxRecDepth 100000
set_option maxHeartbeats 1000000
namespace M
open PySem L2
theorem jar_ext {A B : AH} {k : Nat} (J : Jar A k) (e : Ext A B) : Jar B k := by
  obtain ⟨a, b, h, z⟩ := J.ex
  have kl : k < A.length := (List.getElem?_eq_some_iff.1 h).1
  exact ⟨a, b, by rw [e.at_ k kl, h], z⟩
theorem tells_ok {Φ : Fns} {m a : ME} {L : M.Loc} {A A1 A2 : AH} {o h : D} (h1 : a L A = .ok o A1) (h2 : heardR tab (m L A1) = .ok h A2) : lTells tab Φ m a L A = Φ "_law_same" [h, .tup [.str "told", o]] A2 := by
  unfold lTells
  rw [h1, Res.bind_ok, h2, Res.bind_ok]
  rfl
theorem refuses_ok {Φ : Fns} {m a b : ME} {L : M.Loc} {A A1 A2 A3 : AH} {o u h : D} (h1 : a L A = .ok o A1) (h2 : b L A1 = .ok u A2) (h3 : heardR tab (m L A2) = .ok h A3) : lRefuses tab Φ m a b L A = Φ "_law_same" [h, .tup [o, u]] A3 := by
  unfold lRefuses
  rw [h1, Res.bind_ok, h2, Res.bind_ok, h3, Res.bind_ok]
  rfl
theorem if_true {t : ME} {L : M.Loc} {A A1 : AH} {a : MS} (h : t L A = .ok (.bl true) A1) : sIf (tNot (tVal t)) a (sNx) L A = .nx L A1 := by
  rw [u_if, u_not, u_val, h]
  rfl
theorem bad_text {N : Nat} (hN : 1 < N) {d : D} (hd : Itm d = true) (hs : isStrB d = false) (A : AH) : fns N "read_deed" [d] A = .exc ⟨1197, .int (-1), "BadText"⟩ A := by
  obtain ⟨n, rfl, hn⟩ := lvl hN
  rw [g_read_deed]
  have e1 : fns n "lines_of" [d] A = .exc ⟨1197, .int (-1), "BadText"⟩ A := by
    obtain ⟨n', rfl, _⟩ := lvl (show 0 < n by omega)
    rw [g_lines_of]
    simp [u_seq, u_if, u_set, u_ret, u_retN, u_exp, u_nx, u_ix, u_par, u_tup, u_for, u_raise, u_or, u_and, u_not, u_cmp, u_val, u_tt, u_aR, u_aC, u_a0, u_v0, u_v1, u_v2, u_v3, u_v4, u_v5, u_v6, u_v7, u_v8, u_K, u_e1, u_e2, u_eIf, u_eNot, u_eOr, u_eAnd, u_call, callF2, callF1, callF0, callF3, u_gen, u_r1, u_sl, u_oN, onR_ok, onR_exc, toRes, cmpM, blT_some, truR_bl, optR, ltM, leM, eq_ii, eq_ss, eq_bb, c_lines_of, isi_str d hd A, hs, negM]
  simp [u_seq, u_if, u_set, u_ret, u_retN, u_exp, u_nx, u_ix, u_par, u_tup, u_for, u_raise, u_or, u_and, u_not, u_cmp, u_val, u_tt, u_aR, u_aC, u_a0, u_v0, u_v1, u_v2, u_v3, u_v4, u_v5, u_v6, u_v7, u_v8, u_K, u_e1, u_e2, u_eIf, u_eNot, u_eOr, u_eAnd, u_call, callF2, callF1, callF0, callF3, u_gen, u_r1, u_sl, u_oN, onR_ok, onR_exc, toRes, cmpM, blT_some, truR_bl, optR, ltM, leM, eq_ii, eq_ss, eq_bb, c_read_deed, e1]
theorem bad_deed {N : Nat} (hN : 2 < N) {t : D} (ht : Thing t) (hd : isD t = false) (A : AH) : fns N "deed_text" [t] A = .exc ⟨966, .int 0, "BadDeed"⟩ A := by
  obtain ⟨n, rfl, hn⟩ := lvl hN
  rw [g_deed_text]
  have e := is_deed_at (N := n) (by omega) t ht.1 (fun xs q => ⟨(ht.2 xs q).1, fun d hd => ((ht.2 xs q).2 d hd).1⟩) A
  rw [hd] at e
  simp [u_seq, u_if, u_set, u_ret, u_retN, u_exp, u_nx, u_ix, u_par, u_tup, u_for, u_raise, u_or, u_and, u_not, u_cmp, u_val, u_tt, u_aR, u_aC, u_a0, u_v0, u_v1, u_v2, u_v3, u_v4, u_v5, u_v6, u_v7, u_v8, u_K, u_e1, u_e2, u_eIf, u_eNot, u_eOr, u_eAnd, u_call, callF2, callF1, callF0, callF3, u_gen, u_r1, u_sl, u_oN, onR_ok, onR_exc, toRes, cmpM, blT_some, truR_bl, optR, ltM, leM, eq_ii, eq_ss, eq_bb, c_deed_text, e]
theorem deed_good {w : Str} {is : List Int} (h : words6.lookup w = some is.length) : ∀ d ∈ (D.str w :: is.map .int), GoodT d := by
  intro d hd
  rcases List.mem_cons.1 hd with rfl | hd
  · have q := mem6 h
    simp only [words6, List.mem_cons, Prod.mk.injEq, List.not_mem_nil, or_false] at q
    rcases q with ⟨rfl, _⟩ | ⟨rfl, _⟩ | ⟨rfl, _⟩ | ⟨rfl, _⟩ | ⟨rfl, _⟩ | ⟨rfl, _⟩ <;> exact ⟨rfl, by decide +kernel⟩
  · obtain ⟨i, _, rfl⟩ := List.mem_map.1 hd
    exact ⟨rfl, by simp [Sh, toPD, PyData.canLay0, PyData.depth]⟩
theorem deedR_len {ws : List Str} {w : Str} {is : List Nat} (h : deedR ws = .ok (w, is)) : is.length ≤ 3 := by
  cases ws with
  | nil => cases h
  | cons y ws =>
    cases q : words6.lookup y with
    | none => simp only [deedR, q] at h; cases h
    | some m =>
      cases p : natsR (y :: ws) m 1 with
      | error b => simp only [deedR, q, p] at h; cases h
      | ok is' =>
        have l := ((natsGo_R (y :: ws) 0 0 [] m 1 []).1 is' p).2
        have m3 := (word_len q).2
        simp only [deedR, q, p] at h
        split at h
        · cases h
        · cases h
          omega
theorem pd_lawR (x : Str) : PD 2 (lawR x) = true := by
  unfold lawR
  by_cases big : 400000 < x.length
  · rw [if_pos big]; rfl
  · rw [if_neg big]
    cases r : textR x with
    | error b => rfl
    | ok p =>
      obtain ⟨w, is⟩ := p
      have l := deedR_len r
      have a : (intsD is).all (PD 0) = true := by
        rw [List.all_eq_true]
        intro d hd
        obtain ⟨i, _, rfl⟩ := List.mem_map.1 hd
        rfl
      show PD 2 (if 1 < (Txt.split x "\n").length then D.tup [.str "WrongLine", .tup [.int 1, .int 0]] else D.tup [.str "told", .tup (.str w :: intsD is)]) = true
      by_cases z : 1 < (Txt.split x "\n").length
      · rw [if_pos z]; rfl
      · rw [if_neg z]
        have l2 : (intsD is).length = is.length := by simp [intsD]
        simp [PD, a, l2]
        omega
def thL (k : Nat) (dd xx : D) (x3 x4 x5 x6 x7 x8 : Option D) : M.Loc := [some (.obj k), some dd, some xx, x3, x4, x5, x6, x7, x8]
theorem body_ok {n : Nat} (hn : 9 < n) {k : Nat} {w : Str} {is : List Int} (hw : words6.lookup w = some is.length) (hf : ∀ i ∈ is, Fig i) {B : AH} (J : Jar B k) (x3 x4 x5 x6 x7 x8 : Option D) :
    ∃ (y5 y6 y7 y8 : Option D) (B' : AH), sSeq (sPar 7 8 (eCall (fns n) 2 "_law_odd_deed_of" [] (aC (eVar 0) (aC (eVar 1) (a0)))) (eCall (fns n) 2 "_law_some_text" [] (aC (eVar 0) (aC (eVar 2) (a0))))) (sSeq (sSet 5 (eCall (fns n) 1 "_law_is_deed" [] (aC (eVar 7) (a0)))) (sSeq (sIf (tNot (tVal (lTells tab (fns n) (eCall (fns n) 1 "is_deed" [] (aC (eVar 7) (a0))) (eVar 5)))) (sRet (eK (.bl false))) (sNx)) (sSeq (sSet 6 (eIf (tVal (eVar 5)) (M.aR (aC (eK (.str "told")) (aC (eCall (fns n) 1 "_law_spoken" [] (aC (eVar 7) (a0))) (a0))) tupR) (M.aR (aC (eK (.str "BadDeed")) (aC (eK (.int 0)) (a0))) tupR))) (sSeq (sIf (tNot (tVal (eCall (fns n) 2 "_law_same" [] (aC (lHeard tab (eCall (fns n) 1 "deed_text" [] (aC (eVar 7) (a0)))) (aC (eVar 6) (a0)))))) (sRet (eK (.bl false))) (sNx)) (sIf (tNot (tVal (eCall (fns n) 2 "_law_same" [] (aC (lHeard tab (eCall (fns n) 1 "read_deed" [] (aC (eVar 8) (a0)))) (aC (eCall (fns n) 1 "_law_read_deed" [] (aC (eVar 8) (a0))) (a0)))))) (sRet (eK (.bl false))) (sNx)))))) (thL k (.tup (.str w :: is.map .int)) (.str (deedS w is)) x3 x4 x5 x6 x7 x8) B = .nx (thL k (.tup (.str w :: is.map .int)) (.str (deedS w is)) x3 x4 y5 y6 y7 y8) B' ∧ Jar B' k := by
  obtain ⟨t, B1, h1, ht, J1, o1⟩ := odd_ge (N := n) (by omega) J (ds := .str w :: is.map .int) (by have := (word_len hw).2; simp; omega) (deed_good hw)
  obtain ⟨x, B2, h2, hx, J2, o2⟩ := some_text_ge (N := n) (by omega) (x := deedS w is) J1 (txb_mono (deedS_txb hw hf) (by decide))
  have hI : ∀ xs, t = .tup xs → xs.length < 1000000 ∧ ∀ d ∈ xs, Itm d = true := fun xs q => ⟨(ht.2 xs q).1, fun d hd => ((ht.2 xs q).2 d hd).1⟩
  have e1 := law_is_deed_at (N := n) (by omega) t ht.1 (fun xs q => ht.2 xs q) B2
  have e2 := is_deed_at (N := n) (by omega) t ht.1 hI B2
  obtain ⟨B3, ex, e3⟩ := read_deed_at (N := n) (by omega) x (by have := hx.len; omega) B2
  have e4 := law_read_at (N := n) (by omega) x (by have := hx.len; omega) (asc_ok hx.asc) B3
  have p1 : sPar 7 8 (eCall (fns n) 2 "_law_odd_deed_of" [] (aC (eVar 0) (aC (eVar 1) (a0)))) (eCall (fns n) 2 "_law_some_text" [] (aC (eVar 0) (aC (eVar 2) (a0)))) (thL k (.tup (.str w :: is.map .int)) (.str (deedS w is)) x3 x4 x5 x6 x7 x8) B = .nx (thL k (.tup (.str w :: is.map .int)) (.str (deedS w is)) x3 x4 x5 x6 (some t) (some (.str x))) B2 := by
    have c1 := (call2 (Φ := fns n) (f := "_law_odd_deed_of") (a := eVar 0) (b := eVar 1) (L := thL k (.tup (.str w :: is.map .int)) (.str (deedS w is)) x3 x4 x5 x6 x7 x8) (A := B) (A1 := B) (A2 := B) rfl rfl).trans h1
    have c2 := (call2 (Φ := fns n) (f := "_law_some_text") (a := eVar 0) (b := eVar 2) (L := thL k (.tup (.str w :: is.map .int)) (.str (deedS w is)) x3 x4 x5 x6 x7 x8) (A := B1) (A1 := B1) (A2 := B1) rfl rfl).trans h2
    rw [u_par, c1, Res.bind_ok, c2, Res.bind_ok]
    rfl
  have p2 : sSet 5 (eCall (fns n) 1 "_law_is_deed" [] (aC (eVar 7) (a0))) (thL k (.tup (.str w :: is.map .int)) (.str (deedS w is)) x3 x4 x5 x6 (some t) (some (.str x))) B2 = .nx (thL k (.tup (.str w :: is.map .int)) (.str (deedS w is)) x3 x4 (some (.bl (isD t))) x6 (some t) (some (.str x))) B2 := set_ok ((call1 (Φ := fns n) (f := "_law_is_deed") (a := eVar 7) (x := t) rfl).trans e1)
  have p3 : sIf (tNot (tVal (lTells tab (fns n) (eCall (fns n) 1 "is_deed" [] (aC (eVar 7) (a0))) (eVar 5)))) (sRet (eK (.bl false))) (sNx) (thL k (.tup (.str w :: is.map .int)) (.str (deedS w is)) x3 x4 (some (.bl (isD t))) x6 (some t) (some (.str x))) B2 = .nx (thL k (.tup (.str w :: is.map .int)) (.str (deedS w is)) x3 x4 (some (.bl (isD t))) x6 (some t) (some (.str x))) B2 := by
    have c := (call1 (Φ := fns n) (f := "is_deed") (a := eVar 7) (L := thL k (.tup (.str w :: is.map .int)) (.str (deedS w is)) x3 x4 (some (.bl (isD t))) x6 (some t) (some (.str x))) (A := B2) (A1 := B2) (x := t) rfl).trans e2
    exact if_true ((tells_ok (Φ := fns n) (a := eVar 5) (o := .bl (isD t)) (A1 := B2) (A2 := B2) (h := .tup [.str "told", .bl (isD t)]) rfl (by rw [c]; rfl)).trans (same_ge 1 (by omega) _ _ rfl))
  obtain ⟨ow, p4, p5⟩ : ∃ ow, sSet 6 (eIf (tVal (eVar 5)) (M.aR (aC (eK (.str "told")) (aC (eCall (fns n) 1 "_law_spoken" [] (aC (eVar 7) (a0))) (a0))) tupR) (M.aR (aC (eK (.str "BadDeed")) (aC (eK (.int 0)) (a0))) tupR)) (thL k (.tup (.str w :: is.map .int)) (.str (deedS w is)) x3 x4 (some (.bl (isD t))) x6 (some t) (some (.str x))) B2 = .nx (thL k (.tup (.str w :: is.map .int)) (.str (deedS w is)) x3 x4 (some (.bl (isD t))) (some ow) (some t) (some (.str x))) B2 ∧
      sIf (tNot (tVal (eCall (fns n) 2 "_law_same" [] (aC (lHeard tab (eCall (fns n) 1 "deed_text" [] (aC (eVar 7) (a0)))) (aC (eVar 6) (a0)))))) (sRet (eK (.bl false))) (sNx) (thL k (.tup (.str w :: is.map .int)) (.str (deedS w is)) x3 x4 (some (.bl (isD t))) (some ow) (some t) (some (.str x))) B2 = .nx (thL k (.tup (.str w :: is.map .int)) (.str (deedS w is)) x3 x4 (some (.bl (isD t))) (some ow) (some t) (some (.str x))) B2 := by
    cases z : isD t with
    | true =>
      obtain ⟨w', is', rfl, hw', hf'⟩ := isD_shape z
      have s1 := spoken_at (N := n) (by omega) hw' hf' B2
      have s2 := deed_text_at (N := n) (by omega) hw' hf' B2
      generalize hT : D.tup (.str w' :: is'.map .int) = T at *
      refine ⟨.tup [.str "told", .str (deedS w' is')], ?_, ?_⟩
      · have c := (call1 (Φ := fns n) (f := "_law_spoken") (a := eVar 7) (L := thL k (.tup (.str w :: is.map .int)) (.str (deedS w is)) x3 x4 (some (.bl true)) x6 (some T) (some (.str x))) (A := B2) (A1 := B2) (x := T) rfl).trans s1
        refine set_ok ?_
        rw [u_eIf]
        show (Res.ok true B2).bind _ = _
        rw [Res.bind_ok, if_pos rfl, aR_ok (aC_ok (A1 := B2) (d := .str "told") rfl (aC_ok c (u_a0 _ _))), tupR_at (sz_small (by simp))]
      · have c := (call1 (Φ := fns n) (f := "deed_text") (a := eVar 7) (L := thL k (.tup (.str w :: is.map .int)) (.str (deedS w is)) x3 x4 (some (.bl true)) (some (.tup [.str "told", .str (deedS w' is')])) (some T) (some (.str x))) (A := B2) (A1 := B2) (x := T) rfl).trans s2
        refine if_true ((call2 (Φ := fns n) (f := "_law_same") (A1 := B2) (A2 := B2) (x := .tup [.str "told", .str (deedS w' is')]) (y := .tup [.str "told", .str (deedS w' is')]) ?_ rfl).trans (same_ge 1 (by omega) _ _ rfl))
        unfold lHeard
        rw [c]
        rfl
    | false =>
      have s2 := bad_deed (N := n) (by omega) ht z B2
      refine ⟨.tup [.str "BadDeed", .int 0], ?_, ?_⟩
      · refine set_ok ?_
        rw [u_eIf]
        show (Res.ok false B2).bind _ = _
        rw [Res.bind_ok, if_neg (by decide), aR_ok (aC_ok (A1 := B2) (d := .str "BadDeed") rfl (aC_ok (A1 := B2) (d := .int 0) rfl (u_a0 _ _))), tupR_at (sz_small (by simp))]
      · have c := (call1 (Φ := fns n) (f := "deed_text") (a := eVar 7) (L := thL k (.tup (.str w :: is.map .int)) (.str (deedS w is)) x3 x4 (some (.bl false)) (some (.tup [.str "BadDeed", .int 0])) (some t) (some (.str x))) (A := B2) (A1 := B2) (x := t) rfl).trans s2
        refine if_true ((call2 (Φ := fns n) (f := "_law_same") (A1 := B2) (A2 := B2) (x := .tup [.str "BadDeed", .int 0]) (y := .tup [.str "BadDeed", .int 0]) ?_ rfl).trans (same_ge 1 (by omega) _ _ rfl))
        unfold lHeard
        rw [c]
        rfl
  have p6 : sIf (tNot (tVal (eCall (fns n) 2 "_law_same" [] (aC (lHeard tab (eCall (fns n) 1 "read_deed" [] (aC (eVar 8) (a0)))) (aC (eCall (fns n) 1 "_law_read_deed" [] (aC (eVar 8) (a0))) (a0)))))) (sRet (eK (.bl false))) (sNx) (thL k (.tup (.str w :: is.map .int)) (.str (deedS w is)) x3 x4 (some (.bl (isD t))) (some ow) (some t) (some (.str x))) B2 = .nx (thL k (.tup (.str w :: is.map .int)) (.str (deedS w is)) x3 x4 (some (.bl (isD t))) (some ow) (some t) (some (.str x))) B3 := by
    have c1 := (call1 (Φ := fns n) (f := "read_deed") (a := eVar 8) (L := thL k (.tup (.str w :: is.map .int)) (.str (deedS w is)) x3 x4 (some (.bl (isD t))) (some ow) (some t) (some (.str x))) (A := B2) (A1 := B2) (x := .str x) rfl).trans e3
    have c2 := (call1 (Φ := fns n) (f := "_law_read_deed") (a := eVar 8) (L := thL k (.tup (.str w :: is.map .int)) (.str (deedS w is)) x3 x4 (some (.bl (isD t))) (some ow) (some t) (some (.str x))) (A := B3) (A1 := B3) (x := .str x) rfl).trans e4
    refine if_true ((call2 (Φ := fns n) (f := "_law_same") (A1 := B3) (A2 := B3) (x := lawR x) (y := lawR x) ?_ c2).trans (same_ge 2 (by omega) _ _ (pd_lawR x)))
    unfold lHeard
    rw [c1]
    exact heard_read x B3
  refine ⟨some (.bl (isD t)), some ow, some t, some (.str x), B3, ?_, jar_ext J2 ex⟩
  rw [sSeq_nx p1, sSeq_nx p2, sSeq_nx p3, sSeq_nx p4, sSeq_nx p5, p6]
end M
end
/-! ## Gj83 -/
section
set_option linter.all false
set_option maxRecDepth 100000
set_option maxHeartbeats 1000000
namespace M
open PySem L2
/-! a deed's text is read back -/
theorem split_one {x : Str} (h : ∀ c ∈ x.cps.toList, c ≠ 10) : Txt.split x "\n" = [x] := by
  have e := TL.split_join (y := "\n") (s := 10) (S := []) (by decide +kernel) (by decide +kernel) (parts := [x]) (by simp) (fun p hp c => by
    rw [List.mem_singleton] at hp
    subst hp
    exact h 10 c rfl)
  have j : Txt.join "\n" [x] = x := by rw [TL.join_eq]; rfl
  rw [j] at e
  exact e
theorem deedW_plain {w : Str} {is : List Int} (h : words6.lookup w = some is.length) (f : ∀ i ∈ is, Fig i) : ∀ p ∈ deedW w is, ∀ c ∈ p.cps.toList, 48 ≤ c := by
  intro p hp
  rcases List.mem_cons.1 hp with rfl | hp
  · have q := mem6 h
    simp only [words6, List.mem_cons, Prod.mk.injEq, List.not_mem_nil, or_false] at q
    rcases q with ⟨rfl, _⟩ | ⟨rfl, _⟩ | ⟨rfl, _⟩ | ⟨rfl, _⟩ | ⟨rfl, _⟩ | ⟨rfl, _⟩ <;> decide +kernel
  · obtain ⟨i, hi, rfl⟩ := List.mem_map.1 hp
    obtain ⟨m, rfl⟩ := Int.eq_ofNat_of_zero_le (f i hi).1
    exact fun c hc => (num_digs m c hc).1
theorem deedS_split {w : Str} {is : List Int} (h : words6.lookup w = some is.length) (f : ∀ i ∈ is, Fig i) : Txt.split (deedS w is) " " = deedW w is :=
  TL.split_join (y := " ") (s := 32) (S := []) (by decide +kernel) (by decide +kernel) (by simp [deedW]) fun p hp c => by
    have := deedW_plain h f p hp 32 c
    omega
theorem deedS_nl {w : Str} {is : List Int} (h : words6.lookup w = some is.length) (f : ∀ i ∈ is, Fig i) : ∀ c ∈ (deedS w is).cps.toList, c ≠ 10 := by
  intro c hc
  have e : TL.tl (deedS w is) = TL.joinL (TL.tl " ") ((deedW w is).map TL.tl) := by unfold deedS; rw [TL.join_eq, TL.tl_join]
  have hc' : c ∈ TL.joinL (TL.tl " ") ((deedW w is).map TL.tl) := by rw [← e]; exact hc
  rcases joinL_mem _ _ c hc' with z | ⟨p, hp, z⟩
  · have : TL.tl (" " : Str) = [32] := by decide +kernel
    rw [this, List.mem_singleton] at z
    omega
  · obtain ⟨y, hy, rfl⟩ := List.mem_map.1 hp
    have := deedW_plain h f y hy c z
    omega
theorem deedR_back {w : Str} {is : List Int} (h : words6.lookup w = some is.length) (f : ∀ i ∈ is, Fig i) : deedR (deedW w is) = .ok (w, is.map Int.toNat) := by
  have fd : ∀ j, (hj : j < is.length) → fdA (deedW w is) (1 + j) = some is[j].toNat := fun j hj => by
    have g : (deedW w is)[1 + j]? = some (numS is[j]) := by
      rw [show 1 + j = j + 1 by omega]
      simp [deedW, hj]
    obtain ⟨m, hm⟩ := Int.eq_ofNat_of_zero_le (f is[j] (List.getElem_mem hj)).1
    have hb := num_back (m := m) (by have := (f is[j] (List.getElem_mem hj)).2; omega)
    unfold fdA
    rw [g, Option.bind_some, hm, hb]
    rfl
  have nf := natsR_find (deedW w is) is.length 1
  have fn : (List.range is.length).find? (fun j => (fdA (deedW w is) (1 + j)).isNone) = none := by
    rw [List.find?_eq_none]
    intro j hj
    rw [fd j (List.mem_range.1 hj)]
    simp
  rw [fn] at nf
  have mp : (List.range is.length).map (fun j => (fdA (deedW w is) (1 + j)).getD 0) = is.map Int.toNat := by
    apply List.ext_getElem
    · simp
    · intro j h1 h2
      simp only [List.length_map, List.length_range] at h1
      simp [fd j h1]
  have nf' : natsR (deedW w is) is.length 1 = .ok (is.map Int.toNat) := by rw [nf]; show Except.ok _ = _; rw [mp]
  have e : deedR (deedW w is) = match words6.lookup w with
    | none => .error 0
    | some m => match natsR (deedW w is) m 1 with
      | .error b => .error b
      | .ok is' => if (deedW w is).length > m + 1 then .error (m + 1) else .ok (w, is') := rfl
  rw [e, h]
  show (match natsR (deedW w is) is.length 1 with
      | .error b => Except.error b
      | .ok is' => if (deedW w is).length > is.length + 1 then .error (is.length + 1) else .ok (w, is')) = _
  rw [nf']
  show (if (deedW w is).length > is.length + 1 then Except.error (is.length + 1) else .ok (w, is.map Int.toNat)) = _
  rw [if_neg (by simp [deedW])]
theorem read_back {w : Str} {is : List Int} (h : words6.lookup w = some is.length) (f : ∀ i ∈ is, Fig i) (A : AH) : readD (deedS w is) A = .ok (.tup (.str w :: is.map .int)) A := by
  have l := (deedS_txb h f).len
  have s1 := split_one (deedS_nl h f)
  have t : textR (deedS w is) = .ok (w, is.map Int.toNat) := by
    unfold textR
    rw [s1]
    show deedR (Txt.split (deedS w is) " ") = _
    rw [deedS_split h f, deedR_back h f]
  have ii : intsD (is.map Int.toNat) = is.map .int := by
    unfold intsD
    rw [List.map_map]
    apply List.map_congr_left
    intro i hi
    simp only [Function.comp]
    congr 1
    have := (f i hi).1
    omega
  unfold readD
  rw [if_neg (by omega), t]
  show (if 1 < (Txt.split (deedS w is) "\n").length then Res.exc (wrongAt 1 0) A else Res.ok (D.tup (.str w :: intsD (is.map Int.toNat))) A) = _
  rw [s1, if_neg (by simp), ii]
end M
end
/-! ## Gk83 -/
section
set_option linter.all false
set_option maxRecDepth 100000
set_option maxHeartbeats 1000000
namespace M
open PySem L2
/-! _law_lines_right -/
theorem goes_ok {n : Nat} (hn : 9 < n) {k : Nat} {w : Str} {is : List Int} (hw : words6.lookup w = some is.length) (hf : ∀ i ∈ is, Fig i) (b : MS)
    (hb : ∀ (B : AH), Jar B k → ∀ (x3 x4 x5 x6 x7 x8 : Option D), ∃ (y5 y6 y7 y8 : Option D) (B' : AH), b (thL k (.tup (.str w :: is.map .int)) (.str (deedS w is)) x3 x4 x5 x6 x7 x8) B = .nx (thL k (.tup (.str w :: is.map .int)) (.str (deedS w is)) x3 x4 y5 y6 y7 y8) B' ∧ Jar B' k) :
    ∀ (ds : List D) (B : AH), Jar B k → ∀ (x3 x4 x5 x6 x7 x8 : Option D), ∃ (y3 y5 y6 y7 y8 : Option D) (B' : AH), sFor (gN 3) b ds (thL k (.tup (.str w :: is.map .int)) (.str (deedS w is)) x3 x4 x5 x6 x7 x8) B = .nx (thL k (.tup (.str w :: is.map .int)) (.str (deedS w is)) y3 x4 y5 y6 y7 y8) B' ∧ Jar B' k
  | [], B, J, x3, x4, x5, x6, x7, x8 => ⟨x3, x5, x6, x7, x8, B, rfl, J⟩
  | d :: ds, B, J, x3, x4, x5, x6, x7, x8 => by
    obtain ⟨y5, y6, y7, y8, B1, e1, J1⟩ := hb B J (some d) x4 x5 x6 x7 x8
    obtain ⟨z3, z5, z6, z7, z8, B2, e2, J2⟩ := goes_ok hn hw hf b hb ds B1 J1 (some d) x4 y5 y6 y7 y8
    refine ⟨z3, z5, z6, z7, z8, B2, ?_, J2⟩
    have st : sFor (gN 3) b (d :: ds) (thL k (.tup (.str w :: is.map .int)) (.str (deedS w is)) x3 x4 x5 x6 x7 x8) B = match b (thL k (.tup (.str w :: is.map .int)) (.str (deedS w is)) (some d) x4 x5 x6 x7 x8) B with
      | .nx L2 A2 => sFor (gN 3) b ds L2 A2
      | .ct L2 A2 => sFor (gN 3) b ds L2 A2
      | .bk L2 A2 => .nx L2 A2
      | r => r := rfl
    rw [st, e1]
    exact e2
theorem lines_right_ge {N : Nat} (hN : 10 < N) {A : AH} {k : Nat} (J : Jar A k) : ∃ A', fns N "_law_lines_right" [.obj k] A = .ok (.bl true) A' ∧ Jar A' k := by
  obtain ⟨n, rfl, hn⟩ := lvl hN
  rw [g__law_lines_right]
  obtain ⟨w, is, A1, h1, hw, hf, J1, o1⟩ := some_deed_ge (N := n) (by omega) J
  have h2 := spoken_at (N := n) (by omega) hw hf A1
  have h3 := deed_text_at (N := n) (by omega) hw hf A1
  have xl := (deedS_txb hw hf).len
  obtain ⟨A2, ex2, h4⟩ := read_deed_at (N := n) (by omega) (deedS w is) (by omega) A1
  rw [read_back hw hf] at h4
  have J2 := jar_ext J1 ex2
  have l3 := (word_len hw).2
  have hI : ∀ xs, D.tup (.str w :: is.map .int) = .tup xs → xs.length < 1000000 ∧ ∀ d ∈ xs, Itm d = true := fun xs q => by
    cases q
    exact ⟨by simp; omega, fun d hd => (deed_good hw d hd).1⟩
  have h5 := is_deed_at (N := n) (by omega) _ (rfl : Itm (.tup (.str w :: is.map .int)) = true) hI A2
  rw [isD_deed hw hf] at h5
  obtain ⟨y3, y5, y6, y7, y8, A3, h6, J3⟩ := goes_ok (n := n) (by omega) hw hf _ (fun B JB x3 x4 x5 x6 x7 x8 => body_ok (n := n) (by omega) hw hf JB x3 x4 x5 x6 x7 x8) (rangeL 0 4) A2 J2 none none none none none none
  have pdD : PD 1 (D.tup (.str w :: is.map .int)) = true := by
    have a : (is.map D.int).all (PD 0) = true := by
      rw [List.all_eq_true]
      intro d hd
      obtain ⟨i, _, rfl⟩ := List.mem_map.1 hd
      rfl
    simp [PD, a]
    omega
  obtain ⟨d, A4, h7, hd, J4, o4⟩ := one_ge (N := n) (by omega) (ds := [.non, .int 0, .tup [.str (deedS w is)], .lst [.str (deedS w is)], .bl true, .tup (.str w :: is.map .int)]) J3 (by simp) (by simp)
  have hd2 : Itm d = true ∧ isStrB d = false := by
    simp only [List.mem_cons, List.not_mem_nil, or_false] at hd
    rcases hd with rfl | rfl | rfl | rfl | rfl | rfl <;> exact ⟨rfl, rfl⟩
  have h8 := bad_text (N := n) (by omega) hd2.1 hd2.2 A4
  generalize hT : D.tup (.str w :: is.map .int) = T at *
  generalize hX : deedS w is = x at *
  have q1 : sSet 1 (eCall (fns n) 1 "_law_some_deed" [] (aC (eVar 0) (a0))) [some (.obj k), none, none, none, none, none, none, none, none] A = .nx [some (.obj k), some T, none, none, none, none, none, none, none] A1 := set_ok ((call1 (Φ := fns n) (f := "_law_some_deed") (a := eVar 0) (x := .obj k) rfl).trans h1)
  have q2 : sSet 2 (eCall (fns n) 1 "_law_spoken" [] (aC (eVar 1) (a0))) [some (.obj k), some T, none, none, none, none, none, none, none] A1 = .nx (thL k T (.str x) none none none none none none) A1 := set_ok ((call1 (Φ := fns n) (f := "_law_spoken") (a := eVar 1) (x := T) rfl).trans h2)
  have q3 : sIf (tNot (tVal (lTells tab (fns n) (eCall (fns n) 1 "deed_text" [] (aC (eVar 1) (a0))) (eVar 2)))) (sRet (eK (.bl false))) (sNx) (thL k T (.str x) none none none none none none) A1 = .nx (thL k T (.str x) none none none none none none) A1 := by
    have c := (call1 (Φ := fns n) (f := "deed_text") (a := eVar 1) (L := thL k T (.str x) none none none none none none) (A := A1) (A1 := A1) (x := T) rfl).trans h3
    exact if_true ((tells_ok (Φ := fns n) (a := eVar 2) (o := .str x) (A1 := A1) (A2 := A1) (h := .tup [.str "told", .str x]) rfl (by rw [c]; rfl)).trans (same_ge 1 (by omega) _ _ rfl))
  have q4 : sIf (tNot (tVal (lTells tab (fns n) (eCall (fns n) 1 "read_deed" [] (aC (eVar 2) (a0))) (eVar 1)))) (sRet (eK (.bl false))) (sNx) (thL k T (.str x) none none none none none none) A1 = .nx (thL k T (.str x) none none none none none none) A2 := by
    have c := (call1 (Φ := fns n) (f := "read_deed") (a := eVar 2) (L := thL k T (.str x) none none none none none none) (A := A1) (A1 := A1) (x := .str x) rfl).trans h4
    refine if_true ((tells_ok (Φ := fns n) (a := eVar 1) (o := T) (A1 := A1) (A2 := A2) (h := .tup [.str "told", T]) rfl (by rw [c]; rfl)).trans (same_ge 2 (by omega) _ _ ?_))
    simp [PD, pdD]
  have q5 : sIf (tNot (tVal (lTells tab (fns n) (eCall (fns n) 1 "is_deed" [] (aC (eVar 1) (a0))) (eK (.bl true))))) (sRet (eK (.bl false))) (sNx) (thL k T (.str x) none none none none none none) A2 = .nx (thL k T (.str x) none none none none none none) A2 := by
    have c := (call1 (Φ := fns n) (f := "is_deed") (a := eVar 1) (L := thL k T (.str x) none none none none none none) (A := A2) (A1 := A2) (x := T) rfl).trans h5
    exact if_true ((tells_ok (Φ := fns n) (a := eK (.bl true)) (o := .bl true) (A1 := A2) (A2 := A2) (h := .tup [.str "told", .bl true]) rfl (by rw [c]; rfl)).trans (same_ge 1 (by omega) _ _ rfl))
  have t1 : tupR [.str x] A3 = .ok (.tup [.str x]) A3 := tupR_at (sz_small (by simp))
  have l1 : lstR [.str x] A3 = .ok (.lst [.str x]) A3 := lstR_at (sz_small (by simp))
  have l6 := lstR_at (ds := [.non, .int 0, .tup [.str x], .lst [.str x], .bl true, T]) (A := A3) (sz_small (by simp))
  have q7 : sSet 4 (eCall (fns n) 2 "_law_one" [] (aC (eVar 0) (aC (M.aR (aC (eK .non) (aC (eK (.int 0)) (aC (M.aR (aC (eVar 2) (a0)) tupR) (aC (M.aR (aC (eVar 2) (a0)) lstR) (aC (eK (.bl true)) (aC (eVar 1) (a0))))))) lstR) (a0)))) (thL k T (.str x) y3 none y5 y6 y7 y8) A3 = .nx (thL k T (.str x) y3 (some d) y5 y6 y7 y8) A4 :=
    set_ok ((call2 (Φ := fns n) (f := "_law_one") (a := eVar 0) (x := .obj k) (A1 := A3) rfl ((aR_ok (aC_ok (A1 := A3) (d := .non) rfl (aC_ok (A1 := A3) (d := .int 0) rfl (aC_ok ((aR_ok (ds := [.str x]) rfl).trans t1) (aC_ok ((aR_ok (ds := [.str x]) rfl).trans l1) (aC_ok (A1 := A3) (d := .bl true) rfl (aC_ok (A1 := A3) (d := T) rfl (u_a0 _ _)))))))).trans l6)).trans h7)
  have q8 : sRet (lRefuses tab (fns n) (eCall (fns n) 1 "read_deed" [] (aC (eVar 4) (a0))) (eK (.str "BadText")) (M.e1 (eK (.int 1)) negM)) (thL k T (.str x) y3 (some d) y5 y6 y7 y8) A4 = .rt (.bl true) A4 := by
    have c := (call1 (Φ := fns n) (f := "read_deed") (a := eVar 4) (L := thL k T (.str x) y3 (some d) y5 y6 y7 y8) (A := A4) (A1 := A4) (x := d) rfl).trans h8
    rw [u_ret, refuses_ok (Φ := fns n) (o := .str "BadText") (u := .int (-1)) (A1 := A4) (A2 := A4) (A3 := A4) (h := .tup [.str "BadText", .int (-1)]) rfl rfl (by rw [c]; rfl), same_ge 1 (by omega) _ _ rfl]
    rfl
  refine ⟨A4, ?_, J4⟩
  unfold c__law_lines_right
  have fr : iR1 (eK (.int 4)) (thL k T (.str x) none none none none none none) A2 = .ok (rangeL 0 4) A2 := rng1_at (m := 4) (by decide) A2
  rw [sSeq_nx q1, sSeq_nx q2, sSeq_nx q3, sSeq_nx q4, sSeq_nx q5, u_seq, u_for, fr, onR_ok, h6]
  show toRes (sSeq _ _ (thL k T (.str x) y3 none y5 y6 y7 y8) A3) = _
  rw [sSeq_nx q7, q8]
  rfl
end M
end
/-! ## Gl83 -/
section
set_option linter.all false
set_option maxRecDepth 100000
set_option maxHeartbeats 1000000
namespace M
open PySem L2
/-! _law_long_right -/
theorem rep_fold (a : Array Nat) : ∀ (k : Nat) (acc : Array Nat), ((List.replicate k a).foldl (· ++ ·) acc).toList = acc.toList ++ (List.replicate k a.toList).flatten
  | 0, acc => by simp
  | k + 1, acc => by
    rw [List.replicate_succ, List.foldl_cons, rep_fold a k, List.replicate_succ, List.flatten_cons, Array.toList_append, List.append_assoc]
theorem rep_list (c : Str) (k : Nat) : (rep c k).cps.toList = (List.replicate k c.cps.toList).flatten := by
  have := rep_fold c.cps k #[]
  simpa [rep] using this
theorem rep_len {c : Str} (k : Nat) (h : c.length = 1) : (rep c k).length = k := by
  have l : (rep c k).length = (rep c k).cps.toList.length := by simp [Str.length]
  have lc : c.cps.toList.length = 1 := by simpa [Str.length] using h
  rw [l, rep_list, List.length_flatten, List.map_replicate, lc]
  simp
theorem rep_asc {c : Str} (k : Nat) (h : Asc c) : Asc (rep c k) := fun d hd => by
  rw [rep_list] at hd
  obtain ⟨l, hl, hd⟩ := List.mem_flatten.1 hd
  rw [List.mem_replicate] at hl
  rw [hl.2] at hd
  exact h d hd
theorem app_len (x y : Str) : (x ++ y).length = x.length + y.length := by
  have e : (x ++ y).cps = x.cps ++ y.cps := rfl
  simp only [Str.length, e, Array.size_append]
theorem long_right_ge {N : Nat} (hN : 9 < N) {A : AH} {k : Nat} (J : Jar A k) : ∃ A', fns N "_law_long_right" [.obj k] A = .ok (.bl true) A' := by
  obtain ⟨n, rfl, hn⟩ := lvl hN
  rw [g__law_long_right]
  obtain ⟨d, A1, h1, hd, J1, o1⟩ := one_ge (N := n) (by omega) (ds := [.str "open", .str "close 0", .str "x", .str " "]) J (by simp) (by decide)
  obtain ⟨w, rfl, hw⟩ : ∃ w, d = .str w ∧ TxB 10 w := by
    simp only [List.mem_cons, List.not_mem_nil, or_false] at hd
    rcases hd with rfl | rfl | rfl | rfl <;> exact ⟨_, rfl, by decide +kernel, by unfold Asc; decide +kernel⟩
  obtain ⟨d2, A2, h2, hd2, J2, o2⟩ := one_ge (N := n) (by omega) (ds := [.str " ", .str "0", .str "x"]) J1 (by simp) (by decide)
  obtain ⟨c, rfl, hc1, hc⟩ : ∃ c, d2 = .str c ∧ c.length = 1 ∧ Asc c := by
    simp only [List.mem_cons, List.not_mem_nil, or_false] at hd2
    rcases hd2 with rfl | rfl | rfl <;> exact ⟨_, rfl, by decide +kernel, by unfold Asc; decide +kernel⟩
  have wl := hw.len
  obtain ⟨m, hm⟩ : ∃ m, m = 400000 - w.length := ⟨_, rfl⟩
  have r1 := op_rep (c := c) (k := m) (A := A2) hc1 (by omega) (by omega)
  have rl := rep_len (c := c) m hc1
  have sb := sl_big
  have s1 := op_str (x := w) (y := rep c m) (A := A2) (by rw [rl]; omega)
  obtain ⟨x, hx⟩ : ∃ x, x = w ++ rep c m := ⟨_, rfl⟩
  have xl : x.length = 400000 := by rw [hx, app_len, rl]; omega
  have xa : Asc x := by
    rw [hx]
    exact (txb_app (a := 10) (b := m) hw ⟨by rw [rl]; exact Nat.le_refl _, rep_asc m hc⟩).asc
  rw [← hx] at s1
  obtain ⟨A3, ex3, h3⟩ := read_deed_at (N := n) (by omega) x (by omega) A2
  have h4 := law_read_at (N := n) (by omega) x (by omega) (asc_ok xa) A3
  have z1 : ("0" : Str).length = 1 := rfl
  have s2 := op_str (x := x) (y := "0") (A := A3) (by omega)
  have yl : (x ++ ("0" : Str)).length = 400001 := by rw [app_len, z1]; omega
  obtain ⟨A4, ex4, h5⟩ := read_deed_at (N := n) (by omega) (x ++ ("0" : Str)) (by omega) A3
  have rd : readD (x ++ ("0" : Str)) A4 = .exc ⟨1302, .int 400001, "TooMany"⟩ A4 := by
    unfold readD
    rw [if_pos (by omega), yl]
    rfl
  rw [rd] at h5
  have l4 := lstR_at (ds := [.str "open", .str "close 0", .str "x", .str " "]) (A := A) (sz_small (by decide))
  have l3 := lstR_at (ds := [.str " ", .str "0", .str "x"]) (A := A1) (sz_small (by decide))
  have hs : w.length ≤ sizeLine := by omega
  have lw : biS tab.S .len [D.str w] A2 = .ok (.int w.length) A2 := by simp [biS, biM, biV, lenD, hs, optR]
  have q1 : sSet 1 (eCall (fns n) 2 "_law_one" [] (aC (eVar 0) (aC (M.aR (aC (eK (.str "open")) (aC (eK (.str "close 0")) (aC (eK (.str "x")) (aC (eK (.str " ")) (a0))))) lstR) (a0)))) [some (.obj k), none, none] A = .nx [some (.obj k), some (.str w), none] A1 :=
    set_ok ((call2 (Φ := fns n) (f := "_law_one") (a := eVar 0) (x := .obj k) (A1 := A) rfl ((aR_ok (ds := [.str "open", .str "close 0", .str "x", .str " "]) rfl).trans l4)).trans h1)
  have e1 := (call2 (Φ := fns n) (f := "_law_one") (a := eVar 0) (b := M.aR (aC (eK (.str " ")) (aC (eK (.str "0")) (aC (eK (.str "x")) (a0)))) lstR) (L := [some (.obj k), some (.str w), none]) (A := A1) (x := .obj k) (A1 := A1) rfl ((aR_ok (ds := [.str " ", .str "0", .str "x"]) rfl).trans l3)).trans h2
  have e2 : M.e2 (eK (.int 400000)) (M.aR (aC (eVar 1) (a0)) (biS tab.S .len)) (opM .Sub) [some (.obj k), some (.str w), none] A2 = .ok (.int m) A2 := by
    rw [u_e2, u_K, Res.bind_ok, aR_ok (ds := [.str w]) (A1 := A2) rfl, lw, Res.bind_ok, op_sub, hm]
    congr 2
    omega
  have q2 : sSet 2 (M.e2 (eVar 1) (M.e2 (eCall (fns n) 2 "_law_one" [] (aC (eVar 0) (aC (M.aR (aC (eK (.str " ")) (aC (eK (.str "0")) (aC (eK (.str "x")) (a0)))) lstR) (a0)))) (M.e2 (eK (.int 400000)) (M.aR (aC (eVar 1) (a0)) (biS tab.S .len)) (opM .Sub)) (opM .Mult)) (opM .Add)) [some (.obj k), some (.str w), none] A1 = .nx [some (.obj k), some (.str w), some (.str x)] A2 := by
    refine set_ok ?_
    rw [u_e2, u_v1, Res.bind_ok, u_e2, e1, Res.bind_ok, e2, Res.bind_ok, r1, Res.bind_ok, s1]
  have q3 : sIf (tNot (tVal (eCall (fns n) 2 "_law_same" [] (aC (lHeard tab (eCall (fns n) 1 "read_deed" [] (aC (eVar 2) (a0)))) (aC (eCall (fns n) 1 "_law_read_deed" [] (aC (eVar 2) (a0))) (a0)))))) (sRet (eK (.bl false))) (sNx) [some (.obj k), some (.str w), some (.str x)] A2 = .nx [some (.obj k), some (.str w), some (.str x)] A3 := by
    have c1 := (call1 (Φ := fns n) (f := "read_deed") (a := eVar 2) (L := [some (.obj k), some (.str w), some (.str x)]) (A := A2) (A1 := A2) (x := .str x) rfl).trans h3
    have c2 := (call1 (Φ := fns n) (f := "_law_read_deed") (a := eVar 2) (L := [some (.obj k), some (.str w), some (.str x)]) (A := A3) (A1 := A3) (x := .str x) rfl).trans h4
    refine if_true ((call2 (Φ := fns n) (f := "_law_same") (A1 := A3) (A2 := A3) (x := lawR x) (y := lawR x) ?_ c2).trans (same_ge 2 (by omega) _ _ (pd_lawR x)))
    unfold lHeard
    rw [c1]
    exact heard_read x A3
  have q4 : sRet (lRefuses tab (fns n) (eCall (fns n) 1 "read_deed" [] (aC (M.e2 (eVar 2) (eK (.str "0")) (opM .Add)) (a0))) (eK (.str "TooMany")) (eK (.int 400001))) [some (.obj k), some (.str w), some (.str x)] A3 = .rt (.bl true) A4 := by
    have c := (call1 (Φ := fns n) (f := "read_deed") (a := M.e2 (eVar 2) (eK (.str "0")) (opM .Add)) (L := [some (.obj k), some (.str w), some (.str x)]) (A := A3) (A1 := A3) (x := .str (x ++ "0")) (by rw [u_e2, u_v2, Res.bind_ok, u_K, Res.bind_ok, s2])).trans h5
    rw [u_ret, refuses_ok (Φ := fns n) (o := .str "TooMany") (u := .int 400001) (A1 := A3) (A2 := A3) (A3 := A4) (h := .tup [.str "TooMany", .int 400001]) rfl rfl (by rw [c]; rfl), same_ge 1 (by omega) _ _ rfl]
    rfl
  refine ⟨A4, ?_⟩
  unfold c__law_long_right
  rw [sSeq_nx q1, sSeq_nx q2, sSeq_nx q3, q4]
  rfl
end M
end
/-! ## Gm83 -/
section
set_option linter.all false
set_option maxRecDepth 100000
set_option maxHeartbeats 1000000
namespace M
open PySem L2
/-! _law_pool -/
structure Script (s : D) (ns : List Int) : Prop where
  len : ∀ A, biS tab.S .len [s] A = .ok (.int ns.length) A
  ix : ∀ (i : Nat) (z : Int) A, ns[i]? = some z → ixM tab.S s (.int i) A = .ok (.int z) A
  nil : eqM s (.lst []) = some ns.isEmpty
theorem script_of {s : D} {ns : List Int} (h : s = D.fls (ns.map .int) ∨ s = D.lst (ns.map .int)) : Script s ns := by
  have g : ∀ d ∈ ns.map D.int, Sh d = true := fun d hd => by
    obtain ⟨i, _, rfl⟩ := List.mem_map.1 hd
    simp [Sh, toPD, PyData.canLay0, PyData.depth]
  have e := eq_nil g
  have ie : (ns.map D.int).isEmpty = ns.isEmpty := by cases ns <;> rfl
  rw [ie] at e
  have at_ : ∀ (i : Nat) (z : Int), ns[i]? = some z → atI (ns.map D.int) (i : Int) = some (.int z) := fun i z h => by
    obtain ⟨hl, rfl⟩ := List.getElem?_eq_some_iff.1 h
    rw [atI_nat (ns.map D.int) i (by simpa using hl)]
    simp
  rcases h with rfl | rfl
  · refine ⟨fun A => ?_, fun i z A h => ?_, ?_⟩
    · have : biS tab.S .len [.fls (ns.map D.int)] A = .ok (.int (ns.map D.int).length) A := rfl
      rw [this, List.length_map]
    · show optR A (atI (ns.map D.int) (i : Int)) = _
      rw [at_ i z h]
      rfl
    · have z : eqM (.fls (ns.map D.int)) (.lst []) = eqM (.lst (ns.map D.int)) (.lst []) := by
        have e1 : eqM (.fls (ns.map D.int)) (.lst []) = (match toPD (.fls (ns.map D.int)), toPD (.lst []) with
          | some p, some q => if SeqAt.shaped p && SeqAt.shaped q then some (PyData.eqv p q) else none
          | _, _ => none) := rfl
        have e2 : eqM (.lst (ns.map D.int)) (.lst []) = (match toPD (.lst (ns.map D.int)), toPD (.lst []) with
          | some p, some q => if SeqAt.shaped p && SeqAt.shaped q then some (PyData.eqv p q) else none
          | _, _ => none) := rfl
        have e3 : toPD (.fls (ns.map D.int)) = toPD (.lst (ns.map D.int)) := by simp only [toPD]
        rw [e1, e2, e3]
      rw [z, e]
  · refine ⟨fun A => ?_, fun i z A h => ?_, e⟩
    · rw [len_lst, List.length_map]
    · show optR A (atI (ns.map D.int) (i : Int)) = _
      rw [at_ i z h]
      rfl
theorem pool_ge {N : Nat} (hN : 0 < N) {s : D} {ns : List Int} (S : Script s ns) {k : Nat} (hk : k < 100) (A : AH) : ∃ a b : Int, fns N "_law_pool" [s, .int k] A = .ok (.obj A.length) (A ++ [.lst [.int a, .int b]]) ∧ 0 ≤ a := by
  obtain ⟨n, rfl, hn⟩ := lvl hN
  rw [g__law_pool]
  have len := S.len A
  have l0 : lstR [] A = .ok (.lst []) A := lstR_at (by simp)
  obtain ⟨z, q2⟩ : ∃ z : Int, sIf (tCmp tab.S .Lt (eVar 1) (M.aR (aC (eVar 0) (a0)) (biS tab.S .len))) (sSet 2 (M.e2 (eVar 0) (eVar 1) (ixM tab.S))) (sIf (tCmp tab.S .NotEq (eVar 0) (M.aR (a0) lstR)) (sSet 2 (M.e2 (eVar 0) (eK (.int 0)) (ixM tab.S))) (sNx)) [some s, some (.int k), some (.int 0), none, none] A = .nx [some s, some (.int k), some (.int z), none, none] A := by
    by_cases p : k < ns.length
    · have p' : (k : Int) < ns.length := by omega
      have ix := S.ix k ns[k] A (by simp [p])
      refine ⟨ns[k], ?_⟩
      generalize ns[k] = y at *
      simp [u_seq, u_if, u_set, u_ret, u_retN, u_exp, u_nx, u_ix, u_par, u_tup, u_for, u_raise, u_or, u_and, u_not, u_cmp, u_val, u_tt, u_aR, u_aC, u_a0, u_v0, u_v1, u_v2, u_v3, u_v4, u_v5, u_v6, u_v7, u_v8, u_K, u_e1, u_e2, u_eIf, u_eNot, u_eOr, u_eAnd, u_call, callF2, callF1, callF0, callF3, u_gen, u_r1, u_sl, u_oN, onR_ok, onR_exc, toRes, cmpM, blT_some, truR_bl, optR, ltM, leM, eq_ii, eq_ss, eq_bb, len, p', ix]
    · have p' : ¬ (k : Int) < ns.length := by omega
      cases ns with
      | nil =>
        have e := S.nil
        refine ⟨0, ?_⟩
        have p'' : ¬ (k : Int) < 0 := by omega
        simp [u_seq, u_if, u_set, u_ret, u_retN, u_exp, u_nx, u_ix, u_par, u_tup, u_for, u_raise, u_or, u_and, u_not, u_cmp, u_val, u_tt, u_aR, u_aC, u_a0, u_v0, u_v1, u_v2, u_v3, u_v4, u_v5, u_v6, u_v7, u_v8, u_K, u_e1, u_e2, u_eIf, u_eNot, u_eOr, u_eAnd, u_call, callF2, callF1, callF0, callF3, u_gen, u_r1, u_sl, u_oN, onR_ok, onR_exc, toRes, cmpM, blT_some, truR_bl, optR, ltM, leM, eq_ii, eq_ss, eq_bb, len, p'', l0, e]
      | cons y ys =>
        have e := S.nil
        have ix : ixM tab.S s (.int 0) A = .ok (.int y) A := S.ix 0 y A rfl
        refine ⟨y, ?_⟩
        have p'' : ¬ (k : Int) < (ys.length : Int) + 1 := by simpa using p'
        simp [u_seq, u_if, u_set, u_ret, u_retN, u_exp, u_nx, u_ix, u_par, u_tup, u_for, u_raise, u_or, u_and, u_not, u_cmp, u_val, u_tt, u_aR, u_aC, u_a0, u_v0, u_v1, u_v2, u_v3, u_v4, u_v5, u_v6, u_v7, u_v8, u_K, u_e1, u_e2, u_eIf, u_eNot, u_eOr, u_eAnd, u_call, callF2, callF1, callF0, callF3, u_gen, u_r1, u_sl, u_oN, onR_ok, onR_exc, toRes, cmpM, blT_some, truR_bl, optR, ltM, leM, eq_ii, eq_ss, eq_bb, len, p'', l0, e, ix]
  have mx : ∀ A, biS tab.S .max [.int z, .int (-1 - z)] A = .ok (.int (if -1 - z > z then -1 - z else z)) A := fun _ => rfl
  obtain ⟨g, hg⟩ : ∃ g, g = (if -1 - z > z then -1 - z else z) := ⟨_, rfl⟩
  have g0 : 0 ≤ g := by
    rw [hg]
    split <;> omega
  rw [← hg] at mx
  have q3 : sSet 3 (M.aR (aC (M.aR (aC (eVar 2) (a0)) (biS tab.S .int)) (aC (M.aR (aC (M.e2 (M.e1 (eK (.int 1)) negM) (eVar 2) (opM .Sub)) (a0)) (biS tab.S .int)) (a0))) (biS tab.S .max)) [some s, some (.int k), some (.int z), none, none] A = .nx [some s, some (.int k), some (.int z), some (.int g), none] A := by
    refine set_ok ((aR_ok (aC_ok (A1 := A) (d := .int z) rfl (aC_ok (A1 := A) (d := .int (-1 - z)) rfl (u_a0 _ _)))).trans (mx A))
  have kb : -2 ^ 64 < (k : Int) ∧ (k : Int) < 2 ^ 64 := by omega
  obtain ⟨m, q4⟩ : ∃ m : Int, sSet 4 (M.e2 (M.aR (aC (M.e2 (M.e2 (M.e2 (M.e2 (M.e2 (M.aR (aC (eVar 3) (a0)) (biS tab.S .int)) (eK (.int 2147483629)) (opM .Mod)) (M.e2 (M.e2 (eK (.int 7919)) (eVar 1) (opM .Mult)) (eVar 1) (opM .Mult)) (opM .Add)) (M.e2 (eK (.int 31)) (eVar 1) (opM .Mult)) (opM .Add)) (eK (.int 17)) (opM .Add)) (eK (.int 48271)) (opM .Mult)) (a0)) (biS tab.S .int)) (eK (.int 2147483647)) (opM .Mod)) [some s, some (.int k), some (.int z), some (.int g), none] A = .nx [some s, some (.int k), some (.int z), some (.int g), some (.int m)] A := by
    refine ⟨((((g % 2147483629 + 7919 * k * k) + 31 * k) + 17) * 48271) % 2147483647, ?_⟩
    simp [u_seq, u_if, u_set, u_ret, u_retN, u_exp, u_nx, u_ix, u_par, u_tup, u_for, u_raise, u_or, u_and, u_not, u_cmp, u_val, u_tt, u_aR, u_aC, u_a0, u_v0, u_v1, u_v2, u_v3, u_v4, u_v5, u_v6, u_v7, u_v8, u_K, u_e1, u_e2, u_eIf, u_eNot, u_eOr, u_eAnd, u_call, callF2, callF1, callF0, callF3, u_gen, u_r1, u_sl, u_oN, onR_ok, onR_exc, toRes, cmpM, blT_some, truR_bl, optR, ltM, leM, eq_ii, eq_ss, eq_bb, int_id, op_mod _ _ _ (show (0 : Int) < 2147483629 by decide), op_mod _ _ _ (show (0 : Int) < 2147483647 by decide), op_add, op_mul _ _ _ kb.1 kb.2, op_mul _ _ _ (show (-2 ^ 64 : Int) < 48271 by decide) (show (48271 : Int) < 2 ^ 64 by decide)]
  obtain ⟨v, q5⟩ : ∃ v : Bool, eOp .And (M.e2 (eVar 3) (M.e2 (eK (.int 10)) (eK (.int 18)) (opM .Pow)) (cmpO tab.S .GtE)) (M.e2 (eVar 1) (M.aR (aC (eVar 0) (a0)) (biS tab.S .len)) (cmpO tab.S .Lt)) [some s, some (.int k), some (.int z), some (.int g), some (.int m)] A = .ok (.bl v) A := by
    have pw : opM .Pow (.int 10) (.int 18) A = .ok (.int (10 ^ 18)) A := rfl
    have c1 : ∀ x y : Int, cmpO tab.S .GtE (.int x) (.int y) A = .ok (.bl (decide (y ≤ x))) A := fun _ _ => rfl
    have c2 : ∀ x y : Int, cmpO tab.S .Lt (.int x) (.int y) A = .ok (.bl (decide (x < y))) A := fun _ _ => rfl
    refine ⟨decide (10 ^ 18 ≤ g) && decide ((k : Int) < ns.length), ?_⟩
    by_cases p : 10 ^ 18 ≤ g
    · have p2 : (1000000000000000000 : Int) ≤ g := p
      simp [u_seq, u_if, u_set, u_ret, u_retN, u_exp, u_nx, u_ix, u_par, u_tup, u_for, u_raise, u_or, u_and, u_not, u_cmp, u_val, u_tt, u_aR, u_aC, u_a0, u_v0, u_v1, u_v2, u_v3, u_v4, u_v5, u_v6, u_v7, u_v8, u_K, u_e1, u_e2, u_eIf, u_eNot, u_eOr, u_eAnd, u_call, callF2, callF1, callF0, callF3, u_gen, u_r1, u_sl, u_oN, onR_ok, onR_exc, toRes, cmpM, blT_some, truR_bl, optR, ltM, leM, eq_ii, eq_ss, eq_bb, pw, c1, c2, len, p2]
    · have p2 : ¬ (1000000000000000000 : Int) ≤ g := p
      simp [u_seq, u_if, u_set, u_ret, u_retN, u_exp, u_nx, u_ix, u_par, u_tup, u_for, u_raise, u_or, u_and, u_not, u_cmp, u_val, u_tt, u_aR, u_aC, u_a0, u_v0, u_v1, u_v2, u_v3, u_v4, u_v5, u_v6, u_v7, u_v8, u_K, u_e1, u_e2, u_eIf, u_eNot, u_eOr, u_eAnd, u_call, callF2, callF1, callF0, callF3, u_gen, u_r1, u_sl, u_oN, onR_ok, onR_exc, toRes, cmpM, blT_some, truR_bl, optR, ltM, leM, eq_ii, eq_ss, eq_bb, pw, c1, c2, len, p2]
  have b1 : -2 ^ 64 < (if v then (1 : Int) else 0) ∧ (if v then (1 : Int) else 0) < 2 ^ 64 := by cases v <;> decide
  have iv : biS tab.S .int [.bl v] A = .ok (.int (if v then 1 else 0)) A := rfl
  have q6 : sRet (M.aR (aC (M.e2 (eVar 3) (M.aR (aC (eOp .And (M.e2 (eVar 3) (M.e2 (eK (.int 10)) (eK (.int 18)) (opM .Pow)) (cmpO tab.S .GtE)) (M.e2 (eVar 1) (M.aR (aC (eVar 0) (a0)) (biS tab.S .len)) (cmpO tab.S .Lt))) (a0)) (biS tab.S .int)) (opM .Mult)) (aC (eVar 4) (a0))) objR) [some s, some (.int k), some (.int z), some (.int g), some (.int m)] A = .rt (.obj A.length) (A ++ [.lst [.int (g * if v then 1 else 0), .int m]]) := by
    have e : M.e2 (eVar 3) (M.aR (aC (eOp .And (M.e2 (eVar 3) (M.e2 (eK (.int 10)) (eK (.int 18)) (opM .Pow)) (cmpO tab.S .GtE)) (M.e2 (eVar 1) (M.aR (aC (eVar 0) (a0)) (biS tab.S .len)) (cmpO tab.S .Lt))) (a0)) (biS tab.S .int)) (opM .Mult) [some s, some (.int k), some (.int z), some (.int g), some (.int m)] A = .ok (.int (g * if v then 1 else 0)) A := by
      rw [u_e2, u_v3, Res.bind_ok, aR_ok (aC_ok q5 (u_a0 _ _)), iv, Res.bind_ok, op_mul _ _ _ b1.1 b1.2]
    rw [u_ret, aR_ok (aC_ok e (aC_ok (A1 := A) (d := .int m) rfl (u_a0 _ _))), objR_at (sz_small (by simp))]
    rfl
  refine ⟨g * (if v then 1 else 0), m, ?_, Int.mul_nonneg g0 (by cases v <;> decide)⟩
  unfold c__law_pool
  have q1 : sSet 2 (eK (.int 0)) [some s, some (.int k), none, none, none] A = .nx [some s, some (.int k), some (.int 0), none, none] A := rfl
  rw [sSeq_nx q1, sSeq_nx q2, sSeq_nx q3, sSeq_nx q4, q6]
  rfl
end M
end
/-! ## Gn83 -/
section
set_option linter.all false
set_option maxRecDepth 100000
set_option maxHeartbeats 1000000
namespace M
open PySem L2
/-! the law -/
theorem turns_ok {n : Nat} (hn : 10 < n) (s : D) (g : Option D) {k : Nat} : ∀ (ds : List D) (B : AH) (x : Option D), Jar B k → ∃ (y : Option D) (B' : AH), sFor (gN 3) (sIf (tNot (tVal (eCall (fns n) 1 "_law_lines_right" [] (aC (eVar 2) (a0))))) (sRet (eK (.bl false))) (sNx)) ds [some s, g, some (.obj k), x] B = .nx [some s, g, some (.obj k), y] B' ∧ Jar B' k
  | [], B, x, J => ⟨x, B, rfl, J⟩
  | d :: ds, B, x, J => by
    obtain ⟨B1, h1, J1⟩ := lines_right_ge hn J
    obtain ⟨y, B2, h2, J2⟩ := turns_ok hn s g ds B1 (some d) J1
    have e := if_true (a := sRet (eK (.bl false))) ((call1 (Φ := fns n) (f := "_law_lines_right") (a := eVar 2) (L := [some s, g, some (.obj k), some d]) (A := B) (A1 := B) (x := .obj k) rfl).trans h1)
    refine ⟨y, B2, ?_, J2⟩
    have st : ∀ b : MS, sFor (gN 3) b (d :: ds) [some s, g, some (.obj k), x] B = match b [some s, g, some (.obj k), some d] B with
      | .nx L2 A2 => sFor (gN 3) b ds L2 A2
      | .ct L2 A2 => sFor (gN 3) b ds L2 A2
      | .bk L2 A2 => .nx L2 A2
      | r => r := fun _ => rfl
    rw [st, e]
    exact h2
theorem jar_new {B : AH} {a b : Int} (h : 0 ≤ a) : Jar (B ++ [.lst [.int a, .int b]]) B.length := ⟨a, b, by simp, h⟩
theorem rounds_ok {n : Nat} (hn : 10 < n) {s : D} {ns : List Int} (S : Script s ns) : ∀ (ks : List Nat) (B : AH) (x1 x2 x3 : Option D), (∀ k ∈ ks, k < 100) → (ks = [] → ∃ k, x2 = some (.obj k) ∧ Jar B k) → ∃ (y1 y3 : Option D) (k : Nat) (B' : AH),
    sFor (gN 1) (sSeq (sSet 2 (eCall (fns n) 2 "_law_pool" [] (aC (eVar 0) (aC (eVar 1) (a0))))) (sForE (iR1 (eK (.int 6))) (gN 3) (sIf (tNot (tVal (eCall (fns n) 1 "_law_lines_right" [] (aC (eVar 2) (a0))))) (sRet (eK (.bl false))) (sNx)))) (ks.map fun (i : Nat) => D.int ((0 : Int) + (i : Nat))) [some s, x1, x2, x3] B = .nx [some s, y1, some (.obj k), y3] B' ∧ Jar B' k
  | [], B, x1, x2, x3, _, h => by
    obtain ⟨k, rfl, J⟩ := h rfl
    exact ⟨x1, x3, k, B, rfl, J⟩
  | i :: ks, B, x1, x2, x3, hk, _ => by
    have z : (0 : Int) + (i : Nat) = (i : Int) := by omega
    obtain ⟨a, b, h1, a0'⟩ := pool_ge (N := n) (by omega) S (hk i List.mem_cons_self) B
    obtain ⟨y, B2, h2, J2⟩ := turns_ok (n := n) hn s (some (.int (i : Int))) (rangeL 0 6) (B ++ [.lst [.int a, .int b]]) x3 (jar_new a0')
    obtain ⟨y1, y3, k, B3, h3, J3⟩ := rounds_ok hn S ks B2 (some (.int (i : Int))) (some (.obj B.length)) y (fun k hk' => hk k (List.mem_cons_of_mem _ hk')) (fun _ => ⟨_, rfl, J2⟩)
    refine ⟨y1, y3, k, B3, ?_, J3⟩
    have p1 : sSet 2 (eCall (fns n) 2 "_law_pool" [] (aC (eVar 0) (aC (eVar 1) (a0)))) [some s, some (.int (i : Int)), x2, x3] B = .nx [some s, some (.int (i : Int)), some (.obj B.length), x3] (B ++ [.lst [.int a, .int b]]) := set_ok ((call2 (Φ := fns n) (f := "_law_pool") (a := eVar 0) (b := eVar 1) (A1 := B) (A2 := B) (x := s) (y := .int (i : Int)) rfl rfl).trans h1)
    have fr : iR1 (eK (.int 6)) [some s, some (.int (i : Int)), some (.obj B.length), x3] (B ++ [.lst [.int a, .int b]]) = .ok (rangeL 0 6) (B ++ [.lst [.int a, .int b]]) := rng1_at (m := 6) (by decide) _
    have st : ∀ b : MS, sFor (gN 1) b ((i :: ks).map fun (i : Nat) => D.int ((0 : Int) + (i : Nat))) [some s, x1, x2, x3] B = match b [some s, some (.int ((0 : Int) + (i : Nat))), x2, x3] B with
      | .nx L2 A2 => sFor (gN 1) b (ks.map fun (i : Nat) => D.int ((0 : Int) + (i : Nat))) L2 A2
      | .ct L2 A2 => sFor (gN 1) b (ks.map fun (i : Nat) => D.int ((0 : Int) + (i : Nat))) L2 A2
      | .bk L2 A2 => .nx L2 A2
      | r => r := fun _ => rfl
    rw [st, z, sSeq_nx p1, u_for, fr, onR_ok, h2]
    exact h3
theorem law_true {N : Nat} (hN : 11 < N) {s : D} {ns : List Int} (S : Script s ns) (A : AH) : ∃ A', fns N "law" [s] A = .ok (.bl true) A' := by
  obtain ⟨n, rfl, hn⟩ := lvl hN
  rw [g_law]
  obtain ⟨y1, y3, k, B, h1, J⟩ := rounds_ok (n := n) (by omega) S (List.range 6) A none none none (fun k hk => by have := List.mem_range.1 hk; omega) (fun q => by cases q)
  obtain ⟨m, B1, h2, m0, m1, J1, o1⟩ := take_ge (N := n) (by omega) (top := 20) J (by decide) (by decide)
  obtain ⟨B2, h3⟩ := long_right_ge (N := n) (by omega) J1
  have fr : iR1 (eK (.int 6)) [some s, none, none, none] A = .ok ((List.range 6).map fun (i : Nat) => D.int ((0 : Int) + (i : Nat))) A := rng1_at (m := 6) (by decide) A
  have c1 := (call2 (Φ := fns n) (f := "_law_take") (a := eVar 2) (b := eK (.int 20)) (L := [some s, y1, some (.obj k), y3]) (A := B) (A1 := B) (A2 := B) (x := .obj k) (y := .int 20) rfl rfl).trans h2
  have c2 := (call1 (Φ := fns n) (f := "_law_long_right") (a := eVar 2) (L := [some s, y1, some (.obj k), y3]) (A := B1) (A1 := B1) (x := .obj k) rfl).trans h3
  have g1 : cmpO tab.S .Gt (.int m) (.int 0) B1 = .ok (.bl (decide (0 < m))) B1 := rfl
  unfold c_law
  rw [u_seq, u_for, fr, onR_ok, h1]
  show ∃ A', toRes (sRet _ [some s, y1, some (.obj k), y3] B) = _
  by_cases z : 0 < m
  · refine ⟨B1, ?_⟩
    rw [u_ret, u_eOr, u_e2, c1, Res.bind_ok, u_K, Res.bind_ok, g1, decide_eq_true z]
    rfl
  · refine ⟨B2, ?_⟩
    rw [u_ret, u_eOr, u_e2, c1, Res.bind_ok, u_K, Res.bind_ok, g1, decide_eq_false z, Res.bind_ok, truR_bl, Res.bind_ok, if_neg (by decide), c2]
    rfl
end M
end
/-! ## H83Z -/
set_option linter.all false
set_option maxRecDepth 100000
set_option maxHeartbeats 4000000
open PySem PySem.Spec PyProof.Rows L2 PySem.W PySem.Calls M
theorem pl83 (ns : List Int) (hl : ns.length ≤ 63) (hb : ∀ z ∈ ns, Builtin.Int.intBits z ≤ 1048576) (d : D) (h : d = D.fls (ns.map .int) ∨ d = D.lst (ns.map .int)) : ∃ A, fns (11 + 1) "law" [d] [] = .ok (.bl true) A := law_true (by omega) (script_of h) []
theorem room83 : Room (8 * (11 + 1)) callerA := by
  exact ⟨by rfl, by decide +kernel, by decide +kernel⟩
theorem PySem.Challenge.cw_slotsbehind_k83_lines_of_deeds_holds : PySem.Challenge.rw_slotsbehind_k83_lines_of_deeds.Holds := by
  w_on; o_law
  refine law_holds (n := 11) room83 ?hw run_all pl83
  case hw => w_witness2
