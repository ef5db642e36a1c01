import PyProof.Rows.All
import Wide.All
import OpenK.AllK
import Wide.FinOn
import KE.KStateDown
import HandS.Words
import HandS.ExcField
import HandS.Head0
import HandS.Head1
import HandS.Head2
import HandS.HeadHook1
import HandS.HeadHook2
import HandS.HeadHook3
import HandS.HeadHook4
import HandS.ForMost
import HandS.Exc
import HandS.ExcCtx
import HandS.ExcInit
import HandS.ExcOwn
import HandS.SuiteRaise
import HandS.WordsExc
import HandS.CallSlots
import HandS.TupAny
import HandS.Wide
import HandS.Lambda
import HandS.Style
import HandS.Property
import HandS.Star
import HandS.ClsMeth
import HandS.IsInst
import HandS.FStr
import HandS.Comp
import HandS.Dict
import PyProof.RulesMatchSeq
import PyProof.Rows.MatchSeqLen
import HandS.Conv
import HandS.Text
import HandS.Walk
import HandS.Iter
import PyProof.TupleIter
import PyProof.EnumMake
import PyProof.Draws
import KE.KDictPairs
import HandS.Zip
import HandS.DictComp
import HandS.SetKeys
import HandS.TupSets
import PyProof.DictTruth
import PyProof.TableCode
import KE.KDictList
import PyProof.ListStr
import HandS.Deep
import HandS.GenList
import KE.KMinKey
import HandS.Strs
import HandS.Set
import KE.KFmtOwn
import HandS.SetFor
import KE.KExcIs
import HandS.ExcIs
import HandS.HeadWalk
import HandS.Codes
import HandS.ListItems
import KE.KDflt
import KE.KUnpackStar
import HandS.More
import HandS.Finally
import PyProof.Rows.StrIntSpec
import PyProof.Rows.FactsFmt
import KE.KxField
import HandS.StrMore
import PyProof.StrOps2
import PyProof.FString3
import KE.KDictWalk
import KE.KItemsList
import KE.KDictExact
import KE.GoesMore
import HandS.Replace
import KE.KWithOwn
import HandS.HotCalls
import PySem.Challenge.RW_tapecounters_k08_repeated_calls
set_option Elab.async false
set_option linter.all false
set_option maxRecDepth 100000
set_option maxHeartbeats 2000000
/-! Hz: the head of a law by one kernel run: what is looked at behind the top (Booleans of the part of the heap that the names reach; the defs' objects). -/
namespace Hz
open PySem PySem.Spec PyProof.Rows L2 He
/-! ### defs -/
structure FnZ where
  at_ : PySem.W.Frag → Addr
  name : Str
  qual : Str
  st : Stmt
abbrev FnV2 : Type := Option (Str × Str × Arguments × FuncBody × Scope × Addr × List (Str × Addr) × Value × Addr)
def fnZ (K : PySem.W.Frag) (d : FnZ) : FnV2 := match K.lookup (d.at_ K) with
  | some ⟨_, _, .func fd, _⟩ => some (fd.name, fd.qualname, fd.params, fd.body, fd.scope, fd.globals, fd.closure, fd.defaults, fd.builtins)
  | _ => none
def FnZ.val (d : FnZ) : FnV2 := some (d.name, d.qual, defArgs d.st, .stmts (defBody d.st), defScope d.st, mainGlobals, [], .none, builtinsNs)
def codeZ (K : PySem.W.Frag) (a : Addr) : Addr := match K.lookup a with
  | some ⟨_, _, .func fd, _⟩ => (match fd.code with
    | .ref c => c
    | _ => 0)
  | _ => 0
def FnZ.ok (K : PySem.W.Frag) (d : FnZ) : Bool := PySem.W.keepIn K (.ref (d.at_ K)) && (match K.lookup (d.at_ K) with
  | some ⟨_, _, .func fd, _⟩ => decide (fd.code = .ref (codeZ K (d.at_ K))) && PySem.W.codeIn K fd.code d.qual
  | _ => false)
theorem fnZ_ok {K : PySem.W.Frag} {d : FnZ} (e : fnZ K d = d.val) (c : d.ok K = true) :
    ∃ oc od osl kV doc pm an ct, K.lookup (d.at_ K) = some ⟨oc, od, .func (PySem.W.fnOf d.name d.qual (defArgs d.st) (defBody d.st) (defScope d.st) .none kV doc pm an (.ref (codeZ K (d.at_ K))) ct), osl⟩ ∧ PySem.W.codeIn K (.ref (codeZ K (d.at_ K))) d.qual = true ∧ PySem.W.keepIn K (.ref (d.at_ K)) = true := by
  obtain ⟨kp, c2⟩ := ba c
  unfold fnZ at e
  generalize hz : codeZ K (d.at_ K) = z at c2 ⊢
  cases q : K.lookup (d.at_ K) with
  | none =>
    rw [q] at c2
    cases c2
  | some o =>
    obtain ⟨oc, od, dt, osl⟩ := o
    rw [q] at c2 e
    cases dt with
    | func fd =>
      obtain ⟨n1, n2, n3, n4, n5, n6, n7, n8, n9, n10, n11, n12, n13, n14, n15⟩ := fd
      have e2 : (some (n1, n2, n3, n4, n5, n6, n7, n8, n15) : FnV2) = some (d.name, d.qual, defArgs d.st, .stmts (defBody d.st), defScope d.st, mainGlobals, [], .none, builtinsNs) := e
      simp only [Option.some.injEq, Prod.mk.injEq] at e2
      obtain ⟨h1, h2, h3, h4, h5, h6, h7, h8, h9⟩ := e2
      subst h1 h2 h3 h4 h5 h6 h7 h8 h9
      have c3 : (decide (n13 = .ref z) && PySem.W.codeIn K n13 d.qual) = true := c2
      obtain ⟨k1, k2⟩ := ba c3
      have k1 := of_decide_eq_true k1
      subst k1
      exact ⟨oc, od, osl, n9, n10, n11, n12, n14, rfl, k2, kp⟩
    | _ => cases c2
/-! ### single looks -/
def propF (K : PySem.W.Frag) (T : String) (p : Addr) : Addr := match PySem.W.recIn K p T with
  | some (.ref f :: _) => f
  | _ => 0
def recB (K : PySem.W.Frag) (T : String) (p : Addr) : Bool := match PySem.W.recIn K p T with
  | some (.ref _ :: _) => true
  | _ => false
theorem recB_ok {K : PySem.W.Frag} {T : String} {p : Addr} (h : recB K T p = true) : ∃ r, PySem.W.recIn K p T = some (.ref (propF K T p) :: r) := by
  unfold recB at h
  unfold propF
  split at h
  · rename_i f r e
    rw [e]
    exact ⟨r, rfl⟩
  · cases h
def cvB (K : PySem.W.Frag) (C : Addr) (x : Str) (v : Value) : Bool := match PySem.W.findCls K (.ref C) (.type "type") x with
  | some (.val u) => decide (u = v)
  | _ => false
theorem cvB_ok {K : PySem.W.Frag} {C : Addr} {x : Str} {v : Value} (h : cvB K C x v = true) : PySem.W.findCls K (.ref C) (.type "type") x = some (.val v) := by
  unfold cvB at h
  split at h
  · rename_i u e
    rw [e, of_decide_eq_true h]
  · cases h
def intB (K : PySem.W.Frag) (x : Str) (i : Int) : Bool := match PySem.W.nsIn K mainGlobals x with
  | some (some (.int j _)) => decide (j = i)
  | _ => false
theorem intB_ok {K : PySem.W.Frag} {x : Str} {i : Int} (h : intB K x i = true) : ∃ t, PySem.W.nsIn K mainGlobals x = some (some (.int i t)) := by
  unfold intB at h
  split at h
  · rename_i j t e
    rw [e, of_decide_eq_true h]
    exact ⟨t, rfl⟩
  · cases h
def strB (K : PySem.W.Frag) (x z : Str) : Bool := match PySem.W.nsIn K mainGlobals x with
  | some (some (.str y _)) => decide (y = z)
  | _ => false
theorem strB_ok {K : PySem.W.Frag} {x z : Str} (h : strB K x z = true) : ∃ t, PySem.W.nsIn K mainGlobals x = some (some (.str z t)) := by
  unfold strB at h
  split at h
  · rename_i j t e
    rw [e, of_decide_eq_true h]
    exact ⟨t, rfl⟩
  · cases h
def xlB (K : PySem.W.Frag) (C : Addr) (id : String) : Bool := match K.lookup C with
  | some ⟨.type t, _, .cls cd, sl⟩ => decide (t = "type") && (cd.hasDict && (!cd.hasDel && ((match cd.mro with
    | .ref b :: bm => decide (b = C) && PySem.HandSPX.refsVE bm
    | _ => false) && (match sl.toList with
    | [_, _, _, _, some (.builtin n), _] => decide (n = id)
    | _ => false))))
  | _ => false
theorem xlB_ok {K : PySem.W.Frag} {C : Addr} {id : String} (h : xlB K C id = true) : ∃ nm q N bs bm sn sub ab col dd k0 k1 k2 k3 k5, K.lookup C = some (excClassObj nm q C N bs bm true sn sub ab col dd k0 k1 k2 k3 k5 id) ∧ PySem.HandSPX.refsVE bm = true := by
  unfold xlB at h
  split at h
  · rename_i t dd cd sl e
    obtain ⟨h1, h⟩ := ba h
    obtain ⟨h2, h⟩ := ba h
    obtain ⟨h3, h⟩ := ba h
    obtain ⟨h4, h5⟩ := ba h
    obtain ⟨n1, n2, n3, n4, n5, n6, n7, n8, n9, n10, n11⟩ := cd
    obtain ⟨sl⟩ := sl
    dsimp only at h2 h3 h4 h5
    subst h2
    have h3 : n11 = false := by cases n11 <;> first | rfl | cases h3
    subst h3
    split at h4
    · rename_i b bm
      obtain ⟨h6, h7⟩ := ba h4
      have h6 := of_decide_eq_true h6
      subst h6
      split at h5
      · rename_i k0 k1 k2 k3 n k5
        rw [of_decide_eq_true h1, of_decide_eq_true h5] at e
        exact ⟨_, _, _, _, _, _, _, _, _, _, _, _, _, _, _, e, h7⟩
      · cases h5
    · cases h4
  · cases h
/-! ### the exceptions of a text -/
/-! ### a dict of the module: texts and numbers -/
/-! ### the Hook -/
def tabZ (K : PySem.W.Frag) (c : Addr) : Addr := match K.lookup c with
  | some ⟨_, _, .fields vs, _⟩ => (match vs.getD 11 .none with
    | .ref P => P
    | _ => 0)
  | _ => 0
abbrev AtF : Type := PySem.W.Frag → Addr
/-- defs with a table of lambdas: where their objects stand -/
def tabsZ (g : Addr → Option Obj) (tf : List AtF) (K : PySem.W.Frag) : Bool := tf.all fun p => PySem.W.codeHdIn K (codeZ K (p K)) (tabZ K (codeZ K (p K))) && (match g (tabZ K (codeZ K (p K))) with
  | some o => emptyTab o
  | none => false)
abbrev AlZ : Type := Bool × List FnV2 × List (Option (List (Option (Str × Int))))
/-- dicts of the module with text keys -/
abbrev DtZ : Type := List (AtF × List Str)
def obsK (fn : List FnZ) (tf : List AtF) (dt : DtZ) (ex : PySem.W.Frag → List Bool) (g : Addr → Option Obj) (K : PySem.W.Frag) : AlZ := ((ex K).all id && (tabsZ g tf K && fn.all fun d => d.ok K), fn.map fun d => fnZ K d, dt.map fun p => dicW K (p.1 K))
abbrev AsF : Type := (Addr → Option Obj) → List Addr
def obsZ (as : AsF) (fn : List FnZ) (tf : List AtF) (dt : DtZ) (ex : PySem.W.Frag → List Bool) (g : Addr → Option Obj) : AlZ := obsK fn tf dt ex g (frT g (as g))
def valZ (fn : List FnZ) (dt : DtZ) (w : World) : AlZ := (true, fn.map FnZ.val, dt.map fun p => some (keysIn w.params p.2))
structure SaysZ (fn : List FnZ) (tf : List AtF) (ex : PySem.W.Frag → List Bool) (h : Heap) (K : PySem.W.Frag) : Prop where
  more : ∀ b ∈ ex K, b = true
  ok : ∀ d ∈ fn, d.ok K = true
  fns : fn.map (fun d => fnZ K d) = fn.map FnZ.val
  hd : ∀ p ∈ tf, PySem.W.codeHdIn K (codeZ K (p K)) (tabZ K (codeZ K (p K))) = true
  out : ∀ p ∈ tf, K.lookup (tabZ K (codeZ K (p K))) = none
  empty : ∀ p ∈ tf, h.get? (tabZ K (codeZ K (p K))) = some { cls := .none, data := .fields #[] }
theorem saysZ_at {fn : List FnZ} {tf : List AtF} {dt : DtZ} {w : World} {ex : PySem.W.Frag → List Bool} {h : Heap} {K : PySem.W.Frag} (hk : ∀ {a : Addr} {o : Obj}, h.get? a = some o → emptyTab o = true → K.lookup a = none) (e : obsK fn tf dt ex h.get? K = valZ fn dt w) : SaysZ fn tf ex h K ∧ ∀ p ∈ dt, ∃ es n, L2.KDict K w (p.1 K) es n := by
  have e1 : ((ex K).all id && (tabsZ h.get? tf K && fn.all fun d => d.ok K)) = true := congrArg (fun z : AlZ => z.1) e
  have e2 : fn.map (fun d => fnZ K d) = fn.map FnZ.val := congrArg (fun z : AlZ => z.2.1) e
  have e3 : dt.map (fun p => dicW K (p.1 K)) = dt.map fun p => some (keysIn w.params p.2) := congrArg (fun z : AlZ => z.2.2) e
  obtain ⟨h1, h2⟩ := ba e1
  obtain ⟨h2, h3⟩ := ba h2
  have key : ∀ p ∈ tf, PySem.W.codeHdIn K (codeZ K (p K)) (tabZ K (codeZ K (p K))) = true ∧ ∃ o, h.get? (tabZ K (codeZ K (p K))) = some o ∧ emptyTab o = true := fun p hp => by
    obtain ⟨h4, h5⟩ := ba (List.all_eq_true.mp h2 p hp)
    refine ⟨h4, ?_⟩
    cases q : h.get? (tabZ K (codeZ K (p K))) with
    | none =>
      rw [q] at h5
      cases h5
    | some o =>
      rw [q] at h5
      exact ⟨o, rfl, h5⟩
  refine ⟨⟨fun b hb => List.all_eq_true.mp h1 b hb, fun d hd => List.all_eq_true.mp h3 d hd, e2, fun p hp => (key p hp).1, fun p hp => by
    obtain ⟨_, o, q, z⟩ := key p hp
    exact hk q z, fun p hp => by
    obtain ⟨_, o, q, z⟩ := key p hp
    rw [q, emptyTab_eq z]⟩, fun p hp => dicW_ok (List.map_inj_left.mp e3 p hp)⟩
theorem saysZ_of {as : AsF} {fn : List FnZ} {tf : List AtF} {dt : DtZ} {w : World} {ex : PySem.W.Frag → List Bool} {h : Heap} (e : obsZ as fn tf dt ex h.get? = valZ fn dt w) : SaysZ fn tf ex h (frT h.get? (as h.get?)) ∧ ∀ p ∈ dt, ∃ es n, L2.KDict (frT h.get? (as h.get?)) w (p.1 (frT h.get? (as h.get?))) es n := saysZ_at (fun q z => frT_none q z) e
def hookZ (as : AsF) (fn : List FnZ) (tf : List AtF) (dt : DtZ) (ex : PySem.W.Frag → List Bool) : PySem.W.Hook where
  α := AlZ
  obs := fun s => obsZ as fn tf dt ex s.heap.get?
  val := fun w => valZ fn dt w
  says := fun w h => ∃ K : PySem.W.Frag, K.In h ∧ SaysZ fn tf ex h K ∧ ∀ p ∈ dt, ∃ es n, L2.KDict K w (p.1 K) es n
  of := fun _ _ e => ⟨_, frT_in, saysZ_of e⟩
  keeps := fun _ _ _ ⟨K, hK, c, d⟩ k => ⟨K, PySem.W.Frag.In.keeps hK k, ⟨c.more, c.ok, c.fns, c.hd, c.out, fun p hp => k _ _ (c.empty p hp)⟩, d⟩
theorem obsZ_eq {as : AsF} {fn : List FnZ} {tf : List AtF} {dt : DtZ} {ex : PySem.W.Frag → List Bool} {g : Addr → Option Obj} {s : Shared} (h : ∀ a, g a = s.heap.get? a) : obsZ as fn tf dt ex g = (hookZ as fn tf dt ex).obs s := by
  have e : g = s.heap.get? := funext h
  rw [e] <;> rfl
/-! ### the part of the heap that names tell -/
def satO (o : Obj) : List Addr := match o.data with
  | .cls cd => cd.ns :: cd.mro.flatMap refV
  | .func fd => refV fd.code
  | .fields vs => vs.toList.flatMap refV
  | _ => []
def satG (g : Addr → Option Obj) (as : List Addr) : List Addr := as.flatMap fun a => match g a with
  | some o => satO o
  | none => []
def lay4 (g : Addr → Option Obj) (l0 l1 l2 : List Addr) : List Addr := l0 ++ (l1 ++ (l2 ++ (satG g l2 ++ (satG g (satG g l2) ++ satG g l1))))
def lay3 (g : Addr → Option Obj) (ms : List (Str × Str)) (l0 l1 : List Addr) (K : PySem.W.Frag) : List Addr := lay4 g l0 l1 (ms.map fun p => ma K (ga K p.1) p.2)
def lay2 (g : Addr → Option Obj) (ms : List (Str × Str)) (l0 l1 : List Addr) : List Addr := lay3 g ms l0 l1 (frG g (l0 ++ (l1 ++ satG g l1)))
def lay1 (g : Addr → Option Obj) (ms : List (Str × Str)) (l0 : List Addr) : List Addr := lay2 g ms l0 (satG g l0)
/-- gs: global names (classes first); ms: class, method -/
def layA (gs : List Str) (ms : List (Str × Str)) : AsF := fun g => lay1 g ms (mainGlobals :: cStatics :: gs.map fun x => ga (frG g [mainGlobals]) x)
section
variable {fn : List FnZ} {tf : List AtF} {ex : PySem.W.Frag → List Bool} {h : Heap} {K : PySem.W.Frag}
theorem SaysZ.at (c : SaysZ fn tf ex h K) (i : Nat) {b : Bool} (e : (ex K)[i]? = some b := by rfl) : b = true := c.more b (List.mem_of_getElem? e)
theorem SaysZ.fn_ (c : SaysZ fn tf ex h K) (i : Nat) (a : PySem.W.Frag → Addr) (n q : Str) (st : Stmt) (e : fn[i]? = some ⟨a, n, q, st⟩) : ∃ oc od osl kV doc pm an ct, K.lookup (a K) = some ⟨oc, od, .func (PySem.W.fnOf n q (defArgs st) (defBody st) (defScope st) .none kV doc pm an (.ref (codeZ K (a K))) ct), osl⟩ ∧ PySem.W.codeIn K (.ref (codeZ K (a K))) q = true ∧ PySem.W.keepIn K (.ref (a K)) = true := by
  have e2 : (fn.map fun d => fnZ K d)[i]? = (fn.map FnZ.val)[i]? := by rw [c.fns]
  rw [List.getElem?_map, List.getElem?_map, e] at e2
  exact fnZ_ok (d := ⟨a, n, q, st⟩) (Option.some.inj e2) (c.ok _ (List.mem_of_getElem? e))
def exOf (xs : List (PySem.W.Frag → List Bool)) (K : PySem.W.Frag) : List Bool := xs.flatMap fun x => x K
theorem SaysZ.b2 {xs : List (PySem.W.Frag → List Bool)} (c : SaysZ fn tf (exOf xs) h K) (i : Nat) (x : PySem.W.Frag → List Bool) (e1 : xs[i]? = some x) (j : Nat) {b : Bool} (e2 : (x K)[j]? = some b) : b = true :=
  c.more b (List.mem_flatMap.mpr ⟨x, List.mem_of_getElem? e1, List.mem_of_getElem? e2⟩)
theorem SaysZ.i2 {xs : List (PySem.W.Frag → List Bool)} (c : SaysZ fn tf (exOf xs) h K) (i : Nat) (x : PySem.W.Frag → List Bool) (e1 : xs[i]? = some x) (j : Nat) {p : Prop} [Decidable p] (e2 : (x K)[j]? = some (decide p)) : p := of_decide_eq_true (c.b2 i x e1 j e2)
theorem SaysZ.tab (c : SaysZ fn tf ex h K) (i : Nat) (a : PySem.W.Frag → Addr) (e : tf[i]? = some a) : PySem.W.codeHdIn K (codeZ K (a K)) (tabZ K (codeZ K (a K))) = true ∧ K.lookup (tabZ K (codeZ K (a K))) = none ∧ tabZ K (codeZ K (a K)) ∈ tf.map fun p => tabZ K (codeZ K (p K)) :=
  ⟨c.hd a (List.mem_of_getElem? e), c.out a (List.mem_of_getElem? e), List.mem_map.mpr ⟨a, List.mem_of_getElem? e, rfl⟩⟩
end
/-- a code object's table -/
theorem code_tab {K : PySem.W.Frag} {c P : Addr} (h : PySem.W.codeHdIn K c P = true) : ∃ od vs sl, K.lookup c = some ⟨.type "code", od, .fields vs, sl⟩ ∧ vs[11]? = some (.ref P) := by
  unfold PySem.W.codeHdIn at h
  split at h
  · rename_i od vs sl e
    simp only [Bool.and_eq_true] at h
    obtain ⟨⟨⟨⟨⟨e1, _⟩, _⟩, _⟩, _⟩, _⟩ := h
    split at e1
    · rename_i P' h11
      have hP : P' = P := beq_iff_eq.mp e1
      subst hP
      exact ⟨od, vs, sl, e, h11⟩
    · cases e1
  · cases h
end Hz
set_option Elab.async false
set_option linter.all false
set_option maxRecDepth 100000
set_option maxHeartbeats 0
/-! what the head looks at, in one run -/
namespace TZ
open PySem PySem.Spec PyProof.Rows L2
def topZ (i : Nat) : Stmt := PySem.Challenge.pw_tapecounters_k08_repeated_calls.main.body.getD i (.Pass ⟨0, 0, 0, 0⟩)
def A_fisint (K : PySem.W.Frag) : Addr := He.ga K "is_integer"
def A_CInvalidNumber (K : PySem.W.Frag) : Addr := He.ga K "InvalidNumber"
def A_fcheck (K : PySem.W.Frag) : Addr := He.ga K "check_number"
def A_CDeck (K : PySem.W.Frag) : Addr := He.ga K "Deck"
def A_CInvalidDeck (K : PySem.W.Frag) : Addr := He.ga K "InvalidDeck"
def A_CTapeError (K : PySem.W.Frag) : Addr := He.ga K "TapeError"
def A_fInvalidDeck (K : PySem.W.Frag) : Addr := He.ma K (A_CInvalidDeck K) "__init__"
def A_fDinit (K : PySem.W.Frag) : Addr := He.ma K (A_CDeck K) "__init__"
def A_pcore (K : PySem.W.Frag) : Addr := He.ma K (A_CDeck K) "core"
def A_fcore (K : PySem.W.Frag) : Addr := Hz.propF K "property" (A_pcore K)
def A_pgrowth (K : PySem.W.Frag) : Addr := He.ma K (A_CDeck K) "growth"
def A_fgrowth (K : PySem.W.Frag) : Addr := Hz.propF K "property" (A_pgrowth K)
def A_fgetitem (K : PySem.W.Frag) : Addr := He.ma K (A_CDeck K) "__getitem__"
def A_flength_of (K : PySem.W.Frag) : Addr := He.ma K (A_CDeck K) "length_of"
def A_fturns_in (K : PySem.W.Frag) : Addr := He.ma K (A_CDeck K) "turns_in"
def A_fcall (K : PySem.W.Frag) : Addr := He.ma K (A_CDeck K) "__call__"
def A_fcells (K : PySem.W.Frag) : Addr := He.ma K (A_CDeck K) "cells"
def A_fcells_at (K : PySem.W.Frag) : Addr := He.ma K (A_CDeck K) "cells_at"
def A_flater (K : PySem.W.Frag) : Addr := He.ga K "later_deck"
def A_frshift (K : PySem.W.Frag) : Addr := He.ma K (A_CDeck K) "__rshift__"
def A_fdeq (K : PySem.W.Frag) : Addr := He.ma K (A_CDeck K) "__eq__"
def A_frrange (K : PySem.W.Frag) : Addr := He.ga K "reading_range"
def A_ftaken (K : PySem.W.Frag) : Addr := He.ga K "_law_taken"
def A_f_is_name (K : PySem.W.Frag) : Addr := He.ga K "is_name"
def A_f_is_song (K : PySem.W.Frag) : Addr := He.ga K "is_song"
def A_CInvalidTape (K : PySem.W.Frag) : Addr := He.ga K "InvalidTape"
def A_fInvalidTape (K : PySem.W.Frag) : Addr := He.ma K (A_CInvalidTape K) "__init__"
def A_CTape (K : PySem.W.Frag) : Addr := He.ga K "Tape"
def A_fTI (K : PySem.W.Frag) : Addr := He.ma K (A_CTape K) "__init__"
def A_p_Tape_songs (K : PySem.W.Frag) : Addr := He.ma K (A_CTape K) "songs"
def A_f_Tape_songs (K : PySem.W.Frag) : Addr := Hz.propF K "property" (A_p_Tape_songs K)
def A_p_Tape_names (K : PySem.W.Frag) : Addr := He.ma K (A_CTape K) "names"
def A_f_Tape_names (K : PySem.W.Frag) : Addr := Hz.propF K "property" (A_p_Tape_names K)
def A_p_Tape_size (K : PySem.W.Frag) : Addr := He.ma K (A_CTape K) "size"
def A_f_Tape_size (K : PySem.W.Frag) : Addr := Hz.propF K "property" (A_p_Tape_size K)
def A_f_Tape_span_of (K : PySem.W.Frag) : Addr := He.ma K (A_CTape K) "span_of"
def A_f_Tape_in (K : PySem.W.Frag) : Addr := He.ma K (A_CTape K) "__contains__"
def A_f_tape_of (K : PySem.W.Frag) : Addr := He.ga K "tape_of"
def A_f_Tape_Add (K : PySem.W.Frag) : Addr := He.ma K (A_CTape K) "__add__"
def A_f_Tape_inv (K : PySem.W.Frag) : Addr := He.ma K (A_CTape K) "__invert__"
def A_f_counters (K : PySem.W.Frag) : Addr := He.ga K "counters"
def A_f_begin_readings (K : PySem.W.Frag) : Addr := He.ga K "begin_readings"
def A_f_songs_at (K : PySem.W.Frag) : Addr := He.ga K "songs_at"
def A_f_alike_songs (K : PySem.W.Frag) : Addr := He.ga K "alike_songs"
def A_CInvalidSongs (K : PySem.W.Frag) : Addr := He.ga K "InvalidSongs"
def A_fInvalidSongs (K : PySem.W.Frag) : Addr := He.ma K (A_CInvalidSongs K) "__init__"
def A_f_check_songs (K : PySem.W.Frag) : Addr := He.ga K "check_songs"
def A_f_winding (K : PySem.W.Frag) : Addr := He.ga K "winding"
def A_f_ordered (K : PySem.W.Frag) : Addr := He.ga K "ordered"
def A_f_candidates (K : PySem.W.Frag) : Addr := He.ga K "candidates"
def A_f_best_order (K : PySem.W.Frag) : Addr := He.ga K "best_order"
def A_f_law_pair (K : PySem.W.Frag) : Addr := He.ga K "_law_pair"
def A_f_law_songs (K : PySem.W.Frag) : Addr := He.ga K "_law_songs"
def A_f_law_tape (K : PySem.W.Frag) : Addr := He.ga K "_law_tape"
def A_f_alike (K : PySem.W.Frag) : Addr := He.ga K "_law_alike"
def A_f_law_told (K : PySem.W.Frag) : Addr := He.ga K "_law_told"
def A_f_kept (K : PySem.W.Frag) : Addr := He.ga K "_law_kept"
def A_flaw (K : PySem.W.Frag) : Addr := He.ga K "law"
def x0 (K : PySem.W.Frag) : List Bool := [decide (PySem.W.nsIn K mainGlobals "is_integer" = some (some (.ref (A_fisint K)))), decide (PySem.W.nsIn K mainGlobals "InvalidNumber" = some (some (.ref (A_CInvalidNumber K)))), decide (PySem.W.excIn K (A_CInvalidNumber K) [.type "ValueError", .type "Exception", .type "BaseException", .type "object"] "ValueError.__new__" = true), decide (PySem.W.keepIn K (.ref (A_CInvalidNumber K)) = true), decide (PySem.W.subIn K (.ref (A_CInvalidNumber K)) (.type "BaseException") = some true), decide (PySem.W.typeIn K (.ref (A_CInvalidNumber K)) = some (.type "type")), decide (PySem.W.nsIn K mainGlobals "check_number" = some (some (.ref (A_fcheck K)))), decide (PySem.W.nsIn K mainGlobals "Deck" = some (some (.ref (A_CDeck K)))), decide (PySem.W.plainGet K (A_CDeck K) Str.empty = true), decide (PySem.W.hasDictIn K (A_CDeck K) = true), decide (PySem.W.plainOver K (A_CDeck K) = true), decide (PySem.W.findIn K (.ref (A_CDeck K)) "__setattr__" = some (some (.builtin "object.__setattr__")))]
def x1 (K : PySem.W.Frag) : List Bool := [decide (PySem.W.findIn K (.ref (A_CDeck K)) "__class__" = some (some (.builtin "object.__class__"))), decide (PySem.W.specialIn K (.builtin "object.__class__") "__get__" = some (some (.builtin "getset_descriptor.__get__"))), decide (PySem.W.takesIn K (.builtin "object.__class__") = some true), decide (PySem.W.mroIn K (A_CDeck K) (.type "object") = some true), decide (PySem.W.subIn K (.type "NoneType") (.ref (A_CDeck K)) = some false), decide (PySem.W.subIn K (.type "bool") (.ref (A_CDeck K)) = some false), decide (PySem.W.subIn K (.type "int") (.ref (A_CDeck K)) = some false), decide (PySem.W.subIn K (.type "str") (.ref (A_CDeck K)) = some false), decide (PySem.W.subIn K (.type "tuple") (.ref (A_CDeck K)) = some false), decide (PySem.W.subIn K (.type "list") (.ref (A_CDeck K)) = some false), decide (PySem.W.isClsIn K (A_CDeck K) = true), decide (PySem.W.typeIn K (.ref (A_CDeck K)) = some (.type "type"))]
def x2 (K : PySem.W.Frag) : List Bool := [decide (PySem.W.findIn K (.ref (A_CDeck K)) "first" = some none), decide (PySem.W.findIn K (.ref (A_CDeck K)) "more" = some none), Hz.intB K "MAX_CORE_decks" (1000000000), Hz.intB K "MAX_NUMBER" (1000000000000000000), decide (PySem.W.nsIn K mainGlobals "InvalidDeck" = some (some (.ref (A_CInvalidDeck K)))), decide (PySem.W.nsIn K mainGlobals "TapeError" = some (some (.ref (A_CTapeError K)))), decide (PySem.W.readsIn K (A_CTapeError K) (.type "type") = true), decide (PySem.W.specialIn K (.ref (A_CTapeError K)) "__getattribute__" = some (some (.builtin "type.__getattribute__"))), Hz.cvB K (A_CTapeError K) "__init__" (.builtin "ValueError.__init__"), decide (PySem.W.keepIn K (.ref (A_CInvalidDeck K)) = true), decide (PySem.W.subIn K (.ref (A_CInvalidDeck K)) (.type "BaseException") = some true), decide (PySem.W.typeIn K (.ref (A_CInvalidDeck K)) = some (.type "type"))]
def x3 (K : PySem.W.Frag) : List Bool := [decide (PySem.W.findIn K (.ref (A_CInvalidDeck K)) "__setattr__" = some (some (.builtin "object.__setattr__"))), decide (PySem.W.findIn K (.ref (A_CInvalidDeck K)) "__init__" = some (some (.ref (A_fInvalidDeck K)))), decide (PySem.W.typeIn K (.ref (A_fInvalidDeck K)) = some (.type "function")), decide (PySem.W.findIn K (.ref (A_CInvalidDeck K)) "part" = some none), Hz.xlB K (A_CInvalidDeck K) "ValueError.__new__", decide (PySem.W.makesIn K (A_CDeck K) = true), decide (PySem.W.keepIn K (.ref (A_CDeck K)) = true), decide (PySem.W.findIn K (.ref (A_CDeck K)) "__init__" = some (some (.ref (A_fDinit K)))), decide (PySem.W.isFn K (.ref (A_fDinit K)) = true), decide (PySem.W.findIn K (.ref (A_CDeck K)) "core" = some (some (.ref (A_pcore K)))), decide (PySem.W.specialIn K (.ref (A_pcore K)) "__get__" = some (some (.builtin "property.__get__"))), decide (PySem.W.takesIn K (.ref (A_pcore K)) = some true)]
def x4 (K : PySem.W.Frag) : List Bool := [Hz.recB K "property" (A_pcore K), decide (PySem.W.findIn K (.ref (A_CDeck K)) "growth" = some (some (.ref (A_pgrowth K)))), decide (PySem.W.specialIn K (.ref (A_pgrowth K)) "__get__" = some (some (.builtin "property.__get__"))), decide (PySem.W.takesIn K (.ref (A_pgrowth K)) = some true), Hz.recB K "property" (A_pgrowth K), decide (PySem.W.findIn K (.ref (A_CDeck K)) "__getitem__" = some (some (.ref (A_fgetitem K)))), decide (PySem.W.isFn K (.ref (A_fgetitem K)) = true), decide (PySem.W.fnIn K (A_fgetitem K) = true), decide (PySem.W.findIn K (.ref (A_CDeck K)) "length_of" = some (some (.ref (A_flength_of K)))), decide (PySem.W.isFn K (.ref (A_flength_of K)) = true), decide (PySem.W.findIn K (.ref (A_CDeck K)) "turns_in" = some (some (.ref (A_fturns_in K)))), decide (PySem.W.isFn K (.ref (A_fturns_in K)) = true)]
def x5 (K : PySem.W.Frag) : List Bool := [decide (PySem.W.findIn K (.ref (A_CDeck K)) "__call__" = some (some (.ref (A_fcall K)))), decide (PySem.W.isFn K (.ref (A_fcall K)) = true), decide (PySem.W.fnIn K (A_fcall K) = true), decide (PySem.W.findIn K (.ref (A_CDeck K)) "cells" = some (some (.ref (A_fcells K)))), decide (PySem.W.isFn K (.ref (A_fcells K)) = true), decide (PySem.W.findIn K (.ref (A_CDeck K)) "cells_at" = some (some (.ref (A_fcells_at K)))), decide (PySem.W.isFn K (.ref (A_fcells_at K)) = true), decide (PySem.W.nsIn K mainGlobals "later_deck" = some (some (.ref (A_flater K)))), decide (PySem.W.selfFirst K (A_CDeck K) = true), decide (PySem.W.findIn K (.ref (A_CDeck K)) "__rshift__" = some (some (.ref (A_frshift K)))), decide (PySem.W.isFn K (.ref (A_frshift K)) = true), decide (PySem.W.findIn K (.ref (A_CDeck K)) "__eq__" = some (some (.ref (A_fdeq K))))]
def x6 (K : PySem.W.Frag) : List Bool := [decide (PySem.W.isFn K (.ref (A_fdeq K)) = true), decide (PySem.W.nsIn K mainGlobals "reading_range" = some (some (.ref (A_frrange K)))), decide (PySem.W.nsIn K mainGlobals "_law_taken" = some (some (.ref (A_ftaken K)))), Hz.intB K "MAX_LETTERS" (8), Hz.strB K "LETTERS" "abcdefghijklmnopqrstuvwxyz", decide (PySem.W.nsIn K mainGlobals "is_name" = some (some (.ref (A_f_is_name K)))), decide (PySem.W.nsIn K mainGlobals "is_song" = some (some (.ref (A_f_is_song K)))), Hz.intB K "MAX_SONGS_tapes" (30), decide (PySem.W.nsIn K mainGlobals "InvalidTape" = some (some (.ref (A_CInvalidTape K)))), decide (PySem.W.keepIn K (.ref (A_CInvalidTape K)) = true), decide (PySem.W.subIn K (.ref (A_CInvalidTape K)) (.type "BaseException") = some true), decide (PySem.W.typeIn K (.ref (A_CInvalidTape K)) = some (.type "type"))]
def x7 (K : PySem.W.Frag) : List Bool := [decide (PySem.W.findIn K (.ref (A_CInvalidTape K)) "__setattr__" = some (some (.builtin "object.__setattr__"))), decide (PySem.W.findIn K (.ref (A_CInvalidTape K)) "__init__" = some (some (.ref (A_fInvalidTape K)))), decide (PySem.W.typeIn K (.ref (A_fInvalidTape K)) = some (.type "function")), decide (PySem.W.findIn K (.ref (A_CInvalidTape K)) "index" = some none), Hz.xlB K (A_CInvalidTape K) "ValueError.__new__", decide (PySem.W.nsIn K mainGlobals "Tape" = some (some (.ref (A_CTape K)))), decide (PySem.W.plainGet K (A_CTape K) Str.empty = true), decide (PySem.W.hasDictIn K (A_CTape K) = true), decide (PySem.W.plainOver K (A_CTape K) = true), decide (PySem.W.findIn K (.ref (A_CTape K)) "__setattr__" = some (some (.builtin "object.__setattr__"))), decide (PySem.W.findIn K (.ref (A_CTape K)) "listed" = some none), decide (PySem.W.findIn K (.ref (A_CTape K)) "begins" = some none)]
def x8 (K : PySem.W.Frag) : List Bool := [decide (PySem.W.findIn K (.ref (A_CTape K)) "total" = some none), decide (PySem.W.makesIn K (A_CTape K) = true), decide (PySem.W.keepIn K (.ref (A_CTape K)) = true), decide (PySem.W.findIn K (.ref (A_CTape K)) "__init__" = some (some (.ref (A_fTI K)))), decide (PySem.W.isFn K (.ref (A_fTI K)) = true), decide (PySem.W.findIn K (.ref (A_CTape K)) "songs" = some (some (.ref (A_p_Tape_songs K)))), decide (PySem.W.specialIn K (.ref (A_p_Tape_songs K)) "__get__" = some (some (.builtin "property.__get__"))), decide (PySem.W.takesIn K (.ref (A_p_Tape_songs K)) = some true), Hz.recB K "property" (A_p_Tape_songs K), decide (PySem.W.findIn K (.ref (A_CTape K)) "names" = some (some (.ref (A_p_Tape_names K)))), decide (PySem.W.specialIn K (.ref (A_p_Tape_names K)) "__get__" = some (some (.builtin "property.__get__"))), decide (PySem.W.takesIn K (.ref (A_p_Tape_names K)) = some true)]
def x9 (K : PySem.W.Frag) : List Bool := [Hz.recB K "property" (A_p_Tape_names K), decide (PySem.W.findIn K (.ref (A_CTape K)) "size" = some (some (.ref (A_p_Tape_size K)))), decide (PySem.W.specialIn K (.ref (A_p_Tape_size K)) "__get__" = some (some (.builtin "property.__get__"))), decide (PySem.W.takesIn K (.ref (A_p_Tape_size K)) = some true), Hz.recB K "property" (A_p_Tape_size K), decide (PySem.W.findIn K (.ref (A_CTape K)) "span_of" = some (some (.ref (A_f_Tape_span_of K)))), decide (PySem.W.isFn K (.ref (A_f_Tape_span_of K)) = true), decide (PySem.W.findIn K (.ref (A_CTape K)) "__contains__" = some (some (.ref (A_f_Tape_in K)))), decide (PySem.W.isFn K (.ref (A_f_Tape_in K)) = true), decide (PySem.W.nsIn K mainGlobals "tape_of" = some (some (.ref (A_f_tape_of K)))), decide (PySem.W.selfFirst K (A_CTape K) = true), decide (PySem.W.findIn K (.ref (A_CTape K)) "__add__" = some (some (.ref (A_f_Tape_Add K))))]
def x10 (K : PySem.W.Frag) : List Bool := [decide (PySem.W.isFn K (.ref (A_f_Tape_Add K)) = true), decide (PySem.W.findIn K (.ref (A_CTape K)) "__invert__" = some (some (.ref (A_f_Tape_inv K)))), decide (PySem.W.isFn K (.ref (A_f_Tape_inv K)) = true), decide (PySem.W.nsIn K mainGlobals "counters" = some (some (.ref (A_f_counters K)))), decide (PySem.W.nsIn K mainGlobals "begin_readings" = some (some (.ref (A_f_begin_readings K)))), decide (PySem.W.nsIn K mainGlobals "songs_at" = some (some (.ref (A_f_songs_at K)))), decide (PySem.W.nsIn K mainGlobals "alike_songs" = some (some (.ref (A_f_alike_songs K)))), decide (PySem.W.nsIn K mainGlobals "InvalidSongs" = some (some (.ref (A_CInvalidSongs K)))), decide (PySem.W.keepIn K (.ref (A_CInvalidSongs K)) = true), decide (PySem.W.subIn K (.ref (A_CInvalidSongs K)) (.type "BaseException") = some true), decide (PySem.W.typeIn K (.ref (A_CInvalidSongs K)) = some (.type "type")), decide (PySem.W.findIn K (.ref (A_CInvalidSongs K)) "__setattr__" = some (some (.builtin "object.__setattr__")))]
def x11 (K : PySem.W.Frag) : List Bool := [decide (PySem.W.findIn K (.ref (A_CInvalidSongs K)) "__init__" = some (some (.ref (A_fInvalidSongs K)))), decide (PySem.W.typeIn K (.ref (A_fInvalidSongs K)) = some (.type "function")), decide (PySem.W.findIn K (.ref (A_CInvalidSongs K)) "index" = some none), Hz.xlB K (A_CInvalidSongs K) "ValueError.__new__", decide (PySem.W.nsIn K mainGlobals "check_songs" = some (some (.ref (A_f_check_songs K)))), decide (PySem.W.nsIn K mainGlobals "winding" = some (some (.ref (A_f_winding K)))), decide (PySem.W.nsIn K mainGlobals "ordered" = some (some (.ref (A_f_ordered K)))), decide (PySem.W.nsIn K mainGlobals "candidates" = some (some (.ref (A_f_candidates K)))), decide (PySem.W.nsIn K mainGlobals "best_order" = some (some (.ref (A_f_best_order K)))), decide (PySem.W.nsIn K mainGlobals "_law_pair" = some (some (.ref (A_f_law_pair K)))), decide (PySem.W.nsIn K mainGlobals "_law_songs" = some (some (.ref (A_f_law_songs K)))), decide (PySem.W.nsIn K mainGlobals "_law_tape" = some (some (.ref (A_f_law_tape K))))]
def x12 (K : PySem.W.Frag) : List Bool := [decide (PySem.W.nsIn K mainGlobals "_law_alike" = some (some (.ref (A_f_alike K)))), decide (PySem.W.nsIn K mainGlobals "_law_told" = some (some (.ref (A_f_law_told K)))), decide (PySem.W.nsIn K mainGlobals "_law_kept" = some (some (.ref (A_f_kept K)))), decide (PySem.W.nsIn K mainGlobals "law" = some (some (.ref (A_flaw K)))), decide (PySem.W.nsIn K mainGlobals "isinstance" = some none), decide (PySem.W.nsIn K mainGlobals "int" = some none), decide (PySem.W.nsIn K mainGlobals "bool" = some none), decide (PySem.W.nsIn K mainGlobals "len" = some none), decide (PySem.W.nsIn K mainGlobals "range" = some none), decide (PySem.W.nsIn K mainGlobals "min" = some none), decide (PySem.W.nsIn K mainGlobals "max" = some none), decide (PySem.W.nsIn K mainGlobals "abs" = some none)]
def x13 (K : PySem.W.Frag) : List Bool := [decide (PySem.W.nsIn K mainGlobals "sum" = some none), decide (PySem.W.nsIn K mainGlobals "list" = some none), decide (PySem.W.nsIn K mainGlobals "tuple" = some none), decide (PySem.W.nsIn K mainGlobals "set" = some none), decide (PySem.W.nsIn K mainGlobals "sorted" = some none), decide (PySem.W.nsIn K mainGlobals "dict" = some none), decide (PySem.W.nsIn K mainGlobals "enumerate" = some none), decide (PySem.W.nsIn K mainGlobals "zip" = some none), decide (PySem.W.nsIn K mainGlobals "all" = some none), decide (PySem.W.nsIn K mainGlobals "any" = some none), decide (PySem.W.nsIn K mainGlobals "str" = some none), decide (PySem.W.nsIn K mainGlobals "bytes" = some none)]
def xsp0 : List (PySem.W.Frag → List Bool) := [x0, x1, x2, x3, x4, x5, x6, x7, x8, x9, x10, x11, x12, x13]
def xs : List (PySem.W.Frag → List Bool) := xsp0
def fnsp0 : List Hz.FnZ := [⟨A_fisint, "is_integer", "is_integer", topZ 11⟩, ⟨A_fcheck, "check_number", "check_number", topZ 12⟩, ⟨A_fInvalidDeck, "__init__", "InvalidDeck.__init__", inClass (topZ 3) 0⟩, ⟨A_fDinit, "__init__", "Deck.__init__", inClass (topZ 13) 1⟩, ⟨A_fcore, "core", "Deck.core", inClass (topZ 13) 3⟩, ⟨A_fgrowth, "growth", "Deck.growth", inClass (topZ 13) 4⟩, ⟨A_fgetitem, "__getitem__", "Deck.__getitem__", inClass (topZ 13) 6⟩, ⟨A_flength_of, "length_of", "Deck.length_of", inClass (topZ 13) 10⟩, ⟨A_fturns_in, "turns_in", "Deck.turns_in", inClass (topZ 13) 12⟩, ⟨A_fcall, "__call__", "Deck.__call__", inClass (topZ 13) 8⟩, ⟨A_fcells, "cells", "Deck.cells", inClass (topZ 13) 11⟩, ⟨A_fcells_at, "cells_at", "Deck.cells_at", inClass (topZ 13) 13⟩, ⟨A_flater, "later_deck", "later_deck", topZ 14⟩, ⟨A_frshift, "__rshift__", "Deck.__rshift__", inClass (topZ 13) 9⟩, ⟨A_fdeq, "__eq__", "Deck.__eq__", inClass (topZ 13) 5⟩, ⟨A_frrange, "reading_range", "reading_range", topZ 15⟩, ⟨A_ftaken, "_law_taken", "_law_taken", topZ 37⟩, ⟨A_f_is_name, "is_name", "is_name", topZ 25⟩, ⟨A_f_is_song, "is_song", "is_song", topZ 26⟩, ⟨A_fInvalidTape, "__init__", "InvalidTape.__init__", inClass (topZ 4) 0⟩, ⟨A_fTI, "__init__", "Tape.__init__", L2.inClass (topZ 27) 1⟩, ⟨A_f_Tape_songs, "songs", "Tape.songs", L2.inClass (topZ 27) 3⟩, ⟨A_f_Tape_names, "names", "Tape.names", L2.inClass (topZ 27) 4⟩, ⟨A_f_Tape_size, "size", "Tape.size", L2.inClass (topZ 27) 5⟩, ⟨A_f_Tape_span_of, "span_of", "Tape.span_of", L2.inClass (topZ 27) 9⟩, ⟨A_f_Tape_in, "__contains__", "Tape.__contains__", L2.inClass (topZ 27) 11⟩, ⟨A_f_tape_of, "tape_of", "tape_of", topZ 28⟩, ⟨A_f_Tape_Add, "__add__", "Tape.__add__", L2.inClass (topZ 27) 14⟩, ⟨A_f_Tape_inv, "__invert__", "Tape.__invert__", L2.inClass (topZ 27) 16⟩, ⟨A_f_counters, "counters", "counters", topZ 17⟩]
def fnsp1 : List Hz.FnZ := [⟨A_f_begin_readings, "begin_readings", "begin_readings", topZ 18⟩, ⟨A_f_songs_at, "songs_at", "songs_at", topZ 19⟩, ⟨A_f_alike_songs, "alike_songs", "alike_songs", topZ 20⟩, ⟨A_fInvalidSongs, "__init__", "InvalidSongs.__init__", inClass (topZ 7) 0⟩, ⟨A_f_check_songs, "check_songs", "check_songs", topZ 31⟩, ⟨A_f_winding, "winding", "winding", topZ 32⟩, ⟨A_f_ordered, "ordered", "ordered", topZ 33⟩, ⟨A_f_candidates, "candidates", "candidates", topZ 34⟩, ⟨A_f_best_order, "best_order", "best_order", topZ 35⟩, ⟨A_f_law_pair, "_law_pair", "_law_pair", topZ 39⟩, ⟨A_f_law_songs, "_law_songs", "_law_songs", topZ 40⟩, ⟨A_f_law_tape, "_law_tape", "_law_tape", topZ 41⟩, ⟨A_f_alike, "_law_alike", "_law_alike", topZ 38⟩, ⟨A_f_law_told, "_law_told", "_law_told", topZ 42⟩, ⟨A_f_kept, "_law_kept", "_law_kept", topZ 43⟩, ⟨A_flaw, "law", "law", topZ 44⟩]
def fns : List Hz.FnZ := fnsp0 ++ fnsp1
def tfs : List Hz.AtF := [A_f_best_order]
abbrev R : PySem.W.OpenRow := PySem.W.OpenLaw.row PySem.Challenge.rw_tapecounters_k08_repeated_calls
abbrev qv : Program := PySem.W.view R.prog [0, 1, 2, 3, 4, 5, 6, 7, 8, 11, 12, 14, 15, 16, 17, 18, 19, 20, 21, 22, 23, 24, 25, 26, 28, 29, 30, 31, 32, 33, 34, 35, 36, 37, 38, 39, 40, 41, 42, 43, 44]
def loose_p0 : List Str := ["MAX_CORE_decks", "MAX_NUMBER", "Deck", "Tape"]
def loose_ : List Str := loose_p0
def gsp0 : List Str := ["InvalidNumber", "Deck", "InvalidDeck", "TapeError", "InvalidTape", "Tape", "InvalidSongs", "is_integer", "check_number", "later_deck", "reading_range", "_law_taken", "is_name", "is_song", "tape_of", "counters", "begin_readings", "songs_at", "alike_songs", "check_songs", "winding", "ordered", "candidates", "best_order", "_law_pair", "_law_songs", "_law_tape", "_law_alike", "_law_told", "_law_kept"]
def gsp1 : List Str := ["law"]
def gs : List Str := gsp0 ++ gsp1
def msp0 : List (Str × Str) := [("InvalidDeck", "__init__"), ("Deck", "__init__"), ("Deck", "core"), ("Deck", "growth"), ("Deck", "__getitem__"), ("Deck", "length_of"), ("Deck", "turns_in"), ("Deck", "__call__"), ("Deck", "cells"), ("Deck", "cells_at"), ("Deck", "__rshift__"), ("Deck", "__eq__"), ("InvalidTape", "__init__"), ("Tape", "__init__"), ("Tape", "songs"), ("Tape", "names"), ("Tape", "size"), ("Tape", "span_of"), ("Tape", "__contains__"), ("Tape", "__add__"), ("Tape", "__invert__"), ("InvalidSongs", "__init__")]
def ms : List (Str × Str) := msp0
def as_ : Hz.AsF := Hz.layA gs ms
def dts : Hz.DtZ := []
abbrev hk : PySem.W.Hook := Hz.hookZ as_ fns tfs dts (Hz.exOf xs)
def ob (s : PySem.W.SharedT) : Hz.AlZ := Hz.obsZ as_ fns tfs dts (Hz.exOf xs) (HandSHeadRun.getT s)
theorem ob_eq (s : PySem.W.SharedT) : ob s = hk.obs s.abs := Hz.obsZ_eq (HandSHeadRun.getT_eq s)
theorem run (w : World) : HandSHeadRun.RunEq R qv hk ob 20000 loose_ w := by
  intro os
  kernel_rfl
end TZ
set_option Elab.async false
set_option linter.all false
set_option maxRecDepth 100000
set_option maxHeartbeats 2000000
/-! DL1: data, what bears them in the abstract heap, canonical readings. -/
namespace DL
open PySem PySem.Spec PyProof.Rows L2
/-! ### data -/
inductive D where
  | non | bl (b : Bool) | int (i : Int) | str (x : Str) | byt (b : Array UInt8)
  | tup (ds : List D) | ptup (ds : List D) | lst (ds : List D) | dct (kvs : List (Key × D))
  | deck (c g : Int) | tape (ss : List (Str × Int))
  | ref (a : Addr) | ty (n : String) | scr (ns : List Int)
/-- a song as data -/
def songD (p : Str × Int) : D := .tup [.str p.1, .int p.2]
/-- first cells -/
def begsV : Int → List (Str × Int) → List (Key × V)
  | _, [] => []
  | b, (n, l) :: r => (.inr n, .int b) :: begsV (b + l) r
def total (ss : List (Str × Int)) : Int := (ss.map (·.2)).sum
/-- what an owned object holds -/
inductive OS where
  | lst (ds : List D) | ins (C : Addr) (fs : List (Str × D)) | dct (kvs : List (Key × D))
  | tbl (q : Str)
  | xd (gs : List (Str × V)) (fs : List (Str × D))
  | lam (u : HO) (c : Addr) (q : Str)
abbrev O := Addr → Option OS
def updO (o : O) (a : Addr) (x : OS) : O := fun b => if b = a then some x else o b
theorem updO_same {o : O} {a : Addr} {x : OS} : updO o a x a = some x := by unfold updO; rw [if_pos rfl]
theorem updO_ne {o : O} {a b : Addr} {x : OS} (h : b ≠ a) : updO o a x b = o b := by unfold updO; rw [if_neg h]
theorem updO_updO {o : O} {a : Addr} {x y : OS} : updO (updO o a x) a y = updO o a y := by
  funext b; unfold updO; split <;> rfl
theorem updO_self {o : O} {a : Addr} {x : OS} (h : o a = some x) : updO o a x = o := by
  funext b; unfold updO; split
  · rename_i e; rw [e, h]
  · rfl
/-- the classes of the text -/
structure Tx where
  deck : Addr
  tape : Addr
def fDeck (c g : Int) : List (Str × V) := putF "more" (.int g) (putF "first" (.int c) [])
def fTape (t b : Addr) (n : Int) : List (Str × V) := putF "total" (.int n) (putF "begins" (.ref b) (putF "listed" (.ref t) []))
def hp0 : Hp := fun _ => none
def SqTm (K : PySem.W.Frag) (H : Hp) (o : O) (a : Addr) (xs : List V) : Prop := (Rd H a (.tup xs) ∧ o a = none) ∨ SqT K hp0 a xs
def SqLm (K : PySem.W.Frag) (H : Hp) (o : O) (a : Addr) (xs : List V) : Prop := (Rd H a (.lst xs) ∧ o a = none) ∨ SqL K hp0 a xs
theorem rd0 {a : Addr} {u : HO} (h : Rd hp0 a u) : False := by
  rcases h with h | ⟨_, h⟩ <;> cases h
theorem SqTm.to {K : PySem.W.Frag} {H : Hp} {o : O} {a : Addr} {xs : List V} (h : SqTm K H o a xs) : SqT K H a xs := by
  rcases h with h | h | h
  · exact .inl h.1
  · exact (rd0 h).elim
  · exact .inr h
theorem SqLm.to {K : PySem.W.Frag} {H : Hp} {o : O} {a : Addr} {xs : List V} (h : SqLm K H o a xs) : SqL K H a xs := by
  rcases h with h | h | h
  · exact .inl h.1
  · exact (rd0 h).elim
  · exact .inr h
/-- a tuple's object that has nothing but its items -/
def Plain (ob : Obj) : Prop := ob.cls = .type "tuple" ∧ ob.dict = none
mutual
/-- the value v bears the datum d -/
inductive R (K : PySem.W.Frag) (τ : Tx) (H : Hp) (o : O) : V → D → Prop where
  | non : R K τ H o .non .non
  | bl (b : Bool) : R K τ H o (.bl b) (.bl b)
  | int (i : Int) : R K τ H o (.int i) (.int i)
  | str (x : Str) : R K τ H o (.str x) (.str x)
  | byt (x : Array UInt8) : R K τ H o (.byt x) (.byt x)
  | ref (a : Addr) : R K τ H o (.ref a) (.ref a)
  | ty (n : String) : R K τ H o (.ty n) (.ty n)
  | tup {a : Addr} {vs : List V} {ds : List D} (h : SqTm K H o a vs) (r : Rs K τ H o vs ds) : R K τ H o (.ref a) (.tup ds)
  | ptup {a : Addr} {vs : List V} {ds : List D} {ob : Obj} (h : H a = some (.frz ob (.tup vs))) (hp : Plain ob) (n : o a = none) (r : Rs K τ H o vs ds) : R K τ H o (.ref a) (.ptup ds)
  | lst {a : Addr} {vs : List V} {ds : List D} (h : H a = some (.lst vs)) (n : o a = none) (r : Rs K τ H o vs ds) : R K τ H o (.ref a) (.lst ds)
  | scr {a : Addr} {ns : List Int} (h : SqLm K H o a (ns.map V.int)) : R K τ H o (.ref a) (.scr ns)
  | dct {a : Addr} {kvs : List (Key × V)} {kds : List (Key × D)} (h : Rd H a (.dK kvs)) (n : o a = none) (r : Rk K τ H o kvs kds) : R K τ H o (.ref a) (.dct kds)
  | deck {a dx : Addr} {c g : Int} (h : H a = some (.ins τ.deck dx (fDeck c g))) (n : o a = none) : R K τ H o (.ref a) (.deck c g)
  | tape {a dx t b : Addr} {ss : List (Str × Int)} (h : H a = some (.ins τ.tape dx (fTape t b (total ss)))) (n : o a = none) (r : R K τ H o (.ref t) (.ptup (ss.map songD)))
      (hb : Rd H b (.dK (begsV 0 ss))) (nb : o b = none) : R K τ H o (.ref a) (.tape ss)
inductive Rs (K : PySem.W.Frag) (τ : Tx) (H : Hp) (o : O) : List V → List D → Prop where
  | nil : Rs K τ H o [] []
  | cons {v : V} {d : D} {vs : List V} {ds : List D} (h : R K τ H o v d) (r : Rs K τ H o vs ds) : Rs K τ H o (v :: vs) (d :: ds)
inductive Rk (K : PySem.W.Frag) (τ : Tx) (H : Hp) (o : O) : List (Key × V) → List (Key × D) → Prop where
  | nil : Rk K τ H o [] []
  | cons {k : Key} {v : V} {d : D} {vs : List (Key × V)} {ds : List (Key × D)} (h : R K τ H o v d) (r : Rk K τ H o vs ds) : Rk K τ H o ((k, v) :: vs) ((k, d) :: ds)
end
inductive Rf (K : PySem.W.Frag) (τ : Tx) (H : Hp) (o : O) : List (Str × V) → List (Str × D) → Prop where
  | nil : Rf K τ H o [] []
  | cons {k : Str} {v : V} {d : D} {vs : List (Str × V)} {ds : List (Str × D)} (h : R K τ H o v d) (r : Rf K τ H o vs ds) : Rf K τ H o ((k, v) :: vs) ((k, d) :: ds)
/-- the same but for a lock on a dict -/
def isD : HO → Option (List (Key × V))
  | .dK kvs => some kvs
  | .frz _ (.dK kvs) => some kvs
  | _ => none
/-- the same, or locked since -/
def Sm (x y : HO) : Prop := x = y ∨ ∃ kvs ob, x = .dK kvs ∧ y = .frz ob (.dK kvs)
/-- what is not owned stands as it stood, and nobody owns it; what is locked stays locked -/
def Le (H : Hp) (o : O) (H' : Hp) (o' : O) : Prop := ∀ a x, o a = none → H a = some x → (∃ y, H' a = some y ∧ Sm x y) ∧ o' a = none
/-- .. or is locked no more -/
def Lw (H : Hp) (o : O) (H' : Hp) (o' : O) : Prop := ∀ a x, o a = none → H a = some x → (∃ y, H' a = some y ∧ (x = y ∨ ∃ kvs, isD x = some kvs ∧ isD y = some kvs)) ∧ o' a = none
theorem Le.lw {H H' : Hp} {o o' : O} (l : Le H o H' o') : Lw H o H' o' := fun a x n e => by
  obtain ⟨⟨y, h, s⟩, n'⟩ := l a x n e
  refine ⟨⟨y, h, ?_⟩, n'⟩
  rcases s with s | ⟨kvs, ob, s, t⟩
  · exact .inl s
  · subst s t; exact .inr ⟨kvs, rfl, rfl⟩
theorem Le.mk {H H' : Hp} {o o' : O} (h : ∀ a x, o a = none → H a = some x → H' a = some x ∧ o' a = none) : Le H o H' o' := fun a x n e => ⟨⟨x, (h a x n e).1, .inl rfl⟩, (h a x n e).2⟩
theorem Lw.ex {H H' : Hp} {o o' : O} (l : Lw H o H' o') {a : Addr} {x : HO} (n : o a = none) (e : H a = some x) (hx : isD x = none) : H' a = some x ∧ o' a = none := by
  obtain ⟨⟨y, h, s⟩, n'⟩ := l a x n e
  rcases s with s | ⟨kvs, s, _⟩
  · subst s; exact ⟨h, n'⟩
  · rw [hx] at s; cases s
theorem Le.ex {H H' : Hp} {o o' : O} (l : Le H o H' o') {a : Addr} {x : HO} (n : o a = none) (e : H a = some x) (hx : isD x = none) : H' a = some x ∧ o' a = none := l.lw.ex n e hx
/-- what is locked stays so -/
theorem Le.frz {H H' : Hp} {o o' : O} (l : Le H o H' o') {a : Addr} {ob : Obj} {u : HO} (n : o a = none) (e : H a = some (.frz ob u)) : H' a = some (.frz ob u) := by
  obtain ⟨⟨y, h, s⟩, n'⟩ := l a _ n e
  rcases s with s | ⟨kvs, ob, s, _⟩
  · subst s; exact h
  · cases s
theorem isD_rd {H : Hp} {a : Addr} {x : HO} {kvs : List (Key × V)} (h : H a = some x) (e : isD x = some kvs) : Rd H a (.dK kvs) := by
  cases x with
  | dK k => cases e; exact .inl h
  | frz ob u => cases u with
    | dK k => cases e; exact .inr ⟨ob, h⟩
    | _ => cases e
  | _ => cases e
theorem Lw.dk {H H' : Hp} {o o' : O} (l : Lw H o H' o') {a : Addr} {kvs : List (Key × V)} (n : o a = none) (h : Rd H a (.dK kvs)) : Rd H' a (.dK kvs) ∧ o' a = none := by
  rcases h with h | ⟨ob, h⟩
  · obtain ⟨⟨y, e, s⟩, n'⟩ := l a _ n h
    rcases s with s | ⟨k, s, t⟩
    · subst s; exact ⟨.inl e, n'⟩
    · cases s; exact ⟨isD_rd e t, n'⟩
  · obtain ⟨⟨y, e, s⟩, n'⟩ := l a _ n h
    rcases s with s | ⟨k, s, t⟩
    · subst s; exact ⟨.inr ⟨ob, e⟩, n'⟩
    · cases s; exact ⟨isD_rd e t, n'⟩
theorem Le.dk {H H' : Hp} {o o' : O} (l : Le H o H' o') {a : Addr} {kvs : List (Key × V)} (n : o a = none) (h : Rd H a (.dK kvs)) : Rd H' a (.dK kvs) ∧ o' a = none := l.lw.dk n h
theorem Sm.trans {x y z : HO} (a : Sm x y) (b : Sm y z) : Sm x z := by
  rcases a with rfl | ⟨k, ob, h1, h2⟩
  · exact b
  · rcases b with rfl | ⟨k', ob', h3, h4⟩
    · exact .inr ⟨k, ob, h1, h2⟩
    · rw [h2] at h3; cases h3
theorem Le.refl {H : Hp} {o : O} : Le H o H o := Le.mk fun _ _ n h => ⟨h, n⟩
theorem Le.trans {H H1 H2 : Hp} {o o1 o2 : O} (a : Le H o H1 o1) (b : Le H1 o1 H2 o2) : Le H o H2 o2 := fun x u n h => by
  obtain ⟨⟨y, e, s⟩, n1⟩ := a x u n h
  obtain ⟨⟨z, e2, s2⟩, n2⟩ := b x y n1 e
  exact ⟨⟨z, e2, s.trans s2⟩, n2⟩
/-- a new object -/
theorem Le.new {H : Hp} {o : O} {p : Addr} {u : HO} (h : H p = none) : Le H o (upd H p u) o := Le.mk fun a x n e => ⟨by rw [upd_ne (ne_of_none e h)]; exact e, n⟩
theorem Le.newO {H : Hp} {o : O} {p : Addr} {u : HO} {y : OS} (h : H p = none) : Le H o (upd H p u) (updO o p y) := Le.mk fun a x n e => by
  have q := ne_of_none e h
  exact ⟨by rw [upd_ne q]; exact e, by rw [updO_ne q]; exact n⟩
/-- an owned object is written -/
theorem Le.write {H : Hp} {o : O} {p : Addr} {u : HO} {y z : OS} (h : o p = some z) : Le H o (upd H p u) (updO o p y) := Le.mk fun a x n e => by
  have q : a ≠ p := fun q => by rw [q, h] at n; cases n
  exact ⟨by rw [upd_ne q]; exact e, by rw [updO_ne q]; exact n⟩
theorem Lw.rd {H H' : Hp} {o o' : O} (l : Lw H o H' o') {a : Addr} {u : HO} (n : o a = none) (h : Rd H a u) (hu : isD u = none := by rfl) (hu2 : ∀ ob, isD (.frz ob u) = none := by intro _; rfl) : Rd H' a u ∧ o' a = none := by
  rcases h with h | ⟨ob, h⟩
  · exact ⟨.inl (l.ex n h hu).1, (l.ex n h hu).2⟩
  · exact ⟨.inr ⟨ob, (l.ex n h (hu2 ob)).1⟩, (l.ex n h (hu2 ob)).2⟩
theorem Le.rd {H H' : Hp} {o o' : O} (l : Le H o H' o') {a : Addr} {u : HO} (n : o a = none) (h : Rd H a u) (hu : isD u = none := by rfl) (hu2 : ∀ ob, isD (.frz ob u) = none := by intro _; rfl) : Rd H' a u ∧ o' a = none := l.lw.rd n h hu hu2
section
variable {K : PySem.W.Frag} {τ : Tx} {H H' : Hp} {o o' : O}
theorem SqTm.monoW (l : Lw H o H' o') {a : Addr} {xs : List V} (h : SqTm K H o a xs) : SqTm K H' o' a xs := by
  rcases h with h | h
  · exact .inl (l.rd h.2 h.1)
  · exact .inr h
theorem SqLm.monoW (l : Lw H o H' o') {a : Addr} {xs : List V} (h : SqLm K H o a xs) : SqLm K H' o' a xs := by
  rcases h with h | h
  · exact .inl (l.rd h.2 h.1)
  · exact .inr h
mutual
theorem R.monoW (l : Lw H o H' o') {v : V} {d : D} : R K τ H o v d → R K τ H' o' v d
  | .non => .non
  | .bl b => .bl b
  | .int i => .int i
  | .str x => .str x
  | .byt x => .byt x
  | .ref a => .ref a
  | .ty n => .ty n
  | .tup h r => .tup (h.monoW l) (r.monoW l)
  | .ptup h hp n r => .ptup (l.ex n h rfl).1 hp (l.ex n h rfl).2 (r.monoW l)
  | .lst h n r => .lst (l.ex n h rfl).1 (l.ex n h rfl).2 (r.monoW l)
  | .scr h => .scr (h.monoW l)
  | .dct h n r => .dct (l.dk n h).1 (l.dk n h).2 (r.monoW l)
  | .deck h n => .deck (l.ex n h rfl).1 (l.ex n h rfl).2
  | .tape h n r hb nb => .tape (l.ex n h rfl).1 (l.ex n h rfl).2 (r.monoW l) (l.dk nb hb).1 (l.dk nb hb).2
theorem Rs.monoW (l : Lw H o H' o') {vs : List V} {ds : List D} : Rs K τ H o vs ds → Rs K τ H' o' vs ds
  | .nil => .nil
  | .cons h r => .cons (h.monoW l) (r.monoW l)
theorem Rk.monoW (l : Lw H o H' o') {vs : List (Key × V)} {ds : List (Key × D)} : Rk K τ H o vs ds → Rk K τ H' o' vs ds
  | .nil => .nil
  | .cons h r => .cons (h.monoW l) (r.monoW l)
end
theorem Rf.monoW (l : Lw H o H' o') {vs : List (Str × V)} {ds : List (Str × D)} (r : Rf K τ H o vs ds) : Rf K τ H' o' vs ds := by
  induction r with
  | nil => exact .nil
  | cons h r ih => exact .cons (h.monoW l) ih
end
section
variable {K : PySem.W.Frag} {τ : Tx} {H H' : Hp} {o o' : O}
theorem SqTm.mono (l : Le H o H' o') {a : Addr} {xs : List V} (h : SqTm K H o a xs) : SqTm K H' o' a xs := h.monoW l.lw
theorem SqLm.mono (l : Le H o H' o') {a : Addr} {xs : List V} (h : SqLm K H o a xs) : SqLm K H' o' a xs := h.monoW l.lw
theorem R.ptup_ {v : V} {ds : List D} (h : R K τ H o v (.ptup ds)) : R K τ H o v (.tup ds) := by
  cases h with
  | ptup h hp n r => exact .tup (.inl ⟨.inr ⟨_, h⟩, n⟩) r
theorem R.mono (l : Le H o H' o') {v : V} {d : D} (h : R K τ H o v d) : R K τ H' o' v d := h.monoW l.lw
theorem Rs.mono (l : Le H o H' o') {vs : List V} {ds : List D} (h : Rs K τ H o vs ds) : Rs K τ H' o' vs ds := h.monoW l.lw
theorem Rk.mono (l : Le H o H' o') {vs : List (Key × V)} {ds : List (Key × D)} (h : Rk K τ H o vs ds) : Rk K τ H' o' vs ds := h.monoW l.lw
theorem Rf.mono (l : Le H o H' o') {vs : List (Str × V)} {ds : List (Str × D)} (h : Rf K τ H o vs ds) : Rf K τ H' o' vs ds := h.monoW l.lw
end
end DL
set_option Elab.async false
set_option linter.all false
set_option maxRecDepth 100000
set_option maxHeartbeats 2000000
/-! Air0: own exceptions with an own __init__, their context None. -/
namespace L2
open PySem PySem.Spec PyProof.Rows
theorem takes0N {X : Cx} : L2N.Takes X (fun _ _ _ _ => False) := fun _ _ ⟨_, _, _, _, _, _, _, _, _, _, _, _, _, _, _, _, f⟩ => f.elim
theorem _root_.L2.Fun.okXN {P : Program} {w : World} {K : PySem.W.Frag} {mg : Str → Option Value} {base : Heap} {CX : CXT} {x qual : Str} {st : Stmt} {f : Addr} {fd : FuncData} {N ps : List Str} {k : Nat} {sp : Sp} (F : Fun K x qual st f fd) (sc : FnScope N ps (defScope st))
    (len : ∀ vs H Q E, sp vs H Q E → vs.length = ps.length)
    (body : ∀ (cdv : Value) (A : Around) (out : List Env) (s : Shared) (H : Hp) (vs : List V) (Q : VK) (E : XK), Room k (A.deeper (envOfC qual (defScope st) s.heap.objs.size f cdv)) → sp vs H Q E →
      ∃ t, PSs (cxOf CX P w K mg base N qual (defScope st) f cdv A out s H E) (defBody st) t ∧ t { nx := fun _ H' => Q .non H', rt := Q } (start N vs) H) : FnOk P w K mg base CX (k + 1) f fd ps sp := by
  obtain ⟨_, _, _, _, _, _, _, _, _, rfl, at_, code⟩ := F.ex
  exact fn_of at_ code sc len fun A out s H vs Q E room wish => body _ A out s H vs Q E room wish
theorem traced_dn {h B : Heap} {a : Addr} {Y Y' : Obj → Prop} {fl : Value} (i : ∀ ob, Y ob → Y' ob) (x : HandSPX.TracedZ h B a Y fl) : HandSPX.TracedZ h B a Y' fl :=
  let ⟨oe, vs, T, oT, ts, g, y, r⟩ := x
  ⟨oe, vs, T, oT, ts, g, i _ y, r⟩
theorem sky_dn {B h : Heap} {l : List Env} {a L : Addr} {Y Y' : Obj → Prop} (i : ∀ ob, Y ob → Y' ob) (x : Sky B l a Y L h) : Sky B l a Y' L h := by
  rcases x with ⟨x1, x2, x3, oe, vs, x4, x5, x6⟩ | ⟨x1, x2, x3, x4⟩ | ⟨x1, x2, x3, x4⟩
  · exact .inl ⟨x1, x2, x3, oe, vs, x4, i _ x5, x6⟩
  · exact .inr (.inl ⟨x1, x2, x3, traced_dn i x4⟩)
  · exact .inr (.inr ⟨x1, x2, x3, traced_dn i x4⟩)
theorem takes_up {X : Cx} {W : WX} (tk : L2.Takes X W) : L2N.Takes X W := fun u s' ⟨a, B, sI, pn, σ, H, cls, d, ea, I, nb, up, sky, na, os, bare, want⟩ =>
  tk u s' ⟨a, B, sI, pn, σ, H, cls, d, ea, I, nb, up, sky_dn (fun _ => L2N.Zn.zc) sky, na, os, bare, want⟩
section
variable {X : Cx} {e : Expr} {es : List Expr} {p pos : Pos} {ta : TA}
theorem made_oex {pn : List (Addr × Obj)} {σ : St} {H1 H2 : Hp} {Q : XK} {hA hB hC : Heap} {gA gB : Array GenState} {dA dB : Drawn} {tA tB : Nat} {oA oB : OsState} {a C d : Addr} {fs : List (Str × V)} (T : Raises X (.ref C)) (I1 : Inv X pn σ H1 ⟨hA, gA, dA, tA, oA⟩)
    (la : hA.objs.size ≤ a) (keep : ∀ b ob, hA.get? b = some ob → hB.get? b = some ob) (un : Un (frs X.stack) [] (upd H1 a (exo a C none)) H2 hB hC) (ok2 : HOk X.prog X.w H2 hC) (eo : oB = oA) (bare : AllBare gB)
    (ea : H2 a = some (exo a C (some d))) (ed : H2 d = some (exd d fs)) (hd1 : H1 d = none) (q : Q (.ref C) (some d) (upd (del H2 a) d (.xd fs))) : L2N.MkP X pn σ Q (.ref a) ⟨hC, gB, dB, tB, oB⟩ := by
  obtain ⟨t0, G, J, kG, ge, there, na⟩ := mk_end0 (d2 := dB) (t2 := tB) I1 la keep un ok2 eo bare ea ed hd1
  exact ⟨a, _, _, ⟨G, gB, dB, tB, oB⟩, _, .ref C, some d, rfl, J, kG, ge, there, ⟨rfl, rfl, fun vs ev => by cases ev; rfl⟩, rfl, rfl, na, rfl, bare, T, q⟩
theorem pmk_oexN {CX : CXT} {x : Str} {C fI : Addr} {k : Nat} {fd : FuncData} {ps : List Str} {sp : Sp} {ds : List Value} {dvs : List V} (T : OexC X.K C) (iC : PySem.W.findIn X.K (.ref C) "__init__" = some (some (.ref fI))) (tI : PySem.W.typeIn X.K (.ref fI) = some (.type "function"))
    (F1 : FnOk X.prog X.w X.K X.mg X.base CX k fI fd ps sp) (room : Room (k + 1) X.A) (bd : Binds X.K fd ps ds) (dv : Vals dvs ds) (pass : Passes CX X (fun _ _ _ => False)) (hg : Gl X x) (hm : X.mg x = some (.ref C)) (ha : PA X (e :: es) ta)
    (hdb : (x == ("__debug__" : Str)) = false := by decide) (he : starEach (e :: es) X.env = (false, eval e X.env) :: starEach es X.env := by rfl) (hpl : (backTo pos (starEach es X.env)).any (·.1) = false := by rfl) :
    L2N.PMk X (.Call (.Name x p) (e :: es) [] pos) (tMkO C sp dvs ta) := by
  intro pn s σ H Q I want
  obtain ⟨nm, q, N, bs, bm, sn, sub, ab, col, dd, k0, k1, k2, k3, k5, inC, inBm⟩ := T.cls
  refine wpAny_Call_Name_kw (ld_glob I hg hm ?_ hdb)
  refine PySem.W.callWith_K (h₀ := X.base) I.ok.mod.kin T.kC (thn (ha.run pos pn s σ H _ I want) fun as s1 ⟨vs, H1, I1, r1, few, q1⟩ => ⟨I1.kIn, ?_⟩) he hpl
  show wpAny _ _ (call (.ref C) as) _ _ _
  obtain ⟨h0, g0, d0, t0, o0⟩ := s1
  generalize hz : h0.objs.size = z
  have above : h0.objs.size ≤ z + 1 := by rw [hz]; exact Nat.le_succ _
  have wish := q1 (z + 1) (I1.hok.fresh above)
  have stay : ∀ b ob, h0.get? b = some ob → ((h0.push (PySem.W.kdv_tup as)).push (PySem.HandSPX.excO C z)).get? b = some ob := fun b ob eb => Heap.get?_push_of_some _ (Heap.get?_push_of_some _ eb)
  have there : ((h0.push (PySem.W.kdv_tup as)).push (PySem.HandSPX.excO C z)).get? (z + 1) = some (PySem.HandSPX.excO C z) := by rw [← hz]; heap_get
  have I2 : Inv X pn σ (upd H1 (z + 1) (exo (z + 1) C none)) ⟨(h0.push (PySem.W.kdv_tup as)).push (PySem.HandSPX.excO C z), g0, d0, t0, o0⟩ :=
    I1.laid (t' := t0) (a := z + 1) (o := exo (z + 1) C none) (h' := (h0.push (PySem.W.kdv_tup as)).push (PySem.HandSPX.excO C z)) stay above (exo_ok there)
  have rr : Vals (V.ref (z + 1) :: (vs ++ dvs)) (Value.ref (z + 1) :: (as ++ ds)) := .cons rfl (r1.append dv)
  have len : (Value.ref (z + 1) :: as ++ ds).length = ps.length := by
    have e1 := rr.length
    rw [F1.len _ _ _ _ wish] at e1
    exact e1.symm
  have fits : as.length ≤ sizeLine := by
    rw [← Paired.length r1, sizeLine_eq]
    omega
  have start := F1.run _ X.stack _ _ ⟨Value.ref (z + 1) :: as, []⟩ (Value.ref (z + 1) :: (as ++ ds)) _ _ (fun _ _ _ => False) (room.make C as []) (I2.env0.make C as []) (bd _ (Value.ref (z + 1) :: as) I2.kIn len) rr wish
  subst hz
  refine wpAny_call (PySem.HandSPX.call_own F.excBase_ValueError (fun Y => PySem.HandSPX.refsVE_contains Y bm inBm) (I1.kIn _ _ inC) (PySem.W.looks_findIn I1.kIn iC) (fun self => PySem.W.bind_fn I1.kIn self tI) fits (codeAny_mono start fun res s2 hres => ?_))
  cases res with
  | error er => exact pass pn σ _ _ er s2 I2 hres
  | ok fl =>
    cases fl with
    | ret u =>
      obtain ⟨v, H2, os2, bare2, un2, ok2, rv, ev, d, fs, ea, ed, hd1, q2⟩ := hres
      subst ev
      obtain ⟨hC, gC, dC, tC, oC⟩ := s2
      exact ⟨rv, made_oex (raises_own T.exC T.tyC) I1 above stay un2 ok2 os2 bare2 ea ed hd1 q2⟩
    | next => exact False.elim hres
    | brk => exact False.elim hres
    | cont => exact False.elim hres
end
end L2
set_option Elab.async false
set_option linter.all false
set_option maxRecDepth 100000
set_option maxHeartbeats 2000000
/-! DL2: canonical readings; judgements over data. -/
namespace DL
open PySem PySem.Spec PyProof.Rows L2
/-! ### canonical readings -/
section
variable (X : Cx)
def cE (e : Expr) : TE := fun σ H Q => ∀ pins s, Inv X pins σ H s → wpAny (model X.prog X.w) X.A (eval e X.env) (EP X pins σ Q) X.xe s
def cT (e : Expr) : TT := fun σ H Q => ∀ pins s, Inv X pins σ H s → wpAny (model X.prog X.w) X.A (isTrue e X.env (eval e X.env)) (TP X pins σ Q) X.xe s
def cW (e : Expr) : TT := fun σ H Q => ∀ whole pins s, Inv X pins σ H s → wpAny (model X.prog X.w) X.A (isTrue e X.env whole) (TP X pins σ Q) X.xe s
def cA (es : List Expr) : TA := fun σ H Q => ∀ pos pins s, Inv X pins σ H s → wpAny (model X.prog X.w) X.A (spliced (backTo pos (starEach es X.env))) (AP X pins σ Q) X.xe s
def cS (st : Stmt) : TS := fun D σ H => ∀ pins s, Inv X pins σ H s → wpAny (model X.prog X.w) X.A (exec st X.env) (SP X pins D) X.xe s
def cSs (st : List Stmt) : TS := fun D σ H => ∀ pins s, Inv X pins σ H s → wpAny (model X.prog X.w) X.A (execs st X.env) (SP X pins D) X.xe s
def cG (tg : Expr) : TG := fun v σ H Q => ∀ pins s u, Inv X pins σ H s → RelV v u → wpAny (model X.prog X.w) X.A (assign tg X.env u) (fun _ s' => ∃ σ' H', Inv X pins σ' H' s' ∧ Q σ' H') X.xe s
def cGs (tgs : List Expr) : TGs := fun vs σ H Q => ∀ pins s us, Inv X pins σ H s → Vals vs us → wpAny (model X.prog X.w) X.A (assignInOrder ((assignEach tgs X.env).map (·.2)) us) (fun _ s' => ∃ σ' H', Inv X pins σ' H' s' ∧ Q σ' H') X.xe s
end
section
variable {X : Cx} {e : Expr} {es : List Expr} {σ : L2.St} {H : Hp}
theorem pe_c : PE X e (cE X e) := ⟨fun pins s _ _ _ I h => h pins s I⟩
theorem pt_c : PT X e (cT X e) := ⟨fun pins s _ _ _ I h => h pins s I⟩
theorem pw_c : PW X e (cW X e) := ⟨fun whole pins s _ _ _ I h => h whole pins s I⟩
theorem pa_c : PA X es (cA X es) := ⟨fun pos pins s _ _ _ I h => h pos pins s I⟩
theorem ps_c {st : Stmt} : PS X st (cS X st) := ⟨fun pins s _ _ _ I h => h pins s I⟩
theorem pss_c {st : List Stmt} : PSs X st (cSs X st) := ⟨fun pins s _ _ _ I h => h pins s I⟩
theorem pg_c : PG X e (cG X e) := ⟨fun pins s _ _ _ u _ I r h => h pins s u I r⟩
theorem pgs_c : PGs X es (cGs X es) := ⟨fun pins s _ _ _ us _ I r h => h pins s us I r⟩
theorem cE_of {t : TE} {Q : VK} (p : PE X e t) (h : t σ H Q) : cE X e σ H Q := fun pins s I => p.run pins s σ H Q I h
theorem cT_of {t : TT} {Q : Bool → Hp → Prop} (p : PT X e t) (h : t σ H Q) : cT X e σ H Q := fun pins s I => p.run pins s σ H Q I h
theorem cW_of {t : TT} {Q : Bool → Hp → Prop} (p : PW X e t) (h : t σ H Q) : cW X e σ H Q := fun whole pins s I => p.run whole pins s σ H Q I h
theorem cA_of {t : TA} {Q : List V → Hp → Prop} (p : PA X es t) (h : t σ H Q) : cA X es σ H Q := fun pos pins s I => p.run pos pins s σ H Q I h
theorem cS_of {st : Stmt} {t : TS} {D : Ends} (p : PS X st t) (h : t D σ H) : cS X st D σ H := fun pins s I => p.run pins s σ H D I h
theorem cSs_of {st : List Stmt} {t : TS} {D : Ends} (p : PSs X st t) (h : t D σ H) : cSs X st D σ H := fun pins s I => p.run pins s σ H D I h
theorem cG_of {t : TG} {v : V} {Q : L2.St → Hp → Prop} (p : PG X e t) (h : t v σ H Q) : cG X e v σ H Q := fun pins s u I r => p.run pins s σ H v u Q I r h
theorem cGs_of {t : TGs} {vs : List V} {Q : L2.St → Hp → Prop} (p : PGs X es t) (h : t vs σ H Q) : cGs X es vs σ H Q := fun pins s us I r => p.run pins s σ H vs us Q I r h
theorem EP.imp {pins : List (Addr × Obj)} {Q Q' : VK} {u : Value} {s : Shared} (h : EP X pins σ Q u s) (k : ∀ v H', Q v H' → Q' v H') : EP X pins σ Q' u s :=
  let ⟨v, H', I, r, q⟩ := h; ⟨v, H', I, r, k v H' q⟩
theorem cE_mono {Q Q' : VK} (h : cE X e σ H Q) (k : ∀ v H', Q v H' → Q' v H') : cE X e σ H Q' := fun pins s I => thn (h pins s I) fun _ _ q => EP.imp q k
theorem cT_mono {Q Q' : Bool → Hp → Prop} (h : cT X e σ H Q) (k : ∀ v H', Q v H' → Q' v H') : cT X e σ H Q' := fun pins s I => thn (h pins s I) fun _ _ ⟨H', I', q⟩ => ⟨H', I', k _ _ q⟩
theorem cW_mono {Q Q' : Bool → Hp → Prop} (h : cW X e σ H Q) (k : ∀ v H', Q v H' → Q' v H') : cW X e σ H Q' := fun whole pins s I => thn (h whole pins s I) fun _ _ ⟨H', I', q⟩ => ⟨H', I', k _ _ q⟩
theorem cA_mono {Q Q' : List V → Hp → Prop} (h : cA X es σ H Q) (k : ∀ v H', Q v H' → Q' v H') : cA X es σ H Q' := fun pos pins s I => thn (h pos pins s I) fun _ _ ⟨vs, H', I', r, q⟩ => ⟨vs, H', I', r, k _ _ q⟩
theorem cG_mono {v : V} {Q Q' : L2.St → Hp → Prop} (h : cG X e v σ H Q) (k : ∀ v H', Q v H' → Q' v H') : cG X e v σ H Q' := fun pins s u I r => thn (h pins s u I r) fun _ _ ⟨σ', H', I', q⟩ => ⟨σ', H', I', k _ _ q⟩
theorem cGs_mono {vs : List V} {Q Q' : L2.St → Hp → Prop} (h : cGs X es vs σ H Q) (k : ∀ v H', Q v H' → Q' v H') : cGs X es vs σ H Q' := fun pins s u I r => thn (h pins s u I r) fun _ _ ⟨σ', H', I', q⟩ => ⟨σ', H', I', k _ _ q⟩
theorem SP.imp {pins : List (Addr × Obj)} {D D' : Ends} {f : Flow} {s : Shared} (h : SP X pins D f s) (kn : ∀ σ H, D.nx σ H → D'.nx σ H) (kr : ∀ v H, D.rt v H → D'.rt v H) (kb : ∀ σ H, D.bk σ H → D'.bk σ H) (kc : ∀ σ H, D.ct σ H → D'.ct σ H) : SP X pins D' f s := by
  cases f with
  | next => obtain ⟨σ', H', I, q⟩ := h; exact ⟨σ', H', I, kn _ _ q⟩
  | brk => obtain ⟨σ', H', I, q⟩ := h; exact ⟨σ', H', I, kb _ _ q⟩
  | cont => obtain ⟨σ', H', I, q⟩ := h; exact ⟨σ', H', I, kc _ _ q⟩
  | ret u => obtain ⟨v, σ', H', I, r, q⟩ := h; exact ⟨v, σ', H', I, r, kr _ _ q⟩
theorem cS_mono {st : Stmt} {D D' : Ends} (h : cS X st D σ H) (kn : ∀ σ H, D.nx σ H → D'.nx σ H) (kr : ∀ v H, D.rt v H → D'.rt v H) (kb : ∀ σ H, D.bk σ H → D'.bk σ H) (kc : ∀ σ H, D.ct σ H → D'.ct σ H) : cS X st D' σ H :=
  fun pins s I => thn (h pins s I) fun _ _ q => SP.imp q kn kr kb kc
theorem cSs_mono {st : List Stmt} {D D' : Ends} (h : cSs X st D σ H) (kn : ∀ σ H, D.nx σ H → D'.nx σ H) (kr : ∀ v H, D.rt v H → D'.rt v H) (kb : ∀ σ H, D.bk σ H → D'.bk σ H) (kc : ∀ σ H, D.ct σ H → D'.ct σ H) : cSs X st D' σ H :=
  fun pins s I => thn (h pins s I) fun _ _ q => SP.imp q kn kr kb kc
end
/-! ### the state over data -/
abbrev Δ := List (Option D)
/-- what owned objects hold -/
def OR (K : PySem.W.Frag) (τ : Tx) (H : Hp) (o : O) (a : Addr) : OS → Prop
  | .lst ds => ∃ vs, H a = some (.lst vs) ∧ Rs K τ H o vs ds
  | .ins C fs => ∃ dx gs, H a = some (.ins C dx gs) ∧ Rf K τ H o gs fs
  | .dct kvs => ∃ gs, H a = some (.dK gs) ∧ Rk K τ H o gs kvs
  | .xd gs fs => H a = some (.xd gs) ∧ Rf K τ H o gs fs
  | .lam u c q => H a = some u ∧ H c = some (LamX.CodeO c q) ∧ o c = none
  | .tbl q => ∃ ps : Array Value, H a = some (.tbl ps) ∧ TriplesOk ps.toList ∧ ∀ (pos : Pos) (cv : Value), codeAmong pos ps.toList = some cv → ∃ c, cv = .ref c ∧ H c = some (LamX.CodeO c q) ∧ o c = none
def Own (K : PySem.W.Frag) (τ : Tx) (H : Hp) (o : O) : Prop := ∀ a x, o a = some x → OR K τ H o a x
/-- an exception as data: its class, its fields -/
structure DX where
  C : Addr
  fs : List (Str × D)
def RX (K : PySem.W.Frag) (τ : Tx) (H : Hp) (o : O) (cls : Value) (dx : Option Addr) (x : DX) : Prop :=
  cls = .ref x.C ∧ ((dx = none ∧ x.fs = []) ∨ ∃ d gs, dx = some d ∧ H d = some (.xd gs) ∧ o d = none ∧ Rf K τ H o gs x.fs)
structure Okk (K : PySem.W.Frag) (τ : Tx) (H0 : Hp) (o0 : O) (σ : L2.St) (H : Hp) (δ : Δ) (o : O) : Prop where
  le : Le H0 o0 H o
  own : Own K τ H o
  len : σ.length = δ.length
  slot : ∀ (i : Nat) (d : D), δ[i]? = some (some d) → ∃ v, σ[i]? = some (some v) ∧ R K τ H o v d
theorem Okk.step {K : PySem.W.Frag} {τ : Tx} {H0 H H' : Hp} {o0 o o' : O} {σ : L2.St} {δ : Δ} (k : Okk K τ H0 o0 σ H δ o) (l : Le H o H' o') (w : Own K τ H' o') : Okk K τ H0 o0 σ H' δ o' :=
  ⟨k.le.trans l, w, k.len, fun i d h => let ⟨v, h1, h2⟩ := k.slot i d h; ⟨v, h1, h2.mono l⟩⟩
/-- no exception is handled where this text runs -/
class Calm (X : Cx) : Prop where
  h : X.calm = true
/-- the ground of a body: entry, wish about exceptions, room -/
structure Gm (X : Cx) (τ : Tx) (k : Nat) (Ξ : DX → Δ → O → Prop) where
  H0 : Hp
  o0 : O
  W : WX
  tk : L2N.Takes X W
  po : PassesOwn (model X.prog X.w) X.A X.env X.xe
  hW : ∀ cls d σ H x δ o, Okk X.K τ H0 o0 σ H δ o → RX X.K τ H o cls d x → Ξ x δ o → W cls d σ H
  rm : X.calm = true → Room k X.A
  un : X.A.units + 16 * k + 200 < cLine
  nd : X.N.Nodup
theorem Gm.room {X : Cx} {τ : Tx} {k : Nat} {Ξ : DX → Δ → O → Prop} [Calm X] (Γ : Gm X τ k Ξ) : Room k X.A := Γ.rm Calm.h
theorem Gm.units {X : Cx} {τ : Tx} {k : Nat} {Ξ : DX → Δ → O → Prop} (Γ : Gm X τ k Ξ) : X.A.units + 64 < cLine := by have := Γ.un; omega
theorem Gm.hu {X : Cx} {τ : Tx} {k : Nat} {Ξ : DX → Δ → O → Prop} (Γ : Gm X τ k Ξ) : X.A.units + 1 < cLine := by have := Γ.un; omega
instance {CX : CXT} {P : Program} {w : World} {K : PySem.W.Frag} {mg : Str → Option Value} {base : Heap} {N : List Str} {qual : Str} {scope : Scope} {f : Addr} {cd : Value} {A : Around} {outer : List Env} {s : Shared} {H : Hp} {E : XK} : Calm (cxOf CX P w K mg base N qual scope f cd A outer s H E) := ⟨rfl⟩
instance {X : Cx} [Calm X] {s : Shared} {H : Hp} {scope : Scope} {env : Env} {fp : List Addr} : Calm (X.blk s H scope env fp) := ⟨Calm.h (X := X)⟩
instance {X : Cx} [Calm X] {pn : List (Addr × Obj)} {xe : Value → Shared → Prop} : Calm (X.tr pn xe) := ⟨Calm.h (X := X)⟩
structure DE where
  nx : Δ → O → Prop
  rt : D → O → Prop
  bk : Δ → O → Prop := fun _ _ => False
  ct : Δ → O → Prop := fun _ _ => False
section
variable {X : Cx} {τ : Tx} {k : Nat} {Ξ : DX → Δ → O → Prop}
def PostE (K : PySem.W.Frag) (τ : Tx) (H : Hp) (o : O) (Φ : D → O → Prop) : VK := fun v H' => ∃ d o', Own K τ H' o' ∧ Le H o H' o' ∧ R K τ H' o' v d ∧ Φ d o'
def PostT (K : PySem.W.Frag) (τ : Tx) (H : Hp) (o : O) (Φ : Bool → O → Prop) : Bool → Hp → Prop := fun b H' => ∃ o', Own K τ H' o' ∧ Le H o H' o' ∧ Φ b o'
def PostA (K : PySem.W.Frag) (τ : Tx) (H : Hp) (o : O) (Φ : List D → O → Prop) : List V → Hp → Prop := fun v H' => ∃ d o', Own K τ H' o' ∧ Le H o H' o' ∧ Rs K τ H' o' v d ∧ Φ d o'
def toE (K : PySem.W.Frag) (τ : Tx) (H0 : Hp) (o0 : O) (H : Hp) (o : O) (D' : DE) : Ends where
  nx := fun σ H' => ∃ δ o', Okk K τ H0 o0 σ H' δ o' ∧ Le H o H' o' ∧ D'.nx δ o'
  rt := fun v H' => ∃ d o', Le H0 o0 H' o' ∧ Own K τ H' o' ∧ R K τ H' o' v d ∧ D'.rt d o'
  bk := fun σ H' => ∃ δ o', Okk K τ H0 o0 σ H' δ o' ∧ Le H o H' o' ∧ D'.bk δ o'
  ct := fun σ H' => ∃ δ o', Okk K τ H0 o0 σ H' δ o' ∧ Le H o H' o' ∧ D'.ct δ o'
/-- e gives a datum that Φ takes -/
def WE (Γ : Gm X τ k Ξ) (e : Expr) (δ : Δ) (o : O) (Φ : D → O → Prop) : Prop := ∀ σ H, Okk X.K τ Γ.H0 Γ.o0 σ H δ o → cE X e σ H (PostE X.K τ H o Φ)
def WT (Γ : Gm X τ k Ξ) (e : Expr) (δ : Δ) (o : O) (Φ : Bool → O → Prop) : Prop := ∀ σ H, Okk X.K τ Γ.H0 Γ.o0 σ H δ o → cT X e σ H (PostT X.K τ H o Φ)
def WW (Γ : Gm X τ k Ξ) (e : Expr) (δ : Δ) (o : O) (Φ : Bool → O → Prop) : Prop := ∀ σ H, Okk X.K τ Γ.H0 Γ.o0 σ H δ o → cW X e σ H (PostT X.K τ H o Φ)
def WA (Γ : Gm X τ k Ξ) (es : List Expr) (δ : Δ) (o : O) (Φ : List D → O → Prop) : Prop := ∀ σ H, Okk X.K τ Γ.H0 Γ.o0 σ H δ o → cA X es σ H (PostA X.K τ H o Φ)
def WS (Γ : Gm X τ k Ξ) (st : Stmt) (δ : Δ) (o : O) (E : DE) : Prop := ∀ σ H, Okk X.K τ Γ.H0 Γ.o0 σ H δ o → cS X st (toE X.K τ Γ.H0 Γ.o0 H o E) σ H
def WSs (Γ : Gm X τ k Ξ) (st : List Stmt) (δ : Δ) (o : O) (E : DE) : Prop := ∀ σ H, Okk X.K τ Γ.H0 Γ.o0 σ H δ o → cSs X st (toE X.K τ Γ.H0 Γ.o0 H o E) σ H
/-- a target is given the datum d -/
def WG (Γ : Gm X τ k Ξ) (tg : Expr) (d : D) (δ : Δ) (o : O) (Ψ : Δ → O → Prop) : Prop := ∀ σ H v, Okk X.K τ Γ.H0 Γ.o0 σ H δ o → R X.K τ H o v d →
  cG X tg v σ H fun σ' H' => ∃ δ' o', Okk X.K τ Γ.H0 Γ.o0 σ' H' δ' o' ∧ Le H o H' o' ∧ Ψ δ' o'
def WGs (Γ : Gm X τ k Ξ) (tgs : List Expr) (ds : List D) (δ : Δ) (o : O) (Ψ : Δ → O → Prop) : Prop := ∀ σ H vs, Okk X.K τ Γ.H0 Γ.o0 σ H δ o → Rs X.K τ H o vs ds →
  cGs X tgs vs σ H fun σ' H' => ∃ δ' o', Okk X.K τ Γ.H0 Γ.o0 σ' H' δ' o' ∧ Le H o H' o' ∧ Ψ δ' o'
variable {Γ : Gm X τ k Ξ} {e : Expr} {es : List Expr} {δ : Δ} {o : O}
theorem PostE.le {H H1 : Hp} {o o1 : O} {Φ : D → O → Prop} {v : V} {H' : Hp} (l : Le H o H1 o1) (h : PostE X.K τ H1 o1 Φ v H') : PostE X.K τ H o Φ v H' :=
  let ⟨d, o', w, l', r, q⟩ := h; ⟨d, o', w, l.trans l', r, q⟩
theorem PostT.le {H H1 : Hp} {o o1 : O} {Φ : Bool → O → Prop} {v : Bool} {H' : Hp} (l : Le H o H1 o1) (h : PostT X.K τ H1 o1 Φ v H') : PostT X.K τ H o Φ v H' :=
  let ⟨o', w, l', q⟩ := h; ⟨o', w, l.trans l', q⟩
theorem PostA.le {H H1 : Hp} {o o1 : O} {Φ : List D → O → Prop} {v : List V} {H' : Hp} (l : Le H o H1 o1) (h : PostA X.K τ H1 o1 Φ v H') : PostA X.K τ H o Φ v H' :=
  let ⟨d, o', w, l', r, q⟩ := h; ⟨d, o', w, l.trans l', r, q⟩
/-- the end of an expression at a state that is known -/
theorem PostE.here {H : Hp} {o : O} {Φ : D → O → Prop} {v : V} {d : D} (w : Own X.K τ H o) (r : R X.K τ H o v d) (q : Φ d o) : PostE X.K τ H o Φ v H := ⟨d, o, w, Le.refl, r, q⟩
theorem WE.mono {Φ Φ' : D → O → Prop} (h : WE Γ e δ o Φ) (k : ∀ d o', Φ d o' → Φ' d o') : WE Γ e δ o Φ' := fun σ H ok => cE_mono (h σ H ok) fun _ _ ⟨d, o', w, l, r, q⟩ => ⟨d, o', w, l, r, k _ _ q⟩
/-! ### names, constants -/
theorem we_var (i : Nat) {x : Str} {pos : Pos} {d : D} {Φ : D → O → Prop} (hd : δ[i]? = some (some d)) (h : Φ d o) (hN : X.N[i]? = some x := by rfl)
    (hv : Vis X.env.scope x := by first | exact Or.inl rfl | exact Or.inr (Or.inl rfl) | exact Or.inr (Or.inr rfl)) (h1 : (x == ("__debug__" : Str)) = false := by decide) (h2 : (x == ("__classdict__" : Str)) = false := by decide) :
    WE Γ (.Name x pos) δ o Φ := fun σ H ok => by
  obtain ⟨v, e1, r⟩ := ok.slot i d hd
  exact cE_of (pe_var hN hv h1 h2) ⟨v, e1, .here ok.own r h⟩
theorem we_int {i : Int} {j pos} {Φ : D → O → Prop} (h : Φ (.int i) o) : WE Γ (.Constant (.int i) j pos) δ o Φ := fun σ H ok => cE_of pe_int (.here ok.own (.int i) h)
theorem we_bl {b : Bool} {j pos} {Φ : D → O → Prop} (h : Φ (.bl b) o) : WE Γ (.Constant (.bool b) j pos) δ o Φ := fun σ H ok => cE_of pe_bl (.here ok.own (.bl b) h)
theorem we_str {x : Str} {j pos} {Φ : D → O → Prop} (h : Φ (.str x) o) : WE Γ (.Constant (.str x) j pos) δ o Φ := fun σ H ok => cE_of pe_str (.here ok.own (.str x) h)
theorem we_globI {x : Str} {i : Int} {t : Tok} {pos : Pos} {Φ : D → O → Prop} (hm : X.mg x = some (.int i t)) (h : Φ (.int i) o) (hg : Gl X x := by rfl) (hd : (x == ("__debug__" : Str)) = false := by decide) : WE Γ (.Name x pos) δ o Φ :=
  fun σ H ok => cE_of (pe_glob (v := .int i) hg hm ⟨_, rfl⟩ hd) (.here ok.own (.int i) h)
theorem we_globS {x : Str} {i : Str} {t : Tok} {pos : Pos} {Φ : D → O → Prop} (hm : X.mg x = some (.str i t)) (h : Φ (.str i) o) (hg : Gl X x := by rfl) (hd : (x == ("__debug__" : Str)) = false := by decide) : WE Γ (.Name x pos) δ o Φ :=
  fun σ H ok => cE_of (pe_glob (v := .str i) hg hm ⟨_, rfl⟩ hd) (.here ok.own (.str i) h)
theorem we_globR {x : Str} {a : Addr} {pos : Pos} {Φ : D → O → Prop} (hm : X.mg x = some (.ref a)) (h : Φ (.ref a) o) (hg : Gl X x := by rfl) (hd : (x == ("__debug__" : Str)) = false := by decide) : WE Γ (.Name x pos) δ o Φ :=
  fun σ H ok => cE_of (pe_glob (v := .ref a) hg hm rfl hd) (.here ok.own (.ref a) h)
/-! ### operators by values -/
/-- what an operator on two data does: a rule of values meets it -/
def Op2 (X : Cx) (τ : Tx) (r : R2) (S : D → D → O → (D → O → Prop) → Prop) : Prop :=
  ∀ H o x y d1 d2 Φ (Q : VK), R X.K τ H o x d1 → R X.K τ H o y d2 → Own X.K τ H o → S d1 d2 o Φ → (∀ v H', PostE X.K τ H o Φ v H' → Q v H') → r x y H Q
variable {a b c : Expr} {pos : Pos} {Φ : D → O → Prop} {S : D → D → O → (D → O → Prop) → Prop} {r : R2}
theorem op_lift (hs : Op2 X τ r S) (h : WE Γ a δ o fun d1 o1 => WE Γ b δ o1 fun d2 o2 => S d1 d2 o2 Φ) (σ : L2.St) (H : Hp) (ok : Okk X.K τ Γ.H0 Γ.o0 σ H δ o) :
    tOp r (cE X a) (cE X b) σ H (PostE X.K τ H o Φ) := by
  refine cE_mono (h σ H ok) fun x H1 ⟨d1, o1, w1, l1, r1, h1⟩ => ?_
  refine cE_mono (h1 σ H1 (ok.step l1 w1)) fun y H2 ⟨d2, o2, w2, l2, r2, h2⟩ => ?_
  exact hs H2 o2 x y d1 d2 Φ _ (r1.mono l2) r2 w2 h2 fun v H' p => p.le (l1.trans l2)
theorem we_bin {op : Operator} (ho : OpR X (binaryOp op) r) (hs : Op2 X τ r S) (h : WE Γ a δ o fun d1 o1 => WE Γ b δ o1 fun d2 o2 => S d1 d2 o2 Φ) : WE Γ (.BinOp a op b pos) δ o Φ :=
  fun σ H ok => cE_of (pe_op ho pe_c pe_c) (op_lift hs h σ H ok)
theorem we_ixR (hr : IxR X r) (hs : Op2 X τ r S) (hx : PlainIx b) (h : WE Γ a δ o fun d1 o1 => WE Γ b δ o1 fun d2 o2 => S d1 d2 o2 Φ) : WE Γ (.Subscript a b pos) δ o Φ :=
  fun σ H ok => cE_of (pe_ix hr pe_c pe_c hx) (op_lift hs h σ H ok)
/-! the ints that data are -/
theorem R.int_ {K : PySem.W.Frag} {H : Hp} {o : O} {v : V} {i : Int} (r : R K τ H o v (.int i)) : v = .int i := by cases r; rfl
theorem R.bl_ {K : PySem.W.Frag} {H : Hp} {o : O} {v : V} {i : Bool} (r : R K τ H o v (.bl i)) : v = .bl i := by cases r; rfl
theorem Rs.length {K : PySem.W.Frag} {H : Hp} {o : O} : ∀ {vs : List V} {ds : List D}, Rs K τ H o vs ds → vs.length = ds.length
  | _, _, .nil => rfl
  | _, _, .cons _ r => congrArg (· + 1) r.length
theorem Rs.get {K : PySem.W.Frag} {H : Hp} {o : O} : ∀ {vs : List V} {ds : List D} {i : Nat} {d : D}, Rs K τ H o vs ds → ds[i]? = some d → ∃ v, vs[i]? = some v ∧ R K τ H o v d
  | _, _, _, _, .nil, h => by simp at h
  | _, _, 0, d, .cons h _, e => by simp at e; subst e; exact ⟨_, rfl, h⟩
  | _, _, i + 1, d, .cons _ r, e => by
    obtain ⟨v, h1, h2⟩ := Rs.get (i := i) (d := d) r (by simpa using e)
    exact ⟨v, by simpa using h1, h2⟩
theorem Rs.of_get {K : PySem.W.Frag} {H : Hp} {o : O} : ∀ {vs : List V} {ds : List D} {i : Nat} {v : V}, Rs K τ H o vs ds → vs[i]? = some v → ∃ d, ds[i]? = some d ∧ R K τ H o v d
  | _, _, _, _, .nil, h => by simp at h
  | _, _, 0, d, .cons h _, e => by simp at e; subst e; exact ⟨_, rfl, h⟩
  | _, _, i + 1, d, .cons _ r, e => by
    obtain ⟨v, h1, h2⟩ := Rs.of_get (i := i) (v := d) r (by simpa using e)
    exact ⟨v, by simpa using h1, h2⟩
theorem Rs.append {K : PySem.W.Frag} {H : Hp} {o : O} {vs ws : List V} {ds es : List D} (a : Rs K τ H o vs ds) (b : Rs K τ H o ws es) : Rs K τ H o (vs ++ ws) (ds ++ es) := by
  induction vs generalizing ds with
  | nil => cases a; exact b
  | cons v vs ih => cases a with | cons h r => exact .cons h (ih r)
/-! ### arithmetic -/
def addS : D → D → O → (D → O → Prop) → Prop
  | .int i, .int j, o, Φ => Φ (.int (i + j)) o
  | .str x, .str y, o, Φ => x.length + y.length ≤ sizeLine ∧ Φ (.str (x ++ y)) o
  | .lst xs, .lst ys, o, Φ => xs.length + ys.length ≤ sizeLine ∧ Φ (.lst (xs ++ ys)) o
  | .tup xs, .tup ys, o, Φ => xs.length + ys.length ≤ sizeLine ∧ Φ (.tup (xs ++ ys)) o
  | _, _, _, _ => False
def subS : D → D → O → (D → O → Prop) → Prop
  | .int i, .int j, o, Φ => Φ (.int (i - j)) o
  | _, _, _, _ => False
def mulS : D → D → O → (D → O → Prop) → Prop
  | .int i, .int j, o, Φ => IntMulOk i j ∧ Φ (.int (i * j)) o
  | .lst xs, .int k, o, Φ => -(2 ^ 63) ≤ k ∧ k < 2 ^ 63 ∧ xs.length * k.toNat ≤ sizeLine ∧ Φ (.lst (List.replicate k.toNat xs).flatten) o
  | _, _, _, _ => False
def fdivS : D → D → O → (D → O → Prop) → Prop
  | .int i, .int j, o, Φ => CDivW i j ∧ Φ (.int (i / j)) o
  | _, _, _, _ => False
def modS : D → D → O → (D → O → Prop) → Prop
  | .int i, .int j, o, Φ => 0 < j ∧ Φ (.int (i % j)) o
  | _, _, _, _ => False
def powS : D → D → O → (D → O → Prop) → Prop
  | .int i, .int j, o, Φ => CPow i j ∧ Φ (.int (i ^ j.toNat)) o
  | _, _, _, _ => False
theorem op2I0 {f : Int → Int → Int} {S : D → D → O → (D → O → Prop) → Prop} (hS : ∀ d1 d2 o Φ, S d1 d2 o Φ → ∃ i j, d1 = .int i ∧ d2 = .int j ∧ Φ (.int (f i j)) o) : Op2 X τ (rI0 fun i j => .int (f i j)) S := by
  intro H o x y d1 d2 Φ Q r1 r2 w s k
  obtain ⟨i, j, rfl, rfl, q⟩ := hS d1 d2 o Φ s
  exact ⟨i, j, r1.int_, r2.int_, k _ _ (.here w (.int _) q)⟩
theorem op2I {C : Int → Int → Prop} {f : Int → Int → Int} {S : D → D → O → (D → O → Prop) → Prop} (hS : ∀ d1 d2 o Φ, S d1 d2 o Φ → ∃ i j, d1 = .int i ∧ d2 = .int j ∧ C i j ∧ Φ (.int (f i j)) o) : Op2 X τ (rI C fun i j => .int (f i j)) S := by
  intro H o x y d1 d2 Φ Q r1 r2 w s k
  obtain ⟨i, j, rfl, rfl, c, q⟩ := hS d1 d2 o Φ s
  exact ⟨i, j, r1.int_, r2.int_, c, k _ _ (.here w (.int _) q)⟩
theorem Op2.or {r r' : R2} {S : D → D → O → (D → O → Prop) → Prop} (h : ∀ H o x y d1 d2 Φ (Q : VK), R X.K τ H o x d1 → R X.K τ H o y d2 → Own X.K τ H o → S d1 d2 o Φ → (∀ v H', PostE X.K τ H o Φ v H' → Q v H') → r x y H Q ∨ r' x y H Q) : Op2 X τ (fun x y H Q => r x y H Q ∨ r' x y H Q) S := h
theorem newE {H : Hp} {o : O} {p : Addr} {u : HO} {d : D} {Φ : D → O → Prop} (w : Own X.K τ H o) (hp : H p = none) (r : R X.K τ (upd H p u) o (.ref p) d) (q : Φ d o) : PostE X.K τ H o Φ (.ref p) (upd H p u) :=
  ⟨d, o, fun a x e => by
    have hw := w a x e
    have l : Le H o (upd H p u) o := Le.new hp
    have ne : ∀ {z : HO}, H a = some z → a ≠ p := fun z => ne_of_none z hp
    cases x with
    | lst ds => obtain ⟨vs, h1, h2⟩ := hw; exact ⟨vs, by rw [upd_ne (ne h1)]; exact h1, h2.mono l⟩
    | ins C fs => obtain ⟨dx, gs, h1, h2⟩ := hw; exact ⟨dx, gs, by rw [upd_ne (ne h1)]; exact h1, h2.mono l⟩
    | dct kvs => obtain ⟨gs, h1, h2⟩ := hw; exact ⟨gs, by rw [upd_ne (ne h1)]; exact h1, h2.mono l⟩
    | xd gs fs => obtain ⟨h1, h2⟩ := hw; exact ⟨by rw [upd_ne (ne h1)]; exact h1, h2.mono l⟩
    | lam u c qn => obtain ⟨h1, e2, e3⟩ := hw; exact ⟨by rw [upd_ne (ne h1)]; exact h1, (l.ex e3 e2 rfl).1, (l.ex e3 e2 rfl).2⟩
    | tbl qn => obtain ⟨ps, h1, h2, h3⟩ := hw; exact ⟨ps, by rw [upd_ne (ne h1)]; exact h1, h2, fun p cv e => let ⟨c, e1, e2, e3⟩ := h3 p cv e; ⟨c, e1, (l.ex e3 e2 rfl).1, (l.ex e3 e2 rfl).2⟩⟩, Le.new hp, r, q⟩
theorem Own.free {K : PySem.W.Frag} {H : Hp} {o : O} {p : Addr} (w : Own K τ H o) (hp : H p = none) : o p = none := by
  cases e : o p with
  | none => rfl
  | some x =>
    have hw := w p x e
    cases x with
    | lst ds => obtain ⟨vs, h1, _⟩ := hw; rw [hp] at h1; cases h1
    | ins C fs => obtain ⟨dx, gs, h1, _⟩ := hw; rw [hp] at h1; cases h1
    | dct kvs => obtain ⟨gs, h1, _⟩ := hw; rw [hp] at h1; cases h1
    | xd gs fs => obtain ⟨h1, _⟩ := hw; rw [hp] at h1; cases h1
    | lam u c qn => obtain ⟨h1, _⟩ := hw; rw [hp] at h1; cases h1
    | tbl qn => obtain ⟨ps, h1, _⟩ := hw; rw [hp] at h1; cases h1
theorem newL {H : Hp} {o : O} {p : Addr} {vs : List V} {ds : List D} {Φ : D → O → Prop} (w : Own X.K τ H o) (hp : H p = none) (r : Rs X.K τ H o vs ds) (q : Φ (.lst ds) o) : PostE X.K τ H o Φ (.ref p) (upd H p (.lst vs)) :=
  newE w hp (.lst upd_same (w.free hp) (r.mono (Le.new hp))) q
theorem newT {H : Hp} {o : O} {p : Addr} {vs : List V} {ds : List D} {Φ : D → O → Prop} (w : Own X.K τ H o) (hp : H p = none) (r : Rs X.K τ H o vs ds) (q : Φ (.tup ds) o) : PostE X.K τ H o Φ (.ref p) (upd H p (.tup vs)) :=
  newE w hp (.tup (.inl ⟨.inl upd_same, w.free hp⟩) (r.mono (Le.new hp))) q
abbrev rStr2 : R2 := fun x y H Q => ∃ i j, x = V.str i ∧ y = .str j ∧ i.length + j.length ≤ sizeLine ∧ Q (.str (i ++ j)) H
abbrev rAddA (K : PySem.W.Frag) : R2 := fun x y H Q => (rI0 (fun i j => .int (i + j))) x y H Q ∨ (rStr2 x y H Q ∨ (rCat x y H Q ∨ rCatA K x y H Q))
theorem op_addA : OpR X (binaryOp .Add) (rAddA X.K) := OpR.or op_add (OpR.or op_add_str (OpR.or op_cat op_catA))
theorem op2_add : Op2 X τ (rAddA X.K) addS := by
  intro H o x y d1 d2 Φ Q r1 r2 w s k
  cases r1 <;> cases r2 <;> try (exact False.elim s)
  · exact .inl ⟨_, _, rfl, rfl, k _ _ (.here w (.int _) s)⟩
  · exact .inr (.inl ⟨_, _, rfl, rfl, s.1, k _ _ (.here w (.str _) s.2)⟩)
  · rename_i h1 q1 _ _ _ h2 q2
    refine .inr (.inr (.inr ⟨_, _, _, _, rfl, rfl, h1.to, h2.to, by rw [q1.length, q2.length]; exact s.1, fun e => ?_, fun _ e => ?_, fun _ _ p hp => k _ _ (newT w hp (q1.append q2) s.2)⟩))
    · subst e; cases q1; exact k _ _ (.here w (.tup h2 q2) s.2)
    · subst e; cases q2; exact k _ _ (.here w (.tup h1 q1) (by have := s.2; rw [List.append_nil] at this; exact this))
  · rename_i h1 n1 q1 _ _ _ h2 n2 q2
    exact .inr (.inr (.inl ⟨_, _, _, _, rfl, rfl, h1, h2, by rw [q1.length, q2.length]; exact s.1, fun p hp => k _ _ (newL w hp (q1.append q2) s.2)⟩))
end
end DL
set_option Elab.async false
set_option linter.all false
set_option maxRecDepth 100000
set_option maxHeartbeats 2000000
/-! DL3: operators, tests, displays, calls, statements over data. -/
namespace DL
open PySem PySem.Spec PyProof.Rows L2
section
variable {X : Cx} {τ : Tx} {k : Nat} {Ξ : DX → Δ → O → Prop} {Γ : Gm X τ k Ξ} {e a b c : Expr} {es : List Expr} {δ : Δ} {o : O} {pos : Pos} {Φ : D → O → Prop} {S : D → D → O → (D → O → Prop) → Prop} {r : R2}
/-! ### arithmetic, by kinds -/
theorem we_add (h : WE Γ a δ o fun d1 o1 => WE Γ b δ o1 fun d2 o2 => addS d1 d2 o2 Φ) : WE Γ (.BinOp a .Add b pos) δ o Φ := we_bin op_addA op2_add h
theorem op2_sub : Op2 X τ (rI0 fun i j => .int (i - j)) subS := op2I0 fun d1 d2 o Φ s => by
  cases d1 <;> cases d2 <;> first | exact False.elim s | exact ⟨_, _, rfl, rfl, s⟩
theorem we_sub (h : WE Γ a δ o fun d1 o1 => WE Γ b δ o1 fun d2 o2 => subS d1 d2 o2 Φ) : WE Γ (.BinOp a .Sub b pos) δ o Φ := we_bin op_sub op2_sub h
theorem op_mulG : OpR X (binaryOp .Mult) (rI IntMulOk fun i j => .int (i * j)) := opI fun _ _ _ _ _ _ _ hc q => mul_int q hc
abbrev rMulA : R2 := fun x y H Q => (rI IntMulOk (fun i j => .int (i * j))) x y H Q ∨ rRep x y H Q
theorem Rs.rep {K : PySem.W.Frag} {H : Hp} {o : O} {vs : List V} {ds : List D} (r : Rs K τ H o vs ds) : ∀ n : Nat, Rs K τ H o (List.replicate n vs).flatten (List.replicate n ds).flatten
  | 0 => .nil
  | n + 1 => by
    rw [List.replicate_succ, List.replicate_succ, List.flatten_cons, List.flatten_cons]
    exact r.append (Rs.rep r n)
theorem op2_mul : Op2 X τ rMulA mulS := by
  intro H o x y d1 d2 Φ Q r1 r2 w s k
  cases r1 <;> cases r2 <;> try (exact False.elim s)
  · exact .inl ⟨_, _, rfl, rfl, s.1, k _ _ (.here w (.int _) s.2)⟩
  · rename_i h n q i
    obtain ⟨s1, s2, s3, s4⟩ := s
    exact .inr ⟨_, _, _, rfl, rfl, h, s1, s2, by rw [q.length]; exact s3, fun p hp => k _ _ (newL w hp (q.rep _) s4)⟩
theorem we_mul (h : WE Γ a δ o fun d1 o1 => WE Γ b δ o1 fun d2 o2 => mulS d1 d2 o2 Φ) : WE Γ (.BinOp a .Mult b pos) δ o Φ := we_bin (OpR.or op_mulG op_rep) op2_mul h
theorem op2_fdiv : Op2 X τ (rI CDivW fun i j => .int (i / j)) fdivS := op2I fun d1 d2 o Φ s => by
  cases d1 <;> cases d2 <;> first | exact False.elim s | exact ⟨_, _, rfl, rfl, s.1, s.2⟩
theorem we_fdiv (h : WE Γ a δ o fun d1 o1 => WE Γ b δ o1 fun d2 o2 => fdivS d1 d2 o2 Φ) : WE Γ (.BinOp a .FloorDiv b pos) δ o Φ := we_bin op_fdivW op2_fdiv h
theorem op2_mod : Op2 X τ (rI (fun _ j => 0 < j) fun i j => .int (i % j)) modS := op2I fun d1 d2 o Φ s => by
  cases d1 <;> cases d2 <;> first | exact False.elim s | exact ⟨_, _, rfl, rfl, s.1, s.2⟩
theorem we_mod (h : WE Γ a δ o fun d1 o1 => WE Γ b δ o1 fun d2 o2 => modS d1 d2 o2 Φ) : WE Γ (.BinOp a .Mod b pos) δ o Φ := we_bin op_mod op2_mod h
theorem op2_pow : Op2 X τ (rI CPow fun i j => .int (i ^ j.toNat)) powS := op2I fun d1 d2 o Φ s => by
  cases d1 <;> cases d2 <;> first | exact False.elim s | exact ⟨_, _, rfl, rfl, s.1, s.2⟩
theorem we_pow (h : WE Γ a δ o fun d1 o1 => WE Γ b δ o1 fun d2 o2 => powS d1 d2 o2 Φ) : WE Γ (.BinOp a .Pow b pos) δ o Φ := we_bin op_pow op2_pow h
theorem addS_i {i j : Int} (h : Φ (.int (i + j)) o) : addS (.int i) (.int j) o Φ := h
theorem subS_i {i j : Int} (h : Φ (.int (i - j)) o) : subS (.int i) (.int j) o Φ := h
theorem mulS_i {i j : Int} (hc : IntMulOk i j) (h : Φ (.int (i * j)) o) : mulS (.int i) (.int j) o Φ := ⟨hc, h⟩
theorem fdivS_i {i j : Int} (hc : CDivW i j) (h : Φ (.int (i / j)) o) : fdivS (.int i) (.int j) o Φ := ⟨hc, h⟩
theorem modS_i {i j : Int} (hc : 0 < j) (h : Φ (.int (i % j)) o) : modS (.int i) (.int j) o Φ := ⟨hc, h⟩
theorem powS_18 (h : Φ (.int 1000000000000000000) o) : powS (.int 10) (.int 18) o Φ := ⟨⟨by decide, by decide, by decide⟩, h⟩
theorem mul_l {i j : Int} (h1 : -18446744073709551616 < i) (h2 : i < 18446744073709551616) : IntMulOk i j := CMul.ok (.inl ⟨h1, h2⟩)
theorem mul_r {i j : Int} (h1 : -18446744073709551616 < j) (h2 : j < 18446744073709551616) : IntMulOk i j := CMul.ok (.inr ⟨h1, h2⟩)
theorem div_s {i j : Int} (h1 : 0 < j) (h2 : j < 18446744073709551616) : CDivW i j := wide_div (b := 64) h1 (by omega) (by decide) (by decide)
/-! ### comparisons -/
/-- a op b, compared, gives a datum that Φ takes -/
def WC (Γ : Gm X τ k Ξ) (op : CmpOp) (a b : Expr) (δ : Δ) (o : O) (Φ : D → O → Prop) : Prop := ∀ σ H, Okk X.K τ Γ.H0 Γ.o0 σ H δ o → ∀ pins s, Inv X pins σ H s →
  wpAny (model X.prog X.w) X.A (eval a X.env) (fun v s₁ => wpAny (model X.prog X.w) X.A (eval b X.env) (fun u s₂ => wpAny (model X.prog X.w) X.A (compareOp op v u) (EP X pins σ (PostE X.K τ H o Φ)) X.xe s₂) X.xe s₁) X.xe s
theorem pc_w {op : CmpOp} {σ : L2.St} {H : Hp} {Q : VK} : PC X op a b fun σ' H' Q' => σ' = σ ∧ H' = H ∧ (∀ v H'', Q v H'' → Q' v H'') ∧ ∀ pins s, Inv X pins σ H s →
  wpAny (model X.prog X.w) X.A (eval a X.env) (fun v s₁ => wpAny (model X.prog X.w) X.A (eval b X.env) (fun u s₂ => wpAny (model X.prog X.w) X.A (compareOp op v u) (EP X pins σ Q) X.xe s₂) X.xe s₁) X.xe s :=
  ⟨fun pins s σ' H' Q' I ⟨e1, e2, k, h⟩ => by
    subst e1 e2
    exact thn (h pins s I) fun v s1 z => thn z fun u s2 z => thn z fun r s3 z => EP.imp z k⟩
theorem we_c {op : CmpOp} {Φ : D → O → Prop} (h : WC Γ op a b δ o Φ) (h1 : behindInMarks op b = false := by first | exact nobehind _ (by decide) (by decide) | rfl) : WE Γ (.Compare a [op] [b] pos) δ o Φ := fun σ H ok =>
  cE_of (pe_cmp (pc_w (σ := σ) (H := H) (Q := PostE X.K τ H o Φ)) h1) ⟨rfl, rfl, fun _ _ q => q, h σ H ok⟩
theorem wt_c {op : CmpOp} {Ψ : Bool → O → Prop} (h : WC Γ op a b δ o fun d o' => ∃ y, d = .bl y ∧ Ψ y o') (h1 : behindInMarks op b = false := by first | exact nobehind _ (by decide) (by decide) | rfl) : WT Γ (.Compare a [op] [b] pos) δ o Ψ := fun σ H ok =>
  cT_of (pt_cmp (pc_w (σ := σ) (H := H) (Q := PostE X.K τ H o fun d o' => ∃ y, d = .bl y ∧ Ψ y o')) h1) ⟨rfl, rfl, fun v H' ⟨d, o', w, l, r, y, e, q⟩ => by subst e; cases r; exact ⟨y, rfl, o', w, l, q⟩, h σ H ok⟩
theorem wc_R {op : CmpOp} (ho : OpR X (compareOp op) r) (hs : Op2 X τ r S) (h : WE Γ a δ o fun d1 o1 => WE Γ b δ o1 fun d2 o2 => S d1 d2 o2 Φ) : WC Γ op a b δ o Φ := fun σ H ok pins s I => by
  refine thn (h σ H ok pins s I) fun u s1 ⟨v, H1, I1, rv, d1, o1, w1, l1, r1, h1⟩ => ?_
  have ok1 := ok.step l1 w1
  refine thn (h1 σ H1 ok1 pins s1 I1) fun u2 s2 ⟨v2, H2, I2, rv2, d2, o2, w2, l2, r2, q⟩ => ?_
  exact ho pins s2 σ H2 v v2 u u2 _ I2 rv rv2 (hs H2 o2 v v2 d1 d2 Φ _ (r1.mono l2) r2 w2 q fun v H' p => p.le (l1.trans l2))
mutual
/-- data that == tells apart by value -/
def py : D → PyData
  | .bl b => .bool b
  | .int i => .int i
  | .str x => .str x
  | .tup ds => .tuple (pys ds)
  | .lst ds => .list (pys ds)
  | _ => .none
def pys : List D → List PyData
  | [] => []
  | d :: ds => py d :: pys ds
end
mutual
def isPy : D → Bool
  | .non => true
  | .bl _ => true
  | .int _ => true
  | .str _ => true
  | .tup ds => isPys ds
  | .lst ds => isPys ds
  | _ => false
def isPys : List D → Bool
  | [] => true
  | d :: ds => isPy d && isPys ds
end
mutual
theorem R.dp {K : PySem.W.Frag} {H : Hp} {o : O} : ∀ {v : V} {d : D}, R K τ H o v d → isPy d = true → Dp K H v (py d)
  | _, _, .non, _ => by rw [py.eq_def]; exact .non
  | _, _, .bl b, _ => by rw [py.eq_def]; exact .bl b
  | _, _, .int i, _ => by rw [py.eq_def]; exact .int i
  | _, _, .str x, _ => by rw [py.eq_def]; exact .str x
  | _, _, .tup h r, p => by rw [py.eq_def]; rw [isPy.eq_def] at p; exact .tup h.to (r.dp p)
  | _, _, .lst h _ r, p => by rw [py.eq_def]; rw [isPy.eq_def] at p; exact .lst (.of h) (r.dp p)
  | _, _, .byt _, p => by rw [isPy.eq_def] at p; cases p
  | _, _, .ptup _ _ _ _, p => by rw [isPy.eq_def] at p; cases p
  | _, _, .ref _, p => by rw [isPy.eq_def] at p; cases p
  | _, _, .ty _, p => by rw [isPy.eq_def] at p; cases p
  | _, _, .scr _, p => by rw [isPy.eq_def] at p; cases p
  | _, _, .dct _ _ _, p => by rw [isPy.eq_def] at p; cases p
  | _, _, .deck _ _, p => by rw [isPy.eq_def] at p; cases p
  | _, _, .tape _ _ _ _ _, p => by rw [isPy.eq_def] at p; cases p
theorem Rs.dp {K : PySem.W.Frag} {H : Hp} {o : O} : ∀ {vs : List V} {ds : List D}, Rs K τ H o vs ds → isPys ds = true → DpAll K H vs (pys ds)
  | _, _, .nil, _ => by rw [pys.eq_def]; exact .nil
  | _, _, .cons h r, p => by
    rw [isPys.eq_def] at p
    rw [pys.eq_def]
    have p' := Bool.and_eq_true_iff.mp p
    exact .cons (h.dp p'.1) (r.dp p'.2)
end
/-- == of plain data -/
def eqD (d e : D) : Bool := PyData.eqv (py d) (py e)
def okD (d : D) : Bool := isPy d && SeqAt.shaped (py d)
def eqS (d1 d2 : D) (o : O) (Φ : D → O → Prop) : Prop := okD d1 = true ∧ okD d2 = true ∧ Φ (.bl (eqD d1 d2)) o
def neS (d1 d2 : D) (o : O) (Φ : D → O → Prop) : Prop := okD d1 = true ∧ okD d2 = true ∧ Φ (.bl (!eqD d1 d2)) o
theorem op2_eq : Op2 X τ (rEqD X.K) eqS := fun H o x y d1 d2 Φ Q r1 r2 w s k =>
  ⟨py d1, py d2, r1.dp (Bool.and_eq_true_iff.mp s.1).1, r2.dp (Bool.and_eq_true_iff.mp s.2.1).1, (Bool.and_eq_true_iff.mp s.1).2, (Bool.and_eq_true_iff.mp s.2.1).2, k _ _ (.here w (.bl _) s.2.2)⟩
theorem op2_ne : Op2 X τ (rNeD X.K) neS := fun H o x y d1 d2 Φ Q r1 r2 w s k =>
  ⟨py d1, py d2, r1.dp (Bool.and_eq_true_iff.mp s.1).1, r2.dp (Bool.and_eq_true_iff.mp s.2.1).1, (Bool.and_eq_true_iff.mp s.1).2, (Bool.and_eq_true_iff.mp s.2.1).2, k _ _ (.here w (.bl _) s.2.2)⟩
theorem wc_eq (h : WE Γ a δ o fun d1 o1 => WE Γ b δ o1 fun d2 o2 => eqS d1 d2 o2 Φ) : WC Γ .Eq a b δ o Φ := wc_R (op_eqD Γ.units) op2_eq h
theorem wc_ne (h : WE Γ a δ o fun d1 o1 => WE Γ b δ o1 fun d2 o2 => neS d1 d2 o2 Φ) : WC Γ .NotEq a b δ o Φ := wc_R (op_neD Γ.units) op2_ne h
theorem eqS_i {i j : Int} (h : Φ (.bl (decide (i = j))) o) : eqS (.int i) (.int j) o Φ := ⟨rfl, rfl, h⟩
def ltS (f : Int → Int → Bool) : D → D → O → (D → O → Prop) → Prop
  | .int i, .int j, o, Φ => Φ (.bl (f i j)) o
  | _, _, _, _ => False
theorem op2_lt {f : Int → Int → Bool} : Op2 X τ (rI0 fun i j => .bl (f i j)) (ltS f) := by
  intro H o x y d1 d2 Φ Q r1 r2 w s k
  cases r1 <;> cases r2 <;> try (exact False.elim s)
  exact ⟨_, _, rfl, rfl, k _ _ (.here w (.bl _) s)⟩
theorem wc_lt (h : WE Γ a δ o fun d1 o1 => WE Γ b δ o1 fun d2 o2 => ltS (fun i j => decide (i < j)) d1 d2 o2 Φ) : WC Γ .Lt a b δ o Φ := wc_R op_lt op2_lt h
theorem wc_le (h : WE Γ a δ o fun d1 o1 => WE Γ b δ o1 fun d2 o2 => ltS (fun i j => decide (i ≤ j)) d1 d2 o2 Φ) : WC Γ .LtE a b δ o Φ := wc_R op_le op2_lt h
theorem wc_gt (h : WE Γ a δ o fun d1 o1 => WE Γ b δ o1 fun d2 o2 => ltS (fun i j => decide (j < i)) d1 d2 o2 Φ) : WC Γ .Gt a b δ o Φ := wc_R op_gt op2_lt h
theorem wc_ge (h : WE Γ a δ o fun d1 o1 => WE Γ b δ o1 fun d2 o2 => ltS (fun i j => decide (j ≤ i)) d1 d2 o2 Φ) : WC Γ .GtE a b δ o Φ := wc_R op_ge op2_lt h
theorem ltS_i {f : Int → Int → Bool} {i j : Int} (h : Φ (.bl (f i j)) o) : ltS f (.int i) (.int j) o Φ := h
/-- a op b op' c, ints -/
theorem we_chain {op op' : CmpOp} {f g : Int → Int → Bool} (ho : OpR X (compareOp op) (rI0 fun i j => .bl (f i j))) (ho' : OpR X (compareOp op') (rI0 fun i j => .bl (g i j)))
    (h : WE Γ a δ o fun d1 o1 => WE Γ b δ o1 fun d2 o2 => ∃ i j, d1 = .int i ∧ d2 = .int j ∧ if f i j = true then WE Γ c δ o2 fun d3 o3 => ∃ l, d3 = .int l ∧ Φ (.bl (g j l)) o3 else Φ (.bl false) o2)
    (hm : lastMarks [op, op'] [b, c] = false := by with_unfolding_all rfl) : WE Γ (.Compare a [op, op'] [b, c] pos) δ o Φ := fun σ H ok => by
  refine cE_of (pe_chain ho ho' pe_c pe_c pe_c hm) ?_
  refine cE_mono (h σ H ok) fun x H1 ⟨d1, o1, w1, l1, r1, h1⟩ => ?_
  have ok1 := ok.step l1 w1
  refine cE_mono (h1 σ H1 ok1) fun y H2 ⟨d2, o2, w2, l2, r2, i, j, e1, e2, h2⟩ => ?_
  have ok2 := ok1.step l2 w2
  subst e1 e2
  refine ⟨i, j, r1.int_, r2.int_, f i j, rfl, ?_⟩
  cases hf : f i j with
  | false =>
    rw [hf, if_neg Bool.false_ne_true] at h2
    rw [if_neg Bool.false_ne_true]
    exact ⟨_, o2, w2, l1.trans l2, .bl _, h2⟩
  | true =>
    rw [hf, if_pos rfl] at h2
    rw [if_pos rfl]
    refine cE_mono (h2 σ H2 ok2) fun z H3 ⟨d3, o3, w3, l3, r3, l, e3, h3⟩ => ?_
    subst e3
    exact ⟨j, l, r2.int_, r3.int_, ⟨_, o3, w3, (l1.trans l2).trans l3, .bl _, h3⟩⟩
theorem wt_chain {op op' : CmpOp} {f g : Int → Int → Bool} {Ψ : Bool → O → Prop} (ho : OpR X (compareOp op) (rI0 fun i j => .bl (f i j))) (ho' : OpR X (compareOp op') (rI0 fun i j => .bl (g i j)))
    (h : WE Γ a δ o fun d1 o1 => WE Γ b δ o1 fun d2 o2 => ∃ i j, d1 = .int i ∧ d2 = .int j ∧ if f i j = true then WE Γ c δ o2 fun d3 o3 => ∃ l, d3 = .int l ∧ Ψ (g j l) o3 else Ψ false o2)
    (hm : lastMarks [op, op'] [b, c] = false := by with_unfolding_all rfl) : WT Γ (.Compare a [op, op'] [b, c] pos) δ o Ψ := fun σ H ok => by
  refine cT_of (pt_chain ho ho' pe_c pe_c pe_c hm) ?_
  refine cE_mono (h σ H ok) fun x H1 ⟨d1, o1, w1, l1, r1, h1⟩ => ?_
  have ok1 := ok.step l1 w1
  refine cE_mono (h1 σ H1 ok1) fun y H2 ⟨d2, o2, w2, l2, r2, i, j, e1, e2, h2⟩ => ?_
  have ok2 := ok1.step l2 w2
  subst e1 e2
  refine ⟨i, j, r1.int_, r2.int_, f i j, rfl, ?_⟩
  cases hf : f i j with
  | false =>
    rw [hf, if_neg Bool.false_ne_true] at h2
    rw [if_neg Bool.false_ne_true]
    exact ⟨_, rfl, o2, w2, l1.trans l2, h2⟩
  | true =>
    rw [hf, if_pos rfl] at h2
    rw [if_pos rfl]
    refine cE_mono (h2 σ H2 ok2) fun z H3 ⟨d3, o3, w3, l3, r3, l, e3, h3⟩ => ?_
    subst e3
    exact ⟨j, l, r2.int_, r3.int_, _, rfl, o3, w3, (l1.trans l2).trans l3, h3⟩
theorem we_lele (h : WE Γ a δ o fun d1 o1 => WE Γ b δ o1 fun d2 o2 => ∃ i j, d1 = .int i ∧ d2 = .int j ∧ if decide (i ≤ j) = true then WE Γ c δ o2 fun d3 o3 => ∃ l, d3 = .int l ∧ Φ (.bl (decide (j ≤ l))) o3 else Φ (.bl false) o2)
    (hm : lastMarks [.LtE, .LtE] [b, c] = false := by with_unfolding_all rfl) : WE Γ (.Compare a [.LtE, .LtE] [b, c] pos) δ o Φ := we_chain op_le op_le h hm
/-! ### tests -/
variable {Ψ : Bool → O → Prop}
theorem wt_val (h : WE Γ e δ o fun d o' => ∃ b, d = .bl b ∧ Ψ b o') (he : ∀ whole, isTrue e X.env whole = (do let v ← whole; standAt e.pos; holding [v] (truthy v)) := by intro _; rfl) : WT Γ e δ o Ψ := fun σ H ok =>
  cT_of (pt_val pe_c he) (cE_mono (h σ H ok) fun x H1 ⟨d, o1, w, l, r, b, e1, q⟩ => by subst e1; exact ⟨b, r.bl_, o1, w, l, q⟩)
theorem wt_not (h : WT Γ a δ o fun b o' => Ψ (!b) o') : WT Γ (.UnaryOp .Not a pos) δ o Ψ := fun σ H ok => cT_of (pt_not pt_c) (cT_mono (h σ H ok) fun _ _ q => q)
theorem wt_w {op} {rest : List Expr} (h : WW Γ (.BoolOp op rest pos) δ o Ψ) : WT Γ (.BoolOp op rest pos) δ o Ψ := fun σ H ok => cT_of (PW.pt pw_c) (h σ H ok)
theorem ww_and1 (h : WT Γ a δ o Ψ) : WW Γ (.BoolOp .And [a] pos) δ o Ψ := fun σ H ok => cW_of (pw_and1 pt_c) (h σ H ok)
theorem ww_or1 (h : WT Γ a δ o Ψ) : WW Γ (.BoolOp .Or [a] pos) δ o Ψ := fun σ H ok => cW_of (pw_or1 pt_c) (h σ H ok)
theorem ww_and {rest : List Expr} (h : WT Γ a δ o fun c o1 => if c = true then WW Γ (.BoolOp .And (b :: rest) pos) δ o1 Ψ else Ψ false o1) : WW Γ (.BoolOp .And (a :: b :: rest) pos) δ o Ψ := fun σ H ok =>
  cW_of (pw_and pt_c pw_c) (cT_mono (h σ H ok) fun c H1 ⟨o1, w, l, q⟩ => by
    cases c with
    | true =>
      rw [if_pos rfl] at q ⊢
      exact cW_mono (q σ H1 (ok.step l w)) fun _ _ p => p.le l
    | false =>
      rw [if_neg Bool.false_ne_true] at q ⊢
      exact ⟨o1, w, l, q⟩)
theorem ww_or {rest : List Expr} (h : WT Γ a δ o fun c o1 => if c = true then Ψ true o1 else WW Γ (.BoolOp .Or (b :: rest) pos) δ o1 Ψ) : WW Γ (.BoolOp .Or (a :: b :: rest) pos) δ o Ψ := fun σ H ok =>
  cW_of (pw_or pt_c pw_c) (cT_mono (h σ H ok) fun c H1 ⟨o1, w, l, q⟩ => by
    cases c with
    | false =>
      rw [if_neg Bool.false_ne_true] at q ⊢
      exact cW_mono (q σ H1 (ok.step l w)) fun _ _ p => p.le l
    | true =>
      rw [if_pos rfl] at q ⊢
      exact ⟨o1, w, l, q⟩)
/-- and, or, not as values (bools) -/
theorem we_one {op} (h : WE Γ a δ o Φ) : WE Γ (.BoolOp op [a] pos) δ o Φ := fun σ H ok => cE_of (pe_one pe_c) (h σ H ok)
theorem we_and {rest : List Expr} (h : WE Γ a δ o fun d o1 => ∃ c, d = .bl c ∧ if c = true then WE Γ (.BoolOp .And (b :: rest) pos) δ o1 Φ else Φ (.bl false) o1) : WE Γ (.BoolOp .And (a :: b :: rest) pos) δ o Φ := fun σ H ok =>
  cE_of (pe_and pe_c pe_c) (cE_mono (h σ H ok) fun x H1 ⟨d, o1, w, l, r, c, e1, q⟩ => by
    subst e1
    refine ⟨c, r.bl_, ?_⟩
    cases c with
    | true =>
      rw [if_pos rfl] at q ⊢
      exact cE_mono (q σ H1 (ok.step l w)) fun _ _ p => p.le l
    | false =>
      rw [if_neg Bool.false_ne_true] at q ⊢
      exact ⟨_, o1, w, l, .bl _, q⟩)
theorem we_not (h : WE Γ a δ o fun d o1 => ∃ c, d = .bl c ∧ Φ (.bl (!c)) o1) : WE Γ (.UnaryOp .Not a pos) δ o Φ := fun σ H ok =>
  cE_of (pe_not pe_c) (cE_mono (h σ H ok) fun x H1 ⟨d, o1, w, l, r, c, e1, q⟩ => by subst e1; exact ⟨c, r.bl_, _, o1, w, l, .bl _, q⟩)
theorem we_if (h : WT Γ c δ o fun b' o1 => if b' = true then WE Γ a δ o1 Φ else WE Γ b δ o1 Φ) : WE Γ (.IfExp c a b pos) δ o Φ := fun σ H ok =>
  cE_of (pe_ifExp pt_c pe_c pe_c) (cT_mono (h σ H ok) fun c H1 ⟨o1, w, l, q⟩ => by
    cases c with
    | true =>
      rw [if_pos rfl] at q ⊢
      exact cE_mono (q σ H1 (ok.step l w)) fun _ _ p => p.le l
    | false =>
      rw [if_neg Bool.false_ne_true] at q ⊢
      exact cE_mono (q σ H1 (ok.step l w)) fun _ _ p => p.le l)
/-! ### displays, items -/
theorem wa_nil {Φ : List D → O → Prop} (h : Φ [] o) : WA Γ [] δ o Φ := fun σ H ok => cA_of pa_nil ⟨[], o, ok.own, Le.refl, .nil, h⟩
theorem wa_cons {Φ : List D → O → Prop} (h : WE Γ e δ o fun d o1 => WA Γ es δ o1 fun ds o2 => Φ (d :: ds) o2) (hs : starEach (e :: es) X.env = (false, eval e X.env) :: starEach es X.env := by rfl) : WA Γ (e :: es) δ o Φ := fun σ H ok =>
  cA_of (pa_cons pe_c pa_c hs) (cE_mono (h σ H ok) fun x H1 ⟨d, o1, w1, l1, r1, h1⟩ => cA_mono (h1 σ H1 (ok.step l1 w1)) fun xs H2 ⟨ds, o2, w2, l2, r2, h2⟩ => ⟨_, o2, w2, l1.trans l2, .cons (r1.mono l2) r2, h2⟩)
theorem we_tup {x1} (h : WA Γ es δ o fun ds o1 => ds.length ≤ sizeLine ∧ Φ (.tup ds) o1) : WE Γ (.Tuple es x1 pos) δ o Φ := fun σ H ok =>
  cE_of (pe_tup pa_c) (cA_mono (h σ H ok) fun xs H1 ⟨ds, o1, w, l, r, h1, h2⟩ => ⟨by rw [r.length]; exact h1, fun p hp => (newT w hp r h2).le l⟩)
theorem we_lst (h : WA Γ es δ o fun ds o1 => ds.length ≤ sizeLine ∧ Φ (.lst ds) o1) : WE Γ (.List es pos) δ o Φ := fun σ H ok =>
  cE_of (pe_lst pa_c) (cA_mono (h σ H ok) fun xs H1 ⟨ds, o1, w, l, r, h1, h2⟩ => ⟨by rw [r.length]; exact h1, fun p hp => (newL w hp r h2).le l⟩)
/-- a[i] of a list, a tuple, a text, the script; of an owned list -/
def ixS (d1 d2 : D) (o : O) (Φ : D → O → Prop) : Prop := match d1, d2 with
  | .lst ds, .int i => ∃ d, atI ds i = some d ∧ Φ d o
  | .tup ds, .int i => ∃ d, atI ds i = some d ∧ Φ d o
  | .str x, .int i => x.length ≤ sizeLine ∧ ∃ c, atI x.cps.toList i = some c ∧ Φ (.str ⟨#[c]⟩) o
  | .scr ns, .int i => ∃ n, atI ns i = some n ∧ Φ (.int n) o
  | .ref p, .int i => ∃ ds d, o p = some (.lst ds) ∧ atI ds i = some d ∧ Φ d o
  | _, _ => False
theorem Rs.at {K : PySem.W.Frag} {H : Hp} {vs : List V} {ds : List D} {i : Int} {d : D} (r : Rs K τ H o vs ds) (h : atI ds i = some d) : ∃ v, atI vs i = some v ∧ R K τ H o v d := by
  unfold atI at h ⊢
  rw [r.length]
  cases e : ixN ds.length i with
  | none => rw [e] at h; cases h
  | some j =>
    rw [e] at h
    exact r.get (show ds[j]? = some d from h)
theorem atI_map {α β : Type} (f : α → β) {xs : List α} {i : Int} {x : α} (h : atI xs i = some x) : atI (xs.map f) i = some (f x) := by
  unfold atI at h ⊢
  rw [List.length_map]
  cases e : ixN xs.length i with
  | none => rw [e] at h; cases h
  | some j =>
    rw [e] at h
    have h' : xs[j]? = some x := h
    show (xs.map f)[j]? = _
    rw [List.getElem?_map, h'] <;> rfl
theorem op2_ix : Op2 X τ (rIx X.K) ixS := by
  intro H o x y d1 d2 Φ Q r1 r2 w s k
  cases r1 <;> cases r2 <;> try (exact False.elim s)
  · obtain ⟨s1, c, s2, s3⟩ := s
    exact .inr (.inr ⟨_, _, c, rfl, rfl, s1, s2, k _ _ (.here w (.str _) s3)⟩)
  · obtain ⟨ds, d, s0, s1, s2⟩ := s
    obtain ⟨vs, hv, q⟩ := w _ _ s0
    obtain ⟨v, e1, r⟩ := q.at s1
    exact .inl ⟨_, _, _, v, rfl, rfl, .of hv, e1, k _ _ (.here w r s2)⟩
  · rename_i h q i
    obtain ⟨d, s1, s2⟩ := s
    obtain ⟨v, e1, r⟩ := q.at s1
    exact .inr (.inl ⟨_, _, _, v, rfl, rfl, h.to, e1, k _ _ (.here w r s2)⟩)
  · rename_i h n q i
    obtain ⟨d, s1, s2⟩ := s
    obtain ⟨v, e1, r⟩ := q.at s1
    exact .inl ⟨_, _, _, v, rfl, rfl, .of h, e1, k _ _ (.here w r s2)⟩
  · rename_i h i
    obtain ⟨n, s1, s2⟩ := s
    exact .inl ⟨_, _, _, _, rfl, rfl, h.to, atI_map V.int s1, k _ _ (.here w (.int _) s2)⟩
theorem we_ix (h : WE Γ a δ o fun d1 o1 => WE Γ b δ o1 fun d2 o2 => ixS d1 d2 o2 Φ) (hx : PlainIx b := by exact fun _ _ => rfl) : WE Γ (.Subscript a b pos) δ o Φ := we_ixR ix_seq op2_ix hx h
end
end DL
set_option Elab.async false
set_option linter.all false
set_option maxRecDepth 100000
set_option maxHeartbeats 2000000
/-! DL4: promises over data; calls, methods, fields, own operators, new instances. -/
namespace DL
open PySem PySem.Spec PyProof.Rows L2
/-- what a def does, over data: the end, the exception -/
abbrev DSp := List D → O → (D → O → Prop) → (DX → O → Prop) → Prop
/-- its promise; n arguments -/
def spD (K : PySem.W.Frag) (τ : Tx) (n : Nat) (S : DSp) : Sp := fun vs H Q E => ∃ ds o Φ Ξ, Rs K τ H o vs ds ∧ Own K τ H o ∧ ds.length = n ∧ S ds o Φ Ξ ∧ (∀ v H', PostE K τ H o Φ v H' → Q v H') ∧
  ∀ cls dx H' x o', Own K τ H' o' → Le H o H' o' → RX K τ H' o' cls dx x → Ξ x o' → E cls dx H'
theorem spD_len {K : PySem.W.Frag} {τ : Tx} {n : Nat} {S : DSp} (vs : List V) (H : Hp) (Q : VK) (E : XK) (h : spD K τ n S vs H Q E) : vs.length = n := by
  obtain ⟨ds, o, Φ, Ξ, r, _, hl, _⟩ := h
  rw [r.length, hl]
theorem Rs.start {K : PySem.W.Frag} {τ : Tx} {H : Hp} {o : O} {vs : List V} {ds : List D} (r : Rs K τ H o vs ds) (N : List Str) (i : Nat) (d : D) (h : (ds.map some ++ List.replicate (N.length - ds.length) none)[i]? = some (some d)) :
    ∃ v, (L2.start N vs)[i]? = some (some v) ∧ R K τ H o v d := by
  by_cases hi : i < ds.length
  · rw [List.getElem?_append_left (by rw [List.length_map]; exact hi), List.getElem?_map] at h
    cases e : ds[i]? with
    | none => rw [e] at h; cases h
    | some d' =>
      rw [e] at h
      have h' : d' = d := by simpa using h
      subst h'
      obtain ⟨v, e1, r1⟩ := r.get e
      refine ⟨v, ?_, r1⟩
      unfold L2.start
      rw [List.getElem?_append_left (by rw [List.length_map, r.length]; exact hi), List.getElem?_map, e1] <;> rfl
  · rw [List.getElem?_append_right (by rw [List.length_map]; omega)] at h
    rw [List.getElem?_replicate] at h
    split at h <;> cases h
section
variable {P : Program} {w : World} {K : PySem.W.Frag} {mg : Str → Option Value} {base : Heap} {τ : Tx}
/-- THE RULE for a def: its body over data -/
theorem fnD {x qual : Str} {st : Stmt} {f : Addr} {fd : FuncData} {N ps : List Str} {k : Nat} {S : DSp} (F : Fun K x qual st f fd) (sc : FnScope N ps (defScope st))
    (body : ∀ (cdv : Value) (A : Around) (outer : List Env) (s : Shared) (H : Hp) (E : XK) (Ξ : DX → O → Prop) (Γ : Gm (cxOf (L2N.CX P w) P w K mg base N qual (defScope st) f cdv A outer s H E) τ k fun x _ o' => Ξ x o') (ds : List D) (o : O) (Φ : D → O → Prop),
      ds.length = ps.length → S ds o Φ Ξ → WSs Γ (defBody st) (ds.map some ++ List.replicate (N.length - ds.length) none) o { nx := fun _ o' => Φ .non o', rt := Φ }) : FnOk P w K mg base (L2N.CX P w) (k + 1) f fd ps (spD K τ ps.length S) := by
  refine F.okXN sc (fun vs H Q E h => spD_len vs H Q E h) (fun cdv A outer s H vs Q E hr h => ?_)
  obtain ⟨ds, o, Φ, Ξ, r, ow, hl, hS, hQ, hE⟩ := h
  refine ⟨cSs _ _, pss_c, ?_⟩
  let Γ : Gm (cxOf (L2N.CX P w) P w K mg base N qual (defScope st) f cdv A outer s H E) τ k fun x _ o' => Ξ x o' :=
    { H0 := H, o0 := o, W := fun cls d _ H' => E cls d H', tk := L2N.takes_of rfl rfl rfl rfl, po := passes_of rfl, rm := fun _ => hr, un := hr.un, nd := sc.nd,
      hW := fun cls d σ H' x δ o' ok rx hx => hE cls d H' x o' ok.own ok.le rx hx }
  have hn : (L2.start N vs).length = (ds.map some ++ List.replicate (N.length - ds.length) none).length := by
    unfold L2.start
    rw [List.length_append, List.length_append, List.length_map, List.length_map, List.length_replicate, List.length_replicate, r.length]
  have z := body cdv A outer s H E Ξ Γ ds o Φ hl hS (L2.start N vs) H ⟨Le.refl, ow, hn, fun i d h => r.start N i d h⟩
  refine cSs_mono z (fun σ H' ⟨δ, o', ok, _, h⟩ => ?_) (fun v H' ⟨d, o', l, ow', rv, h⟩ => ?_) (fun _ _ ⟨_, _, _, _, h⟩ => h.elim) (fun _ _ ⟨_, _, _, _, h⟩ => h.elim)
  · exact hQ _ _ ⟨.non, o', ok.own, ok.le, .non, h⟩
  · exact hQ _ _ ⟨d, o', ow', l, rv, h⟩
/-- a def of the text that keeps a promise over data -/
structure FnD (P : Program) (w : World) (K : PySem.W.Frag) (mg : Str → Option Value) (base : Heap) (τ : Tx) (k : Nat) (f : Addr) (n : Nat) (S : DSp) : Prop where
  run : FnR P w K mg base (L2N.CX P w) k f (spD K τ n S)
  kp : PySem.W.keepIn K (.ref f) = true
theorem FnD.mono {j k : Nat} {f : Addr} {n : Nat} {S : DSp} (F : FnD P w K mg base τ j f n S) (h : j ≤ k) : FnD P w K mg base τ k f n S := ⟨F.run.mono h, F.kp⟩
theorem FnD.of {x qual : Str} {st : Stmt} {f : Addr} {fd : FuncData} {ps : List Str} {k : Nat} {n : Nat} {S : DSp} (F : Fun K x qual st f fd) (h : FnOk P w K mg base (L2N.CX P w) k f fd ps (spD K τ n S)) (b : Binds K fd ps []) : FnD P w K mg base τ k f n S :=
  ⟨(h.raw b (.nil)).imp fun vs H Q E q => by rw [List.append_nil]; exact q, F.kp⟩
/-- a weaker promise -/
theorem FnD.imp {f : Addr} {k n : Nat} {S S' : DSp} (F : FnD P w K mg base τ k f n S) (h : ∀ ds o Φ Ξ, S' ds o Φ Ξ → S ds o Φ Ξ) : FnD P w K mg base τ k f n S' :=
  ⟨F.run.imp fun vs H Q E ⟨ds, o, Φ, Ξ, r, ow, hl, hS, q⟩ => ⟨ds, o, Φ, Ξ, r, ow, hl, h _ _ _ _ hS, q⟩, F.kp⟩
end
section
variable {X : Cx} {τ : Tx} {k j n : Nat} {Ξ : DX → Δ → O → Prop} {Γ : Gm X τ k Ξ} {e a b c : Expr} {es : List Expr} {δ : Δ} {o : O} {pos p apos : Pos} {Φ : D → O → Prop} {S : DSp} {g : Addr} {x : Str}
abbrev FnX (X : Cx) (τ : Tx) (j : Nat) (g : Addr) (n : Nat) (S : DSp) : Prop := FnD X.prog X.w X.K X.mg X.base τ j g n S
/-- the callee runs, around A -/
theorem runC {A : Around} {pins : List (Addr × Obj)} {s : Shared} {σ : L2.St} {H : Hp} {vs : List V} {us : List Value} {ds : List D} (F : FnX X τ j g n S) (hr : Room j A) (hA : A.frames = X.A.frames) (I : Inv X pins σ H s)
    (ok : Okk X.K τ Γ.H0 Γ.o0 σ H δ o) (r : Vals vs us) (rd : Rs X.K τ H o vs ds) (hn : ds.length = n) (h : S ds o Φ fun x o2 => Ξ x δ o2) :
    codeAny (model X.prog X.w) A (.call (.ref g) ⟨us, []⟩) (fun r s' => match r with | .ok (.ret v) => EP X pins σ (PostE X.K τ H o Φ) v s' | .ok _ => False | .error e => X.xe e s') s := by
  have e0 : Env0 X.prog X.w X.K X.mg X.base A X.stack s H := ⟨hA.trans I.env0.frames, I.env0.mod, I.env0.bs, I.env0.bsz, I.env0.funs, I.env0.frf, I.env0.hok, I.env0.bare⟩
  refine codeAny_mono (F.run A X.stack s H us vs (PostE X.K τ H o Φ) (L2.WE Γ.W σ) hr e0 r ⟨ds, o, Φ, fun x o2 => Ξ x δ o2, rd, ok.own, hn, h, fun _ _ q => q, fun cls dx H' x o' ow l rx hx => ?_⟩) fun r s' hq => ?_
  · exact Γ.hW cls dx σ H' x δ o' (ok.step l ow) rx hx
  · cases r with
    | error e => exact L2N.passAt Γ.tk σ pins H s e s' I hq
    | ok fl =>
      cases fl with
      | ret u => exact I.after hq
      | next => exact False.elim hq
      | brk => exact False.elim hq
      | cont => exact False.elim hq
theorem runD {A : Around} {pins : List (Addr × Obj)} {s : Shared} {σ : L2.St} {H : Hp} {vs : List V} {us : List Value} {ds : List D} (F : FnX X τ j g n S) (hr : Room j A) (hA : A.frames = X.A.frames) (I : Inv X pins σ H s)
    (ok : Okk X.K τ Γ.H0 Γ.o0 σ H δ o) (r : Vals vs us) (rd : Rs X.K τ H o vs ds) (hn : ds.length = n) (h : S ds o Φ fun x o2 => Ξ x δ o2) : wpAny (model X.prog X.w) A (call (.ref g) us) (EP X pins σ (PostE X.K τ H o Φ)) X.xe s :=
  wpAny_call (runC F hr hA I ok r rd hn h)
/-! ### f(e, ..) -/
theorem we_call [Calm X] (F : FnX X τ j g n S) (hm : X.mg x = some (.ref g)) (h : WA Γ (e :: es) δ o fun ds o1 => ds.length = n ∧ S ds o1 Φ fun x o2 => Ξ x δ o2) (hj : j ≤ k := by decide) (hg : Gl X x := by rfl) (hdb : (x == ("__debug__" : Str)) = false := by decide)
    (he : starEach (e :: es) X.env = (false, eval e X.env) :: starEach es X.env := by rfl) (hpl : (backTo pos (starEach es X.env)).any (·.1) = false := by rfl) : WE Γ (.Call (.Name x p) (e :: es) [] pos) δ o Φ := by
  intro σ H ok pins s I
  refine wpAny_Call_Name_kw (ld_glob I hg hm ?_ hdb)
  refine PySem.W.callWith_K (h₀ := X.base) I.ok.mod.kin F.kp (thn (h σ H ok pos pins s I) fun us s1 ⟨vs, H1, I1, r, ds, o1, w1, l1, rd, hn, q⟩ => ⟨I1.kIn, ?_⟩) he hpl
  exact thn (runD F (Γ.room.mono hj) rfl I1 (ok.step l1 w1) r rd hn q) fun u s2 z => EP.imp z fun v H' p => PostE.le l1 p
/-! ### instances -/
/-- the datum is an instance of the class at C with these attributes -/
inductive InsD (τ : Tx) (o : O) : D → Addr → List Str → Prop where
  | deck (c g : Int) : InsD τ o (.deck c g) τ.deck ["first", "more"]
  | tape (ss : List (Str × Int)) : InsD τ o (.tape ss) τ.tape ["listed", "begins", "total"]
  | own {a C : Addr} {fs : List (Str × D)} (h : o a = some (.ins C fs)) : InsD τ o (.ref a) C (fs.map (·.1))
theorem Rf.no {K : PySem.W.Frag} {H : Hp} {gs : List (Str × V)} {fs : List (Str × D)} (r : Rf K τ H o gs fs) {m : Str} (h : m ∉ fs.map (·.1)) : gs.lookup m = none := by
  induction r with
  | nil => rfl
  | @cons q v d vs ds hv r ih =>
    rw [List.map_cons, List.mem_cons, not_or] at h
    rw [List.lookup_cons, beq_eq_false_iff_ne.mpr h.1]
    exact ih h.2
theorem fDeck_no {c g : Int} {m : Str} (h : m ∉ (["first", "more"] : List Str)) : (fDeck c g).lookup m = none := by
  rw [List.mem_cons, List.mem_cons, not_or, not_or] at h
  unfold fDeck
  rw [lookup_putF, if_neg h.2.1, lookup_putF, if_neg h.1] <;> rfl
theorem fTape_no {t b : Addr} {n : Int} {m : Str} (h : m ∉ (["listed", "begins", "total"] : List Str)) : (fTape t b n).lookup m = none := by
  rw [List.mem_cons, List.mem_cons, List.mem_cons, not_or, not_or, not_or] at h
  unfold fTape
  rw [lookup_putF, if_neg h.2.2.1, lookup_putF, if_neg h.2.1, lookup_putF, if_neg h.1] <;> rfl
theorem InsD.at {K : PySem.W.Frag} {H : Hp} {v : V} {d : D} {C : Addr} {ns : List Str} (i : InsD τ o d C ns) (r : R K τ H o v d) (w : Own K τ H o) : ∃ a dx fs, v = .ref a ∧ H a = some (.ins C dx fs) ∧ ∀ m, m ∉ ns → fs.lookup m = none := by
  cases i with
  | deck c g => cases r with | deck h n => exact ⟨_, _, _, rfl, h, fun m hm => fDeck_no hm⟩
  | tape ss => cases r with | tape h n r hb nb => exact ⟨_, _, _, rfl, h, fun m hm => fTape_no hm⟩
  | own h =>
    cases r
    obtain ⟨dx, gs, h1, h2⟩ := w _ _ h
    exact ⟨_, dx, gs, rfl, h1, fun m hm => h2.no hm⟩
/-- o.m(e, ..) -/
theorem we_meth [Calm X] {C : Addr} {m : Str} {pl : Sem Bool} (F : FnX X τ j g n S) (c : Cls X.K C) (hm : Meth X.K C m g)
    (h : WE Γ a δ o fun d o1 => ∃ ns, InsD τ o1 d C ns ∧ m ∉ ns ∧ WA Γ (e :: es) δ o1 fun ds o2 => (d :: ds).length = n ∧ S (d :: ds) o2 Φ fun x o3 => Ξ x δ o3) (hj : j ≤ k := by decide)
    (hst : starEach (e :: es) X.env = (false, eval e X.env) :: starEach es X.env := by rfl) (hpl : (backTo pos (starEach es X.env)).any (·.1) = false := by rfl)
    (ht : eval (.Call (.Attribute a m apos) (e :: es) [] pos) X.env = (do
      let ov ← eval a X.env
      standAt apos.atName
      let (f, first) ← holding [ov] (getMethod ov m pl)
      callWith pos f first (backTo pos (starEach (e :: es) X.env)) (backToKw pos (keywordEach [] X.env))) := by rfl) :
    WE Γ (.Call (.Attribute a m apos) (e :: es) [] pos) δ o Φ := by
  intro σ H ok pins s I
  refine PySem.W.methodCall_KW (pl := pl) (thn (h σ H ok pins s I) fun u s1 ⟨x, H1, I1, rx, d, o1, w1, l1, r1, ns, i, hni, q⟩ => ?_) ht
  obtain ⟨p, dx, fs, rfl, hp, hno⟩ := i.at r1 w1
  obtain rfl : u = Value.ref p := rx
  have ok1 := ok.step l1 w1
  refine getmeth_ok I1 hp c hm (hno m hni) ?_
  refine PySem.W.callWith_K (first := [.ref p]) (h₀ := X.base) I.ok.mod.kin hm.kp (thn (q σ H1 ok1 pos pins s1 I1) fun us s2 ⟨vs, H2, I2, r, ds, o2, w2, l2, rd, hn, q2⟩ => ⟨I2.kIn, ?_⟩) hst hpl
  exact thn (runD (us := .ref p :: us) (vs := .ref p :: vs) F (Γ.room.mono hj) rfl I2 (ok1.step l2 w2) (.cons rfl r) (.cons (r1.mono l2) rd) hn q2) fun u s3 z => EP.imp z fun v H' p => PostE.le (l1.trans l2) p
end
end DL
set_option Elab.async false
set_option linter.all false
set_option maxRecDepth 100000
set_option maxHeartbeats 2000000
/-! DL5: own operators, fields, properties, new instances; isinstance. -/
namespace DL
open PySem PySem.Spec PyProof.Rows L2
section
variable {X : Cx} {τ : Tx} {k j n : Nat} {Ξ : DX → Δ → O → Prop} {Γ : Gm X τ k Ξ} {e a b c : Expr} {es : List Expr} {δ : Δ} {o : O} {pos p apos : Pos} {Φ : D → O → Prop} {S : DSp} {g : Addr} {x : Str}
theorem back_of {pins : List (Addr × Obj)} {σ : L2.St} {Q : VK} {u : Value} {s : Shared} (h : EP X pins σ Q u s) : PySem.W.CmpBack (EP X pins σ Q) u s := by
  cases u with
  | notImplemented => obtain ⟨v, H', _, r, _⟩ := h; cases v <;> first | exact (nomatch r) | (obtain ⟨t, e⟩ := r; cases e)
  | _ => exact h
theorem InsD.inst {pins : List (Addr × Obj)} {σ : L2.St} {H : Hp} {s : Shared} {v : V} {d : D} {C : Addr} {ns : List Str} (I : Inv X pins σ H s) (i : InsD τ o d C ns) (r : R X.K τ H o v d) (w : Own X.K τ H o) :
    ∃ (q dx : Addr) (od : Obj), v = .ref q ∧ PySem.W.InstAt s.heap q (PySem.W.instObj C dx) C (some od) := by
  obtain ⟨q, dx, fs, rfl, hq, _⟩ := i.at r w
  obtain ⟨mA, J, _⟩ := ins_get I.hok hq
  obtain ⟨od, J, _⟩ := J.look
  exact ⟨q, dx, od, rfl, J⟩
/-- two expressions, then an operation on their values -/
theorem two {T : D → D → O → Prop} {α : Type} {f : Value → Value → Sem α} {Q : α → Shared → Prop} {pins : List (Addr × Obj)} {s : Shared} {σ : L2.St} {H : Hp} (h : WE Γ a δ o fun d1 o1 => WE Γ b δ o1 fun d2 o2 => T d1 d2 o2) (ok : Okk X.K τ Γ.H0 Γ.o0 σ H δ o) (I : Inv X pins σ H s)
    (hf : ∀ u1 u2 s2 v1 v2 H2 d1 d2 o2, Inv X pins σ H2 s2 → RelV v1 u1 → RelV v2 u2 → R X.K τ H2 o2 v1 d1 → R X.K τ H2 o2 v2 d2 → Le H o H2 o2 → Okk X.K τ Γ.H0 Γ.o0 σ H2 δ o2 → T d1 d2 o2 → wpAny (model X.prog X.w) X.A (f u1 u2) Q X.xe s2) :
    wpAny (model X.prog X.w) X.A (eval a X.env) (fun v s₁ => wpAny (model X.prog X.w) X.A (eval b X.env) (fun u s₂ => wpAny (model X.prog X.w) X.A (f v u) Q X.xe s₂) X.xe s₁) X.xe s := by
  refine thn (h σ H ok pins s I) fun u s1 ⟨v, H1, I1, rv, d1, o1, w1, l1, r1, h1⟩ => ?_
  have ok1 := ok.step l1 w1
  refine thn (h1 σ H1 ok1 pins s1 I1) fun u2 s2 ⟨v2, H2, I2, rv2, d2, o2, w2, l2, r2, q⟩ => ?_
  exact hf u u2 s2 v v2 H2 d1 d2 o2 I2 rv rv2 (r1.mono l2) r2 (l1.trans l2) (ok1.step l2 w2) q
/-- what the class says of a binary operator whose right operand is of the class itself, or of a built-in type -/
structure BinC (K : PySem.W.Frag) (C : Addr) (op : Operator) (g : Addr) : Prop where
  self : PySem.W.selfFirst K C = true
  at_ : PySem.W.findIn K (.ref C) (PySem.dunder op.info.2) = some (some (.ref g))
  fn : PySem.W.isFn K (.ref g) = true
/-- a op b, both of the class at C -/
theorem we_binC [Calm X] {C : Addr} {op : Operator} (F : FnX X τ j g 2 S) (c : BinC X.K C op g)
    (h : WE Γ a δ o fun d1 o1 => WE Γ b δ o1 fun d2 o2 => (∃ ns, InsD τ o2 d1 C ns) ∧ (∃ ns, InsD τ o2 d2 C ns) ∧ S [d1, d2] o2 Φ fun x o3 => Ξ x δ o3) (hj : j ≤ k := by decide) : WE Γ (.BinOp a op b pos) δ o Φ := by
  intro σ H ok pins s I
  refine wpAny_BinOp (two h ok I fun u1 u2 s2 v1 v2 H2 d1 d2 o2 I2 rv1 rv2 r1 r2 l ok2 ⟨⟨n1, i1⟩, ⟨n2, i2⟩, q⟩ => ?_)
  obtain ⟨q1, dx1, od1, rfl, J1⟩ := i1.inst I2 r1 ok2.own
  obtain ⟨q2, dx2, od2, rfl, J2⟩ := i2.inst I2 r2 ok2.own
  obtain rfl : u1 = Value.ref q1 := rv1
  obtain rfl : u2 = Value.ref q2 := rv2
  obtain ⟨m, hF⟩ := I2.fr
  refine PySem.W.binop_K hF I2.ok.mod.kin J1 J2.type c.self c.at_ c.fn ?_
  exact thn (runD (us := [.ref q1, .ref q2]) (vs := [.ref q1, .ref q2]) F (Γ.room.mono hj) rfl I2 ok2 (.cons rfl (.cons rfl .nil)) (.cons r1 (.cons r2 .nil)) rfl q) fun u s3 z => back_of (EP.imp z fun v H' p => PostE.le l p)
def tyN : D → String
  | .non => "NoneType" | .bl _ => "bool" | .int _ => "int" | .str _ => "str" | _ => ""
theorem typeOf_pure {v : V} {u : Value} {K : PySem.W.Frag} {H : Hp} {d : D} (r : R K τ H o v d) (ru : RelV v u) (hn : tyN d ≠ "") : typeOf u = pure (.type (tyN d)) := by
  cases r with
  | non => cases ru; rfl
  | bl b => cases ru; rfl
  | int i => obtain ⟨t, rfl⟩ := ru; rfl
  | str x => obtain ⟨t, rfl⟩ := ru; rfl
  | _ => exact (hn rfl).elim
/-- ~a -/
theorem we_invO [Calm X] {C : Addr} (F : FnX X τ j g 1 S) (hs : PySem.W.findIn X.K (.ref C) "__invert__" = some (some (.ref g))) (hf : PySem.W.isFn X.K (.ref g) = true)
    (h : WE Γ a δ o fun d1 o1 => (∃ ns, InsD τ o1 d1 C ns) ∧ S [d1] o1 Φ fun x o3 => Ξ x δ o3) (hj : j ≤ k := by decide) : WE Γ (.UnaryOp .Invert a pos) δ o Φ := by
  intro σ H ok pins s I
  refine UnaryOp_ (thn (h σ H ok pins s I) fun u s1 ⟨v, H1, I1, rv, d1, o1, w1, l1, r1, ⟨n1, i1⟩, q⟩ => ?_)
  obtain ⟨q1, dx1, od1, rfl, J1⟩ := i1.inst I1 r1 w1
  obtain rfl : u = Value.ref q1 := rv
  obtain ⟨m, hF⟩ := I1.fr
  refine PySem.W.ksp_inv hF I1.ok.mod.kin J1 hs hf ?_
  exact thn (runD (us := [.ref q1]) (vs := [.ref q1]) F (Γ.room.mono hj) rfl I1 (ok.step l1 w1) (.cons rfl .nil) (.cons r1 .nil) rfl q) fun u s3 z => EP.imp z fun v H' p => PostE.le l1 p
/-- what the class says of its own == -/
structure EqC (K : PySem.W.Frag) (C g : Addr) : Prop where
  at_ : PySem.W.findIn K (.ref C) "__eq__" = some (some (.ref g))
  fn : PySem.W.isFn K (.ref g) = true
/-- a[b], a of the class at C with an own __getitem__ -/
structure IxC (K : PySem.W.Frag) (C g : Addr) : Prop where
  at_ : PySem.W.findIn K (.ref C) "__getitem__" = some (some (.ref g))
  fi : PySem.W.fnIn K g = true
  fn : PySem.W.isFn K (.ref g) = true
/-- b in a, a of the class at C with an own __contains__ that gives a bool -/
structure InC (K : PySem.W.Frag) (C g : Addr) : Prop where
  at_ : PySem.W.findIn K (.ref C) "__contains__" = some (some (.ref g))
  fn : PySem.W.isFn K (.ref g) = true
theorem wc_notInO [Calm X] {C : Addr} (F : FnX X τ j g 2 S) (c : InC X.K C g)
    (h : WE Γ a δ o fun d1 o1 => WE Γ b δ o1 fun d2 o2 => (∃ ns, InsD τ o2 d2 C ns) ∧ S [d2, d1] o2 (fun d o3 => ∃ q, d = .bl q ∧ Φ (.bl (!q)) o3) fun x o3 => Ξ x δ o3) (hj : j ≤ k := by decide) : WC Γ .NotIn a b δ o Φ := by
  intro σ H ok pins s I
  refine two h ok I fun u1 u2 s2 v1 v2 H2 d1 d2 o2 I2 rv1 rv2 r1 r2 l ok2 ⟨⟨n1, i1⟩, q⟩ => ?_
  obtain ⟨q1, dx1, od1, rfl, J1⟩ := i1.inst I2 r2 ok2.own
  obtain rfl : u2 = Value.ref q1 := rv2
  obtain ⟨m, hF⟩ := I2.fr
  refine PySem.W.notIn_K hF I2.ok.mod.kin J1 c.at_ c.fn ?_
  refine thn (runD (us := [.ref q1, u1]) (vs := [.ref q1, v1]) F (Γ.room.mono hj) rfl I2 ok2 (.cons rfl (.cons rv1 .nil)) (.cons r2 (.cons r1 .nil)) rfl q) fun u s3 ⟨v, H3, I3, rv, d, o3, w3, l3, r3, y, ey, q3⟩ => ?_
  subst ey
  cases r3
  cases rv
  exact wpAny_truthy_bool ⟨.bl (!y), H3, I3, rfl, .bl (!y), o3, w3, l.trans l3, .bl (!y), q3⟩
/-! ### fields, properties -/
/-- what a class of ours must have -/
structure ClsX (K : PySem.W.Frag) (C : Addr) (ns : List Str) : Prop where
  cl : Cls K C
  no : ∀ f ∈ ns, NoAttr K C f
def fldS (f : Str) : D → O → (D → O → Prop) → Prop
  | .deck c g, o, Φ => (f = "first" ∧ Φ (.int c) o) ∨ (f = "more" ∧ Φ (.int g) o)
  | .tape ss, o, Φ => (f = "listed" ∧ Φ (.tup (ss.map songD)) o) ∨ (f = "total" ∧ Φ (.int (total ss)) o)
  | .ref a, o, Φ => ∃ C fs d, o a = some (.ins C fs) ∧ fs.lookup f = some d ∧ Φ d o
  | _, _, _ => False
theorem Rf.at {K : PySem.W.Frag} {H : Hp} {gs : List (Str × V)} {fs : List (Str × D)} (r : Rf K τ H o gs fs) {f : Str} {d : D} (h : fs.lookup f = some d) : ∃ v, gs.lookup f = some v ∧ R K τ H o v d := by
  induction r with
  | nil => cases h
  | @cons q v d' vs ds hv r ih =>
    rw [List.lookup_cons] at h ⊢
    cases e : (f == q) with
    | true =>
      rw [e] at h
      cases h
      exact ⟨v, rfl, hv⟩
    | false =>
      rw [e] at h
      exact ih h
theorem kfm : ¬ (("first" : Str) = "more") := by decide +kernel
theorem klb : ¬ (("listed" : Str) = "begins") := by decide +kernel
theorem klt : ¬ (("listed" : Str) = "total") := by decide +kernel
theorem kbt : ¬ (("begins" : Str) = "total") := by decide +kernel
theorem fDeck_first {c g : Int} : (fDeck c g).lookup ("first" : Str) = some (V.int c) := by
  unfold fDeck
  rw [lookup_putF, if_neg kfm, lookup_putF, if_pos rfl]
theorem fDeck_more {c g : Int} : (fDeck c g).lookup ("more" : Str) = some (V.int g) := by
  unfold fDeck
  rw [lookup_putF, if_pos rfl]
theorem fTape_listed {t b : Addr} {n : Int} : (fTape t b n).lookup ("listed" : Str) = some (V.ref t) := by
  unfold fTape
  rw [lookup_putF, if_neg klt, lookup_putF, if_neg klb, lookup_putF, if_pos rfl]
theorem fTape_begins {t b : Addr} {n : Int} : (fTape t b n).lookup ("begins" : Str) = some (V.ref b) := by
  unfold fTape
  rw [lookup_putF, if_neg kbt, lookup_putF, if_pos rfl]
theorem fTape_total {t b : Addr} {n : Int} : (fTape t b n).lookup ("total" : Str) = some (V.int n) := by
  unfold fTape
  rw [lookup_putF, if_pos rfl]
theorem we_fld {f : Str} (h : WE Γ a δ o fun d o1 => ∃ C ns, InsD τ o1 d C ns ∧ ClsX X.K C ns ∧ f ∈ ns ∧ fldS f d o1 Φ) (hb : attributeBase a f X.env (eval a X.env) = eval a X.env := by rfl) : WE Γ (.Attribute a f pos) δ o Φ := by
  intro σ H ok
  refine cE_of (pe_fld pe_c hb) (cE_mono (h σ H ok) fun v H1 ⟨d, o1, w, l, r, C, ns, i, c, hf, q⟩ => ?_)
  cases i with
  | deck c' g' =>
    cases r with
    | deck hp hn =>
      rcases q with ⟨rfl, q⟩ | ⟨rfl, q⟩
      · exact ⟨_, _, _, _, _, rfl, hp, c.cl, c.no _ hf, fDeck_first, _, o1, w, l, .int _, q⟩
      · exact ⟨_, _, _, _, _, rfl, hp, c.cl, c.no _ hf, fDeck_more, _, o1, w, l, .int _, q⟩
  | tape ss =>
    cases r with
    | tape hp hn rt hb nb =>
      rcases q with ⟨rfl, q⟩ | ⟨rfl, q⟩
      · exact ⟨_, _, _, _, _, rfl, hp, c.cl, c.no _ hf, fTape_listed, _, o1, w, l, rt.ptup_, q⟩
      · exact ⟨_, _, _, _, _, rfl, hp, c.cl, c.no _ hf, fTape_total, _, o1, w, l, .int _, q⟩
  | own hp =>
    cases r
    obtain ⟨C', fs', d', e1, e2, q⟩ := q
    rw [e1] at hp
    cases hp
    obtain ⟨dx, gs, h1, h2⟩ := w _ _ e1
    obtain ⟨v, e3, r3⟩ := h2.at e2
    exact ⟨_, _, _, _, _, rfl, h1, c.cl, c.no _ hf, e3, _, o1, w, l, r3, q⟩
/-- e.f, a property -/
theorem we_prop [Calm X] {C p' : Addr} {f : Str} (F : FnX X τ j g 1 S) (c : Cls X.K C) (hp : PropOf X.K C f p' g)
    (h : WE Γ a δ o fun d1 o1 => (∃ ns, InsD τ o1 d1 C ns) ∧ S [d1] o1 Φ fun _ _ => False) (hj : j + 1 ≤ k := by decide) (hb : attributeBase a f X.env (eval a X.env) = eval a X.env := by rfl) : WE Γ (.Attribute a f pos) δ o Φ := by
  intro σ H ok pins s I
  refine attr_of hb (thn (h σ H ok pins s I) fun u s1 ⟨v, H1, I1, rv, d1, o1, w1, l1, r1, ⟨n1, i1⟩, q⟩ => ?_)
  obtain ⟨q1, dx1, od1, rfl, J⟩ := i1.inst I1 r1 w1
  obtain rfl : u = Value.ref q1 := rv
  obtain ⟨rest, hrec⟩ := hp.rec_
  have I2 := I1.tok (s1.toks + 1)
  have hc : (PySem.W.clsIn X.K C).isSome = true := by
    obtain ⟨cd, hc, _⟩ := PySem.W.any_some c.hd
    rw [hc]
    rfl
  refine PySem.W.get_bind I1.kIn J (PySem.W.plainGet_of (c.get f)).1 (PySem.W.findObj_data hc hp.at_ hp.get hp.tak) (PySem.W.plainGet_of (c.get f)).2 (wpAny_call (PySem.W.prop_get (s := { s1 with toks := s1.toks + 1 }) I1.kIn hrec ?_))
  have e0 : Env0 X.prog X.w X.K X.mg X.base X.A.in1 X.stack { s1 with toks := s1.toks + 1 } H1 := I2.env0.in1
  have z := F.run X.A.in1 X.stack { s1 with toks := s1.toks + 1 } H1 [.ref q1] [.ref q1] (PostE X.K τ H1 o1 Φ) (fun _ _ _ => False) (Γ.room.mono hj).in1 e0 (.cons rfl .nil) ⟨[d1], o1, Φ, fun _ _ => False, .cons r1 .nil, w1, rfl, q, fun _ _ q => q, fun _ _ _ _ _ _ _ _ f => f⟩
  refine codeAny_mono z fun r s' hq => ?_
  cases r with
  | error er => obtain ⟨_, _, _, _, _, _, _, _, _, _, _, _, f⟩ := hq; exact f.elim
  | ok fl =>
    cases fl with
    | ret u =>
      obtain ⟨v, H', I3, rv, q3⟩ := I2.after hq
      show wpAny _ _ (handedOut u) _ _ _
      rw [PySem.W.handedOut_of (handed_of rv)]
      exact wpAny_pure ⟨v, H', I3, rv, PostE.le l1 q3⟩
    | next => exact False.elim hq
    | brk => exact False.elim hq
    | cont => exact False.elim hq
end
end DL
set_option Elab.async false
set_option linter.all false
set_option maxRecDepth 100000
set_option maxHeartbeats 2000000
/-! DL6: statements, loops, ownership, new instances. -/
namespace DL
open PySem PySem.Spec PyProof.Rows L2
section
variable {X : Cx} {τ : Tx} {k j n : Nat} {Ξ : DX → Δ → O → Prop} {Γ : Gm X τ k Ξ} {e a b c : Expr} {es : List Expr} {δ : Δ} {o : O} {pos p apos : Pos} {Φ : D → O → Prop} {S : DSp} {g : Addr} {x : Str} {st : Stmt} {sts : List Stmt} {E : DE}
theorem toE_cSs {H H1 : Hp} {o1 : O} {σ : L2.St} (l : Le H o H1 o1) (h : cSs X sts (toE X.K τ Γ.H0 Γ.o0 H1 o1 E) σ H1) : cSs X sts (toE X.K τ Γ.H0 Γ.o0 H o E) σ H1 :=
  cSs_mono h (fun _ _ ⟨δ', o', k, l', q⟩ => ⟨δ', o', k, l.trans l', q⟩) (fun _ _ q => q) (fun _ _ ⟨δ', o', k, l', q⟩ => ⟨δ', o', k, l.trans l', q⟩) fun _ _ ⟨δ', o', k, l', q⟩ => ⟨δ', o', k, l.trans l', q⟩
/-! ### blocks -/
theorem wss_nil (h : E.nx δ o) : WSs Γ [] δ o E := fun σ H ok => cSs_of pss_nil ⟨δ, o, ok, Le.refl, h⟩
theorem wss_cons (h : WS Γ st δ o { E with nx := fun δ1 o1 => WSs Γ sts δ1 o1 E }) : WSs Γ (st :: sts) δ o E := fun σ H ok => by
  refine cSs_of (pss_cons ps_c pss_c) ?_
  refine cS_mono (h σ H ok) (fun σ1 H1 ⟨δ1, o1, k1, l1, q⟩ => toE_cSs l1 (q σ1 H1 k1)) (fun _ _ q => q) (fun _ _ q => q) fun _ _ q => q
theorem wss_one (h : WS Γ st δ o E) : WSs Γ [st] δ o E := fun σ H ok => cSs_of (pss_one ps_c) (h σ H ok)
theorem WSs.mono {E' : DE} (h : WSs Γ sts δ o E) (kn : ∀ δ o, E.nx δ o → E'.nx δ o) (kr : ∀ d o, E.rt d o → E'.rt d o) (kb : ∀ δ o, E.bk δ o → E'.bk δ o) (kc : ∀ δ o, E.ct δ o → E'.ct δ o) : WSs Γ sts δ o E' := fun σ H ok =>
  cSs_mono (h σ H ok) (fun _ _ ⟨δ', o', k, l', q⟩ => ⟨δ', o', k, l', kn _ _ q⟩) (fun _ _ ⟨d, o', l, w, r, q⟩ => ⟨d, o', l, w, r, kr _ _ q⟩) (fun _ _ ⟨δ', o', k, l', q⟩ => ⟨δ', o', k, l', kb _ _ q⟩) fun _ _ ⟨δ', o', k, l', q⟩ => ⟨δ', o', k, l', kc _ _ q⟩
theorem ws_expr (h : WE Γ e δ o fun _ o1 => E.nx δ o1) (hs : swapsWith e none pos.line X.env = pure false := by rfl) : WS Γ (.Expr e pos) δ o E := fun σ H ok =>
  cS_of (ps_expr pe_c hs) (cE_mono (h σ H ok) fun v H1 ⟨d, o1, w, l, r, q⟩ => ⟨δ, o1, ok.step l w, l, q⟩)
theorem ws_ret (h : WE Γ e δ o E.rt) : WS Γ (.Return (some e) pos) δ o E := fun σ H ok =>
  cS_of (ps_ret pe_c) (cE_mono (h σ H ok) fun v H1 ⟨d, o1, w, l, r, q⟩ => ⟨d, o1, ok.le.trans l, w, r, q⟩)
theorem ws_if {tt ff : List Stmt} (h : WT Γ c δ o fun b o1 => if b = true then WSs Γ tt δ o1 E else WSs Γ ff δ o1 E) : WS Γ (.If c tt ff pos) δ o E := fun σ H ok =>
  cS_of (ps_if pt_c pss_c pss_c) (cT_mono (h σ H ok) fun b H1 ⟨o1, w, l, q⟩ => by
    cases b with
    | true =>
      rw [if_pos rfl] at q ⊢
      exact toE_cSs l (q σ H1 (ok.step l w))
    | false =>
      rw [if_neg Bool.false_ne_true] at q ⊢
      exact toE_cSs l (q σ H1 (ok.step l w)))
/-! ### targets, assignments -/
theorem Okk.set {K : PySem.W.Frag} {H0 H : Hp} {o0 : O} {σ : L2.St} {v : V} {d : D} (ok : Okk K τ H0 o0 σ H δ o) (i : Nat) (r : R K τ H o v d) : Okk K τ H0 o0 (σ.set i (some v)) H (δ.set i (some d)) o := by
  refine ⟨ok.le, ok.own, by rw [List.length_set, List.length_set, ok.len], fun i' d' h => ?_⟩
  by_cases e : i = i'
  · subst e
    by_cases hi : i < δ.length
    · rw [List.getElem?_set_self hi] at h
      cases h
      exact ⟨v, List.getElem?_set_self (by rw [ok.len]; exact hi), r⟩
    · rw [List.getElem?_eq_none (by rw [List.length_set]; omega)] at h
      cases h
  · rw [List.getElem?_set_ne e] at h ⊢
    exact ok.slot i' d' h
theorem wg_name (i : Nat) {d : D} {Ψ : Δ → O → Prop} (h : Ψ (δ.set i (some d)) o) (hi : X.N[i]? = some x := by rfl) (hx : Loc X.env.scope x := by first | exact Or.inl rfl | exact Or.inr rfl)
    (hf : X.fn x = true ∨ X.env.scope.names.lookup x = some .local := by first | exact Or.inl rfl | exact Or.inr rfl) : WG Γ (.Name x pos) d δ o Ψ := fun σ H v ok r =>
  cG_of (pg_name Γ.nd hi hx hf) ⟨_, o, ok.set i r, Le.refl, h⟩
theorem wgs_nil {Ψ : Δ → O → Prop} (h : Ψ δ o) : WGs Γ [] [] δ o Ψ := fun σ H vs ok r => by
  cases r
  exact cGs_of pgs_nil ⟨rfl, δ, o, ok, Le.refl, h⟩
theorem wgs_cons {d : D} {ds : List D} {Ψ : Δ → O → Prop} (h : WG Γ e d δ o fun δ1 o1 => WGs Γ es ds δ1 o1 Ψ) (hs : (assignEach (e :: es) X.env).map (·.2) = assign e X.env :: (assignEach es X.env).map (·.2) := by rfl) : WGs Γ (e :: es) (d :: ds) δ o Ψ := fun σ H vs ok r => by
  cases r with
  | cons r1 r2 =>
    refine cGs_of (pgs_cons pg_c pgs_c hs) ⟨_, _, rfl, ?_⟩
    refine cG_mono (h σ H _ ok r1) fun σ1 H1 ⟨δ1, o1, k1, l1, q⟩ => ?_
    exact cGs_mono (q σ1 H1 _ k1 (r2.mono l1)) fun _ _ ⟨δ2, o2, k2, l2, q2⟩ => ⟨δ2, o2, k2, l1.trans l2, q2⟩
theorem wg_tup {ds : List D} {kk : Nat} {Ψ : Δ → O → Prop} (h : WGs Γ es ds δ o Ψ) (hc : X.calm = true := by rfl) (hn : (assignEach es X.env).length = ds.length := by rfl) (hst : (assignEach es X.env).findIdx? (·.1) = none := by rfl) : WG Γ (.Tuple es kk pos) (.tup ds) δ o Ψ := fun σ H v ok r => by
  cases r with
  | tup ht rs => exact cG_of (pg_tup hc pgs_c rfl hst) ⟨_, _, rfl, ht.to, by rw [rs.length, hn], h σ H _ ok rs⟩
theorem ws_asg {tg : Expr} (h : WE Γ e δ o fun d o1 => WG Γ tg d δ o1 E.nx) (hs : swapsWithSole [tg] e pos.line X.env = pure false := by rfl) (hw : swappedStores [tg] e X.env = pure none := by rfl)
    (h1 : (assignEach [tg] X.env).map (·.2) = [assign tg X.env] := by rfl) : WS Γ (.Assign [tg] e pos) δ o E := fun σ H ok =>
  cS_of (ps_asg pe_c pg_c hs hw h1) (cE_mono (h σ H ok) fun v H1 ⟨d, o1, w, l, r, q⟩ => cG_mono (q σ H1 v (ok.step l w) r) fun _ _ ⟨δ2, o2, k2, l2, q2⟩ => ⟨δ2, o2, k2, l.trans l2, q2⟩)
/-- x = e -/
theorem ws_set (i : Nat) {px : Pos} (h : WE Γ e δ o fun d o1 => E.nx (δ.set i (some d)) o1) (hi : X.N[i]? = some x := by rfl) (hx : Loc X.env.scope x := by first | exact Or.inl rfl | exact Or.inr rfl) (hs : swapsWith e (some (.Name x px)) pos.line X.env = pure false := by rfl)
    (hf : X.fn x = true ∨ X.env.scope.names.lookup x = some .local := by first | exact Or.inl rfl | exact Or.inr rfl) : WS Γ (.Assign [.Name x px] e pos) δ o E := fun σ H ok =>
  cS_of (ps_set Γ.nd hi hx pe_c hs hf) (cE_mono (h σ H ok) fun v H1 ⟨d, o1, w, l, r, q⟩ => ⟨_, o1, (ok.step l w).set i r, l, q⟩)
/-- a, b = e1, e2 -/
theorem ws_par (i i' : Nat) {y z : Str} {px py pt : Pos} {kt k2 pt2} (h : WA Γ [a, b] δ o fun ds o1 => ∃ d1 d2, ds = [d1, d2] ∧ E.nx ((δ.set i (some d1)).set i' (some d2)) o1) (hi : X.N[i]? = some y := by rfl) (hj : X.N[i']? = some z := by rfl) (hij : i ≠ i' := by decide)
    (hx : X.env.scope.names.lookup y = some .local := by rfl) (hy : X.env.scope.names.lookup z = some .local := by rfl) (hc : X.calm = true := by rfl)
    (hw : swappedStores [.Tuple [.Name y px, .Name z py] kt pt] (.Tuple [a, b] k2 pt2) X.env = pure (some [y, z]) := by rfl)
    (hs : swapsWithSole [.Tuple [.Name y px, .Name z py] kt pt] (.Tuple [a, b] k2 pt2) pos.line X.env = pure false := by rfl) : WS Γ (.Assign [.Tuple [.Name y px, .Name z py] kt pt] (.Tuple [a, b] k2 pt2) pos) δ o E := fun σ H ok =>
  cS_of (ps_par hc Γ.nd hi hj hij hx hy pa_c hw hs) (cA_mono (h σ H ok) fun vs H1 ⟨ds, o1, w, l, r, d1, d2, e1, q⟩ => by
    subst e1
    cases r with
    | cons r1 r => cases r with
      | cons r2 r =>
        cases r
        exact ⟨_, _, rfl, _, o1, ((ok.step l w).set i r1).set i' r2, l, q⟩)
/-! ### owned objects are written -/
theorem Own.write {K : PySem.W.Frag} {H : Hp} {p : Addr} {u : HO} {y z : OS} (w : Own K τ H o) (h : o p = some z) (new : OR K τ (upd H p u) (updO o p y) p y) : Own K τ (upd H p u) (updO o p y) := fun q x e => by
  by_cases hq : q = p
  · subst hq
    rw [updO_same] at e
    cases e
    exact new
  · rw [updO_ne hq] at e
    have l : Le H o (upd H p u) (updO o p y) := Le.write h
    have := w q x e
    cases x with
    | lst ds => obtain ⟨vs, h1, h2⟩ := this; exact ⟨vs, by rw [upd_ne hq]; exact h1, h2.mono l⟩
    | ins C fs => obtain ⟨dx, gs, h1, h2⟩ := this; exact ⟨dx, gs, by rw [upd_ne hq]; exact h1, h2.mono l⟩
    | dct kvs => obtain ⟨gs, h1, h2⟩ := this; exact ⟨gs, by rw [upd_ne hq]; exact h1, h2.mono l⟩
    | xd gs fs => obtain ⟨h1, h2⟩ := this; exact ⟨by rw [upd_ne hq]; exact h1, h2.mono l⟩
    | lam u c qn => obtain ⟨h1, e2, e3⟩ := this; exact ⟨by rw [upd_ne hq]; exact h1, (l.ex e3 e2 rfl).1, (l.ex e3 e2 rfl).2⟩
    | tbl qn => obtain ⟨ps, h1, h2, h3⟩ := this; exact ⟨ps, by rw [upd_ne hq]; exact h1, h2, fun p cv e => let ⟨c, e1, e2, e3⟩ := h3 p cv e; ⟨c, e1, (l.ex e3 e2 rfl).1, (l.ex e3 e2 rfl).2⟩⟩
def putD (f : Str) (d : D) : List (Str × D) → List (Str × D)
  | [] => [(f, d)]
  | (g, x) :: r => if g = f then (g, d) :: r else (g, x) :: putD f d r
theorem Rf.put {K : PySem.W.Frag} {H : Hp} {gs : List (Str × V)} {fs : List (Str × D)} {f : Str} {v : V} {d : D} (r : Rf K τ H o gs fs) (h : R K τ H o v d) : Rf K τ H o (putF f v gs) (putD f d fs) := by
  induction r with
  | nil => exact .cons h .nil
  | @cons q v' d' vs ds hv r ih =>
    show Rf K τ H o (if q = f then (q, v) :: vs else (q, v') :: putF f v vs) (if q = f then (q, d) :: ds else (q, d') :: putD f d ds)
    split
    · exact .cons h r
    · exact .cons hv ih
theorem Rf.length {K : PySem.W.Frag} {H : Hp} {gs : List (Str × V)} {fs : List (Str × D)} (r : Rf K τ H o gs fs) : gs.length = fs.length := by
  induction r with
  | nil => rfl
  | cons h r ih => exact congrArg (· + 1) ih
/-- o.f = e, an owned instance -/
theorem ws_fld {f : Str} {apos : Pos} (h : WE Γ e δ o fun d o1 => WE Γ a δ o1 fun d2 o2 => ∃ q C fs, d2 = .ref q ∧ o2 q = some (.ins C fs) ∧ Cls X.K C ∧ NoAttr X.K C f ∧ fs.length < 1000 ∧ E.nx δ (updO o2 q (.ins C (putD f d fs))))
    (hs : swapsWith e (some (.Attribute a f apos)) pos.line X.env = pure false := by rfl) : WS Γ (.Assign [.Attribute a f apos] e pos) δ o E := fun σ H ok => by
  refine cS_of (ps_fld pe_c pe_c hs) (cE_mono (h σ H ok) fun v H1 ⟨d, o1, w1, l1, r1, h1⟩ => ?_)
  refine cE_mono (h1 σ H1 (ok.step l1 w1)) fun v2 H2 ⟨d2, o2, w2, l2, r2, q, C, fs, e1, e2, c, na, hl, q2⟩ => ?_
  subst e1
  cases r2
  obtain ⟨dx, gs, h3, h4⟩ := w2 _ _ e2
  have l : Le H2 o2 (upd H2 q (.ins C dx (putF f v gs))) (updO o2 q (.ins C (putD f d fs))) := Le.write e2
  refine ⟨q, C, dx, gs, rfl, h3, c, na, by rw [h4.length]; exact hl, δ, _, ((ok.step l1 w1).step l2 w2).step l (w2.write e2 ⟨dx, _, upd_same, ?_⟩), (l1.trans l2).trans l, q2⟩
  exact (h4.put (r1.mono l2)).mono l
theorem Rs.set {K : PySem.W.Frag} {H : Hp} {v : V} {d : D} : ∀ {vs : List V} {ds : List D} (m : Nat), Rs K τ H o vs ds → R K τ H o v d → Rs K τ H o (vs.set m v) (ds.set m d)
  | _, _, _, .nil, _ => .nil
  | _, _, 0, .cons _ r, h => .cons h r
  | _, _, m + 1, .cons h' r, h => .cons h' (Rs.set m r h)
/-- xs[i] = e, an owned list -/
theorem ws_sub {i : Expr} {spos : Pos} (h : WE Γ e δ o fun d o1 => WE Γ a δ o1 fun d2 o2 => WE Γ i δ o2 fun d3 o3 => ∃ q ds n m, d2 = .ref q ∧ d3 = .int n ∧ o3 q = some (.lst ds) ∧ ixN ds.length n = some m ∧ E.nx δ (updO o3 q (.lst (ds.set m d))))
    (ha : ∀ v, assign (.Subscript a i spos) X.env v = (do
      let ov ← holding [v] (eval a X.env)
      let iv ← holding [v, ov] (eval i X.env)
      standAt spos
      holding [v, ov, iv] (setItem ov iv v)
      release [v, ov, iv] []) := by intro _; rfl) (hs : swapsWithSole [.Subscript a i spos] e pos.line X.env = pure false := by rfl) (hw : swappedStores [.Subscript a i spos] e X.env = pure none := by rfl)
    (h1 : (assignEach [.Subscript a i spos] X.env).map (·.2) = [assign (.Subscript a i spos) X.env] := by rfl) : WS Γ (.Assign [.Subscript a i spos] e pos) δ o E := fun σ H ok => by
  refine cS_of (ps_asg pe_c (pg_sub pe_c pe_c set_list ha) hs hw h1) (cE_mono (h σ H ok) fun v H1 ⟨d, o1, w1, l1, r1, h1⟩ => ?_)
  have ok1 := ok.step l1 w1
  refine cE_mono (h1 σ H1 ok1) fun v2 H2 ⟨d2, o2, w2, l2, r2, h2⟩ => ?_
  have ok2 := ok1.step l2 w2
  refine cE_mono (h2 σ H2 ok2) fun v3 H3 ⟨d3, o3, w3, l3, r3, q, ds, n', m, e1, e2, e3, e4, q2⟩ => ?_
  subst e1 e2
  cases r2
  cases r3
  obtain ⟨vs, h3, h4⟩ := w3 _ _ e3
  have l : Le H3 o3 (upd H3 q (.lst (vs.set m v))) (updO o3 q (.lst (ds.set m d))) := Le.write e3
  refine ⟨q, vs, n', m, rfl, rfl, h3, by rw [h4.length]; exact e4, δ, _, (ok2.step l3 w3).step l (w3.write e3 ⟨_, upd_same, ?_⟩), ((l1.trans l2).trans l3).trans l, q2⟩
  exact (h4.set m ((r1.mono l2).mono l3)).mono l
end
end DL
set_option Elab.async false
set_option linter.all false
set_option maxRecDepth 100000
set_option maxHeartbeats 2000000
/-! DL7: loops, ownership, new instances, built-in functions. -/
namespace DL
open PySem PySem.Spec PyProof.Rows L2
section
variable {X : Cx} {τ : Tx} {k j n : Nat} {Ξ : DX → Δ → O → Prop} {Γ : Gm X τ k Ξ} {e a b c : Expr} {es : List Expr} {δ : Δ} {o : O} {pos p apos : Pos} {Φ : D → O → Prop} {S : DSp} {g : Addr} {x : Str} {st : Stmt} {sts : List Stmt} {E : DE}
/-! ### for -/
/-- the loop over these items -/
def forD (Γ : Gm X τ k Ξ) (tg : Expr) (body : List Stmt) (E : DE) : List D → Δ → O → Prop
  | [], δ, o => E.nx δ o
  | d :: ds, δ, o => WG Γ tg d δ o fun δ1 o1 => WSs Γ body δ1 o1 { nx := forD Γ tg body E ds, rt := E.rt, bk := E.nx, ct := forD Γ tg body E ds }
/-- .. by an invariant -/
theorem forD_inv {tg : Expr} {body : List Stmt} (I : Nat → Δ → O → Prop) : ∀ (ds : List D) (i : Nat) (δ : Δ) (o : O), I i δ o →
    (∀ m d δ' o', ds[m]? = some d → I (i + m) δ' o' → WG Γ tg d δ' o' fun δ1 o1 => WSs Γ body δ1 o1 { nx := I (i + m + 1), rt := E.rt, bk := E.nx, ct := I (i + m + 1) }) →
    (∀ δ' o', I (i + ds.length) δ' o' → E.nx δ' o') → forD Γ tg body E ds δ o
  | [], i, δ, o, h, _, hd => hd δ o h
  | d :: ds, i, δ, o, h, hs, hd => fun σ H v ok r => by
    refine cG_mono (hs 0 d δ o rfl h σ H v ok r) fun σ' H' ⟨δ1, o1, k1, l1, q⟩ => ⟨δ1, o1, k1, l1, ?_⟩
    have rec_ : ∀ δ2 o2, I (i + 0 + 1) δ2 o2 → forD Γ tg body E ds δ2 o2 := fun δ2 o2 h2 => forD_inv I ds (i + 1) δ2 o2 h2 (fun m d' δ' o' e h' => by
      have := hs (m + 1) d' δ' o' (by simpa using e) (by rw [show i + (m + 1) = i + 1 + m by omega]; exact h')
      rw [show i + (m + 1) = i + 1 + m by omega] at this
      exact this) (fun δ' o' h' => hd δ' o' (by rw [List.length_cons, show i + (ds.length + 1) = i + 1 + ds.length by omega]; exact h'))
    exact q.mono rec_ (fun _ _ q => q) (fun _ _ q => q) rec_
theorem forD_inv0 {tg : Expr} {body : List Stmt} {ds : List D} (I : Nat → Δ → O → Prop) (h : I 0 δ o)
    (hs : ∀ m d δ' o', ds[m]? = some d → I m δ' o' → WG Γ tg d δ' o' fun δ1 o1 => WSs Γ body δ1 o1 { nx := I (m + 1), rt := E.rt, bk := E.nx, ct := I (m + 1) })
    (hd : ∀ δ' o', I ds.length δ' o' → E.nx δ' o') : forD Γ tg body E ds δ o :=
  forD_inv I ds 0 δ o h (fun m d δ' o' e h' => by rw [Nat.zero_add] at h' ⊢; exact hs m d δ' o' e h') (fun δ' o' h' => hd δ' o' (by rw [Nat.zero_add] at h'; exact h'))
def FW (Γ : Gm X τ k Ξ) (tg : Expr) (body : List Stmt) (E : DE) (ds : List D) (H1 : Hp) (o1 : O) (i : Nat) (σ : L2.St) (H : Hp) : Prop := ∃ δ o, Okk X.K τ Γ.H0 Γ.o0 σ H δ o ∧ Le H1 o1 H o ∧ forD Γ tg body E (ds.drop i) δ o
theorem fw_turn {tg : Expr} {body : List Stmt} {ds : List D} {H H1 : Hp} {o1 : O} {i : Nat} {σ : L2.St} {Hs : Hp} {v : V} {d : D} (l0 : Le Hs o H1 o1) (hw : FW Γ tg body E ds H1 o1 i σ H) (e : ds[i]? = some d)
    (r : R X.K τ H1 o1 v d) : cG X tg v σ H fun σ2 H2 => cSs X body { toE X.K τ Γ.H0 Γ.o0 Hs o E with nx := FW Γ tg body E ds H1 o1 (i + 1), ct := FW Γ tg body E ds H1 o1 (i + 1), bk := (toE X.K τ Γ.H0 Γ.o0 Hs o E).nx } σ2 H2 := by
  obtain ⟨δ', o', k', l', q⟩ := hw
  rw [List.drop_eq_getElem_cons (List.getElem?_eq_some_iff.mp e).1] at q
  have hd : ds[i]'(List.getElem?_eq_some_iff.mp e).1 = d := (List.getElem?_eq_some_iff.mp e).2
  rw [hd] at q
  refine cG_mono (q σ H v k' (r.mono l')) fun σ2 H2 ⟨δ2, o2, k2, l2, q2⟩ => ?_
  refine cSs_mono (q2 σ2 H2 k2) (fun σ3 H3 ⟨δ3, o3, k3, l3, q3⟩ => ⟨δ3, o3, k3, (l'.trans l2).trans l3, q3⟩) (fun _ _ q => q) (fun σ3 H3 ⟨δ3, o3, k3, l3, q3⟩ => ⟨δ3, o3, k3, ((l0.trans l').trans l2).trans l3, q3⟩) fun σ3 H3 ⟨δ3, o3, k3, l3, q3⟩ => ⟨δ3, o3, k3, (l'.trans l2).trans l3, q3⟩
theorem fw_end {tg : Expr} {body : List Stmt} {ds : List D} {H H1 : Hp} {o1 : O} {σ : L2.St} {Hs : Hp} (l0 : Le Hs o H1 o1) (hw : FW Γ tg body E ds H1 o1 ds.length σ H) : (toE X.K τ Γ.H0 Γ.o0 Hs o E).nx σ H := by
  obtain ⟨δ', o', k', l', q⟩ := hw
  rw [List.drop_length] at q
  exact ⟨δ', o', k', l0.trans l', q⟩
/-- over a list that is not written any more -/
theorem ws_forL {tg iter : Expr} {body : List Stmt} (h : WE Γ iter δ o fun d o1 => ∃ ds, d = .lst ds ∧ forD Γ tg body E ds δ o1) (hc : X.calm = true := by rfl) (hs : ∀ x, foldedSetIterable iter X.env x = pure x := by intro _; rfl) : WS Γ (.For tg iter body [] pos) δ o E := fun σ H ok => by
  refine cS_of (ps_for Γ.po hc (pi_list pe_c) pg_c pss_c hs) ?_
  refine cE_mono (h σ H ok) fun v H1 ⟨d, o1, w, l, r, ds, e1, q⟩ => ?_
  subst e1
  cases r with
  | @lst a vs _ ha na rs =>
    refine ⟨a, rfl, ⟨vs, .of ha⟩, for_list (K := X.K) (a := a) (xs := vs) (FW Γ tg body E ds H1 o1) ⟨δ, o1, ok.step l w, Le.refl, q⟩ (fun i σ' H' _ ⟨_, _, _, l', _⟩ => .of (l'.ex na ha rfl).1) (fun i y σ' H' ey hw => ?_) (fun σ' H' hw => ?_)⟩
    · obtain ⟨d, ed, rd⟩ := rs.of_get ey
      exact fw_turn l hw ed rd
    · rw [rs.length] at hw
      exact fw_end l hw
theorem ws_forT {tg iter : Expr} {body : List Stmt} (h : WE Γ iter δ o fun d o1 => ∃ ds, d = .tup ds ∧ forD Γ tg body E ds δ o1) (hc : X.calm = true := by rfl) (hs : ∀ x, foldedSetIterable iter X.env x = pure x := by intro _; rfl) : WS Γ (.For tg iter body [] pos) δ o E := fun σ H ok => by
  refine cS_of (ps_for Γ.po hc (pi_tup pe_c) pg_c pss_c hs) ?_
  refine cE_mono (h σ H ok) fun v H1 ⟨d, o1, w, l, r, ds, e1, q⟩ => ?_
  subst e1
  cases r with
  | @tup a vs _ ha rs =>
    refine ⟨a, rfl, ⟨vs, ha.to⟩, for_tup (K := X.K) (a := a) (xs := vs) (FW Γ tg body E ds H1 o1) ⟨δ, o1, ok.step l w, Le.refl, q⟩ (fun i σ' H' _ ⟨_, _, _, l', _⟩ => (ha.mono l').to) (fun i y σ' H' ey hw => ?_) (fun σ' H' hw => ?_)⟩
    · obtain ⟨d, ed, rd⟩ := rs.of_get ey
      exact fw_turn l hw ed rd
    · rw [rs.length] at hw
      exact fw_end l hw
def rangeD (lo : Int) (n : Nat) : List D := (List.range n).map fun (i : Nat) => .int (lo + (i : Int))
theorem rangeD_get {lo : Int} {n i : Nat} (h : i < n) : (rangeD lo n)[i]? = some (.int (lo + (i : Int))) := by
  unfold rangeD
  rw [List.getElem?_map, List.getElem?_range h] <;> rfl
theorem rangeD_length {lo : Int} {n : Nat} : (rangeD lo n).length = n := by unfold rangeD; rw [List.length_map, List.length_range]
theorem rangeD_of {lo : Int} {n i : Nat} {d : D} (h : (rangeD lo n)[i]? = some d) : i < n ∧ d = .int (lo + (i : Int)) := by
  have hi : i < n := by
    have := (List.getElem?_eq_some_iff.mp h).1
    rw [rangeD_length] at this
    exact this
  rw [rangeD_get hi] at h
  cases h
  exact ⟨hi, rfl⟩
theorem ws_forR1 {tg : Expr} {body : List Stmt} {rp cp : Pos} (hm : X.mg "range" = none) (h : WA Γ [a] δ o fun ds o1 => ∃ i : Int, ds = [.int i] ∧ -(2 ^ 62) ≤ i ∧ i < 2 ^ 62 ∧ forD Γ tg body E (rangeD 0 i.toNat) δ o1) (hg : Gl X "range" := by rfl) (hc : X.calm = true := by rfl)
    (hst : starEach [a] X.env = [(false, eval a X.env)] := by rfl) (hs : ∀ x, foldedSetIterable (.Call (.Name "range" rp) [a] [] cp) X.env x = pure x := by intro _; rfl) : WS Γ (.For tg (.Call (.Name "range" rp) [a] [] cp) body [] pos) δ o E := fun σ H ok => by
  refine cS_of (ps_for Γ.po hc (pi_range1 hg hm pa_c hst) pg_c pss_c hs) ?_
  refine cA_mono (h σ H ok) fun vs H1 ⟨ds, o1, w, l, r, i, e1, b1, b2, q⟩ => ?_
  subst e1
  cases r with
  | cons r1 r =>
    cases r
    cases r1
    refine ⟨i, rfl, b1, b2, for_range (lo := 0) (n := i.toNat) (FW Γ tg body E (rangeD 0 i.toNat) H1 o1) ⟨δ, o1, ok.step l w, Le.refl, q⟩ (fun m σ' H' hm hw => fw_turn l hw (rangeD_get hm) (.int _)) (fun σ' H' hw => fw_end l (by rw [rangeD_length]; exact hw))⟩
/-! ### while -/
theorem ws_while {body : List Stmt} (I : Δ → O → Prop) (μ : Δ → O → Nat) (h0 : I δ o)
    (h : ∀ δ' o', I δ' o' → WT Γ c δ' o' fun b o1 => if b = true then WSs Γ body δ' o1 { nx := fun δ2 o2 => I δ2 o2 ∧ μ δ2 o2 < μ δ' o', rt := E.rt, bk := E.nx, ct := fun δ2 o2 => I δ2 o2 ∧ μ δ2 o2 < μ δ' o' } else E.nx δ' o1) : WS Γ (.While c body [] pos) δ o E := fun σ H ok => by
  refine cS_of (ps_while Γ.po pt_c pss_c) ⟨fun m σ' H' => ∃ δ' o', Okk X.K τ Γ.H0 Γ.o0 σ' H' δ' o' ∧ Le H o H' o' ∧ I δ' o' ∧ μ δ' o' = m, ⟨_, δ, o, ok, Le.refl, h0, rfl⟩, fun m σ' H' ⟨δ', o', k', l', i', em⟩ => ?_⟩
  refine cT_mono (h δ' o' i' σ' H' k') fun b H1 ⟨o1, w1, l1, q⟩ => ?_
  have k1 := k'.step l1 w1
  cases b with
  | true =>
    rw [if_pos rfl] at q ⊢
    refine ⟨fun σ2 H2 => ∃ δ2 o2, Okk X.K τ Γ.H0 Γ.o0 σ2 H2 δ2 o2 ∧ Le H o H2 o2 ∧ I δ2 o2 ∧ μ δ2 o2 < m, fun σ2 H2 ⟨δ2, o2, k2, l2, i2, hm⟩ => ⟨_, hm, δ2, o2, k2, l2, i2, rfl⟩, ?_⟩
    exact cSs_mono (q σ' H1 k1) (fun σ2 H2 ⟨δ2, o2, k2, l2, i2, hm⟩ => ⟨δ2, o2, k2, (l'.trans l1).trans l2, i2, em ▸ hm⟩) (fun _ _ q => q) (fun σ2 H2 ⟨δ2, o2, k2, l2, q2⟩ => ⟨δ2, o2, k2, (l'.trans l1).trans l2, q2⟩) fun σ2 H2 ⟨δ2, o2, k2, l2, i2, hm⟩ => ⟨δ2, o2, k2, (l'.trans l1).trans l2, i2, em ▸ hm⟩
  | false =>
    rw [if_neg Bool.false_ne_true] at q ⊢
    exact ⟨δ', o1, k1, l'.trans l1, q⟩
/-! ### ownership -/
/-- less is owned -/
theorem Own.less {K : PySem.W.Frag} {H : Hp} {o' : O} (w : Own K τ H o) (h : ∀ a y, o' a = some y → o a = some y) : Own K τ H o' ∧ Le H o H o' := by
  have l : Le H o H o' := Le.mk fun a y n e => ⟨e, by
    cases q : o' a with
    | none => rfl
    | some z => rw [h a z q] at n; cases n⟩
  refine ⟨fun a y e => ?_, l⟩
  have := w a y (h a y e)
  cases y with
  | lst ds => obtain ⟨vs, h1, h2⟩ := this; exact ⟨vs, h1, h2.mono l⟩
  | ins C fs => obtain ⟨dx, gs, h1, h2⟩ := this; exact ⟨dx, gs, h1, h2.mono l⟩
  | dct kvs => obtain ⟨gs, h1, h2⟩ := this; exact ⟨gs, h1, h2.mono l⟩
  | xd gs fs => obtain ⟨h1, h2⟩ := this; exact ⟨h1, h2.mono l⟩
  | lam u c qn => obtain ⟨h1, e2, e3⟩ := this; exact ⟨h1, (l.ex e3 e2 rfl).1, (l.ex e3 e2 rfl).2⟩
  | tbl qn => obtain ⟨ps, h1, h2, h3⟩ := this; exact ⟨ps, h1, h2, fun p cv e => let ⟨c, e1, e2, e3⟩ := h3 p cv e; ⟨c, e1, (l.ex e3 e2 rfl).1, (l.ex e3 e2 rfl).2⟩⟩
theorem updO_less {q : Addr} {y : OS} (h : o q = none) : ∀ a z, o a = some z → updO o q y a = some z := fun a z e => by
  rw [updO_ne (fun w => by rw [w, h] at e; cases e)]
  exact e
/-- the list at q, in slot i, is written no more -/
theorem wss_freeze (i : Nat) {q : Addr} {ds : List D} (hq : o q = none) (hi : δ[i]? = some (some (.ref q))) (h : WSs Γ sts (δ.set i (some (.lst ds))) o E) : WSs Γ sts δ (updO o q (.lst ds)) E := fun σ H ok => by
  obtain ⟨w, l⟩ := ok.own.less (updO_less hq)
  obtain ⟨vs, h1, h2⟩ := ok.own q _ updO_same
  have k1 : Okk X.K τ Γ.H0 Γ.o0 σ H (δ.set i (some (.lst ds))) o := by
    refine ⟨ok.le.trans l, w, by rw [List.length_set, ok.len], fun i' d e => ?_⟩
    by_cases ei : i = i'
    · subst ei
      have hi' : i < δ.length := (List.getElem?_eq_some_iff.mp hi).1
      rw [List.getElem?_set_self hi'] at e
      cases e
      obtain ⟨v, e1, r⟩ := ok.slot i _ hi
      cases r
      exact ⟨_, e1, .lst h1 hq (h2.mono l)⟩
    · rw [List.getElem?_set_ne ei] at e
      obtain ⟨v, e1, r⟩ := ok.slot i' d e
      exact ⟨v, e1, r.mono l⟩
  exact toE_cSs l (h σ H k1)
/-- a new list, owned -/
theorem we_lstO (h : WA Γ es δ o fun ds o1 => ds.length ≤ sizeLine ∧ ∀ q, o1 q = none → Φ (.ref q) (updO o1 q (.lst ds))) : WE Γ (.List es pos) δ o Φ := fun σ H ok =>
  cE_of (pe_lst pa_c) (cA_mono (h σ H ok) fun xs H1 ⟨ds, o1, w, l, r, h1, h2⟩ => ⟨by rw [r.length]; exact h1, fun p hp => by
    have hq := w.free hp
    have l2 : Le H1 o1 (upd H1 p (.lst xs)) (updO o1 p (.lst ds)) := Le.newO hp
    refine ⟨_, _, fun a y e => ?_, l.trans l2, .ref p, h2 p hq⟩
    by_cases ha : a = p
    · subst ha
      rw [updO_same] at e
      cases e
      exact ⟨xs, upd_same, r.mono l2⟩
    · rw [updO_ne ha] at e
      have := w a y e
      cases y with
      | lst ds => obtain ⟨vs, h1, h2⟩ := this; exact ⟨vs, by rw [upd_ne ha]; exact h1, h2.mono l2⟩
      | ins C fs => obtain ⟨dx, gs, h1, h2⟩ := this; exact ⟨dx, gs, by rw [upd_ne ha]; exact h1, h2.mono l2⟩
      | dct kvs => obtain ⟨gs, h1, h2⟩ := this; exact ⟨gs, by rw [upd_ne ha]; exact h1, h2.mono l2⟩
      | xd gs fs => obtain ⟨h1, h2⟩ := this; exact ⟨by rw [upd_ne ha]; exact h1, h2.mono l2⟩
      | lam u c qn => obtain ⟨h1, e2, e3⟩ := this; exact ⟨by rw [upd_ne ha]; exact h1, (l2.ex e3 e2 rfl).1, (l2.ex e3 e2 rfl).2⟩
      | tbl qn => obtain ⟨ps, h1, h2, h3⟩ := this; exact ⟨ps, by rw [upd_ne ha]; exact h1, h2, fun p cv e => let ⟨c, e1, e2, e3⟩ := h3 p cv e; ⟨c, e1, (l2.ex e3 e2 rfl).1, (l2.ex e3 e2 rfl).2⟩⟩⟩)
/-! ### built-in functions -/
theorem we_callB {id : String} {r : List V → Hp → VK → Prop} {T : List D → O → (D → O → Prop) → Prop} (hc : CallR X (.builtin id) r)
    (hs : ∀ H o vs ds Φ (Q : VK), Rs X.K τ H o vs ds → Own X.K τ H o → T ds o Φ → (∀ v H', PostE X.K τ H o Φ v H' → Q v H') → r vs H Q) (hm : X.mg x = none) (h : WA Γ (e :: es) δ o fun ds o1 => T ds o1 Φ)
    (hg : Gl X x := by rfl) (hv : bootBuiltins x = some (.builtin id) := by decide +kernel) (hn : x ≠ "__name__" := by decide) (hdb : (x == ("__debug__" : Str)) = false := by decide)
    (he : starEach (e :: es) X.env = (false, eval e X.env) :: starEach es X.env := by rfl) (hpl : (backTo pos (starEach es X.env)).any (·.1) = false := by rfl) : WE Γ (.Call (.Name x p) (e :: es) [] pos) δ o Φ := fun σ H ok =>
  cE_of (pe_callB hc hg hm hv pa_c hn hdb he hpl) (cA_mono (h σ H ok) fun vs H1 ⟨ds, o1, w, l, rs, q⟩ => hs H1 o1 vs ds Φ _ rs w q fun v H' p => p.le l)
theorem we_callTy {id : String} {r : List V → Hp → VK → Prop} {T : List D → O → (D → O → Prop) → Prop} (hc : CallR X (.type id) r)
    (hs : ∀ H o vs ds Φ (Q : VK), Rs X.K τ H o vs ds → Own X.K τ H o → T ds o Φ → (∀ v H', PostE X.K τ H o Φ v H' → Q v H') → r vs H Q) (hm : X.mg x = none) (h : WA Γ (e :: es) δ o fun ds o1 => T ds o1 Φ)
    (hg : Gl X x := by rfl) (hv : bootBuiltins x = some (.type id) := by decide +kernel) (hn : x ≠ "__name__" := by decide) (hdb : (x == ("__debug__" : Str)) = false := by decide)
    (he : starEach (e :: es) X.env = (false, eval e X.env) :: starEach es X.env := by rfl) (hpl : (backTo pos (starEach es X.env)).any (·.1) = false := by rfl) : WE Γ (.Call (.Name x p) (e :: es) [] pos) δ o Φ := fun σ H ok =>
  cE_of (pe_callTy hc hg hm hv pa_c hn hdb he hpl) (cA_mono (h σ H ok) fun vs H1 ⟨ds, o1, w, l, rs, q⟩ => hs H1 o1 vs ds Φ _ rs w q fun v H' p => p.le l)
/-- int(n), int(b) -/
def intS : List D → O → (D → O → Prop) → Prop
  | [.int i], o, Φ => Φ (.int i) o
  | [.bl b], o, Φ => Φ (.int (if b then 1 else 0)) o
  | _, _, _ => False
theorem we_int1 (hm : X.mg "int" = none) (h : WA Γ (e :: es) δ o fun ds o1 => intS ds o1 Φ) (hg : Gl X "int" := by rfl) (he : starEach (e :: es) X.env = (false, eval e X.env) :: starEach es X.env := by rfl) (hpl : (backTo pos (starEach es X.env)).any (·.1) = false := by rfl) : WE Γ (.Call (.Name "int" p) (e :: es) [] pos) δ o Φ :=
  we_callTy call_int1 (fun H o vs ds Φ Q r w t k => by
    match ds, r, t with
    | [.int i], .cons r1 .nil, t => cases r1; exact .inl ⟨i, rfl, k _ _ (.here w (.int i) t)⟩
    | [.bl b], .cons r1 .nil, t => cases r1; exact .inr ⟨b, rfl, k _ _ (.here w (.int _) t)⟩) hm h hg (he := he) (hpl := hpl)
theorem intS_i {i : Int} (h : Φ (.int i) o) : intS [.int i] o Φ := h
def lenS : List D → O → (D → O → Prop) → Prop
  | [.lst ds], o, Φ => Φ (.int ds.length) o
  | [.tup ds], o, Φ => Φ (.int ds.length) o
  | [.scr ns], o, Φ => Φ (.int ns.length) o
  | [.str z], o, Φ => z.length ≤ sizeLine ∧ Φ (.int z.length) o
  | [.ref q], o, Φ => ∃ ds, o q = some (.lst ds) ∧ Φ (.int ds.length) o
  | _, _, _ => False
theorem we_len (hm : X.mg "len" = none) (h : WA Γ (e :: es) δ o fun ds o1 => lenS ds o1 Φ) (hg : Gl X "len" := by rfl) (he : starEach (e :: es) X.env = (false, eval e X.env) :: starEach es X.env := by rfl) (hpl : (backTo pos (starEach es X.env)).any (·.1) = false := by rfl) : WE Γ (.Call (.Name "len" p) (e :: es) [] pos) δ o Φ :=
  we_callB call_len (fun H o vs ds Φ Q r w t k => by
    match ds, r, t with
    | [.lst ds], .cons r1 .nil, t => cases r1 with | lst h n rs => exact ⟨_, _, rfl, .inl ⟨_, .of h, rs.length.symm⟩, k _ _ (.here w (.int _) t)⟩
    | [.tup ds], .cons r1 .nil, t => cases r1 with | tup h rs => exact ⟨_, _, rfl, .inr ⟨_, h.to, rs.length.symm⟩, k _ _ (.here w (.int _) t)⟩
    | [.scr ns], .cons r1 .nil, t => cases r1 with | scr h => exact ⟨_, _, rfl, .inl ⟨_, h.to, (List.length_map _).symm⟩, k _ _ (.here w (.int _) t)⟩
    | [.str z], .cons r1 .nil, t => cases r1; exact ⟨_, _, rfl, ⟨t.1, rfl⟩, k _ _ (.here w (.int _) t.2)⟩
    | [.ref q], .cons r1 .nil, t =>
      cases r1
      obtain ⟨ds, e1, t⟩ := t
      obtain ⟨vs, h1, h2⟩ := w _ _ e1
      exact ⟨_, _, rfl, .inl ⟨_, .of h1, h2.length.symm⟩, k _ _ (.here w (.int _) t)⟩) hm h hg (he := he) (hpl := hpl)
def absS : List D → O → (D → O → Prop) → Prop
  | [.int i], o, Φ => Φ (.int (if i < 0 then -i else i)) o
  | _, _, _ => False
theorem we_abs (hm : X.mg "abs" = none) (h : WA Γ (e :: es) δ o fun ds o1 => absS ds o1 Φ) (hg : Gl X "abs" := by rfl) (he : starEach (e :: es) X.env = (false, eval e X.env) :: starEach es X.env := by rfl) (hpl : (backTo pos (starEach es X.env)).any (·.1) = false := by rfl) : WE Γ (.Call (.Name "abs" p) (e :: es) [] pos) δ o Φ :=
  we_callB call_abs (fun H o vs ds Φ Q r w t k => by
    match ds, r, t with
    | [.int i], .cons r1 .nil, t => cases r1; exact ⟨i, rfl, k _ _ (.here w (.int _) t)⟩) hm h hg (he := he) (hpl := hpl)
end
end DL
set_option Elab.async false
set_option linter.all false
set_option maxRecDepth 100000
set_option maxHeartbeats 2000000
/-! DL8: new instances; classmethods. -/
namespace DL
open PySem PySem.Spec PyProof.Rows L2
def begsD : Int → List (Str × Int) → List (Key × D)
  | _, [] => []
  | b, (n, l) :: r => (.inr n, .int b) :: begsD (b + l) r
/-- an owned instance that is given up becomes a datum -/
inductive Seal (τ : Tx) : Addr → List (Str × D) → D → Prop where
  | deck (c g : Int) : Seal τ τ.deck [("first", .int c), ("more", .int g)] (.deck c g)
  | tape (ss : List (Str × Int)) : Seal τ τ.tape [("listed", .ptup (ss.map songD)), ("begins", .dct (begsD 0 ss)), ("total", .int (total ss))] (.tape ss)
theorem fDeck_eq (c g : Int) : fDeck c g = [(("first" : Str), V.int c), (("more" : Str), V.int g)] := by
  unfold fDeck
  show (if ("first" : Str) = "more" then _ else _) = _
  rw [if_neg kfm] <;> rfl
theorem fTape_eq (t b : Addr) (n : Int) : fTape t b n = [(("listed" : Str), V.ref t), (("begins" : Str), V.ref b), (("total" : Str), V.int n)] := by
  have e : putF "begins" (V.ref b) (putF "listed" (V.ref t) []) = [(("listed" : Str), V.ref t), (("begins" : Str), V.ref b)] := by
    show (if ("listed" : Str) = "begins" then _ else _) = _
    rw [if_neg klb] <;> rfl
  unfold fTape
  rw [e]
  show (if ("listed" : Str) = "total" then _ else (("listed" : Str), V.ref t) :: (if ("begins" : Str) = "total" then _ else _)) = _
  rw [if_neg klt, if_neg kbt] <;> rfl
section
variable {K : PySem.W.Frag} {τ : Tx} {H : Hp} {o : O}
theorem begs_of : ∀ {b : Int} {ss : List (Str × Int)} {kvs : List (Key × V)}, Rk K τ H o kvs (begsD b ss) → kvs = begsV b ss
  | _, [], _, .nil => rfl
  | b, (n, l) :: r, _, .cons h t => by cases h; rw [begs_of t]; rfl
theorem Seal.ok {C : Addr} {fs : List (Str × D)} {d : D} {q : Addr} {o3 : O} (s : Seal τ C fs d) (w : OR K τ H o q (.ins C fs)) (l : Le H o H o3) (hq : o3 q = none) : R K τ H o3 (.ref q) d := by
  cases s with
  | deck c g =>
    obtain ⟨dx, gs, h1, h2⟩ := w
    cases h2 with
    | cons a1 h2 => cases h2 with
      | cons a2 h2 =>
        cases h2
        cases a1
        cases a2
        exact .deck (by rw [fDeck_eq]; exact h1) hq
  | tape ss =>
    obtain ⟨dx, gs, h1, h2⟩ := w
    cases h2 with
    | cons a1 h2 => cases h2 with
      | cons a2 h2 => cases h2 with
        | cons a3 h2 =>
          cases h2
          cases a1 with
          | ptup ht hpl htn rt =>
            cases a2 with
            | dct hd nd rd =>
              cases a3
              rw [begs_of rd] at hd
              exact .tape (by rw [fTape_eq]; exact h1) hq ((R.ptup ht hpl htn rt).mono l) (l.dk nd hd).1 (l.dk nd hd).2
end
section
variable {X : Cx} {τ : Tx} {k j n : Nat} {Ξ : DX → Δ → O → Prop} {Γ : Gm X τ k Ξ} {e a b c : Expr} {es : List Expr} {δ : Δ} {o : O} {pos p apos : Pos} {Φ : D → O → Prop} {S : DSp} {g : Addr} {x : Str} {st : Stmt} {sts : List Stmt} {E : DE}
/-- what is wanted of a new object's __init__, the object given up -/
def MkEnd (τ : Tx) (C : Addr) (q : Addr) (Φ : D → O → Prop) : D → O → Prop := fun d o2 => d = .non ∧ ∃ o3 fs d', o2 = updO o3 q (.ins C fs) ∧ o3 q = none ∧ Seal τ C fs d' ∧ Φ d' o3
/-- .. an exception is raised in it -/
def MkExc (Ξ : DX → Δ → O → Prop) (δ : Δ) : DX → O → Prop := fun x o2 => ∃ o3, (∀ a y, o3 a = some y → o2 a = some y) ∧ Ξ x δ o3
theorem RX.mono {K : PySem.W.Frag} {H H' : Hp} {o o' : O} {cls : Value} {dx : Option Addr} {x : DX} (l : Le H o H' o') (r : RX K τ H o cls dx x) : RX K τ H' o' cls dx x := by
  obtain ⟨e, h⟩ := r
  refine ⟨e, ?_⟩
  rcases h with h | ⟨d, gs, e1, h1, h2, h3⟩
  · exact .inl h
  · exact .inr ⟨d, gs, e1, (l.ex h2 h1 rfl).1, (l.ex h2 h1 rfl).2, h3.mono l⟩
theorem runMk [Calm X] {C fI : Addr} {Post : Addr → D → O → Prop} {pins : List (Addr × Obj)} {s : Shared} {σ : L2.St} {H : Hp} {vs : List V} {us : List Value} {ds : List D} (M : Mk X.K C fI) (F : FnX X τ j fI n S) (hj : j + 1 ≤ k) (I : Inv X pins σ H s)
    (ok : Okk X.K τ Γ.H0 Γ.o0 σ H δ o) (r : Vals vs us) (rd : Rs X.K τ H o vs ds) (hn : ds.length + 1 = n) (h : ∀ q, o q = none → S (.ref q :: ds) (updO o q (.ins C [])) (fun d o2 => d = .non ∧ Post q d o2) (MkExc Ξ δ)) {Q : VK}
    (hP : ∀ q d o2 H2, o q = none → Own X.K τ H2 o2 → Le H o H2 o2 → Post q d o2 → Q (.ref q) H2) : wpAny (model X.prog X.w) X.A (call (.ref C) us) (EP X pins σ Q) X.xe s := by
  have f1 : H (s.heap.objs.size + 1) = none := I.hok.fresh (Nat.le_succ _)
  have f2 : H s.heap.objs.size = none := I.hok.fresh (Nat.le_refl _)
  have hne : s.heap.objs.size ≠ s.heap.objs.size + 1 := Nat.ne_of_lt (Nat.lt_succ_self _)
  have hq : o (s.heap.objs.size + 1) = none := ok.own.free f1
  have I2 := Inv.made (C := C) I
  have keep : ∀ a u, H a = some u → (upd (upd H s.heap.objs.size (.own (s.heap.objs.size + 1))) (s.heap.objs.size + 1) (.ins C s.heap.objs.size [])) a = some u := fun a u e => by
    rw [upd_ne (ne_of_none e f1), upd_ne (ne_of_none e f2)]
    exact e
  have l : Le H o (upd (upd H s.heap.objs.size (.own (s.heap.objs.size + 1))) (s.heap.objs.size + 1) (.ins C s.heap.objs.size [])) (updO o (s.heap.objs.size + 1) (.ins C [])) := Le.mk fun a u n0 e => ⟨keep a u e, by rw [updO_ne (ne_of_none e f1)]; exact n0⟩
  have w : Own X.K τ (upd (upd H s.heap.objs.size (.own (s.heap.objs.size + 1))) (s.heap.objs.size + 1) (.ins C s.heap.objs.size [])) (updO o (s.heap.objs.size + 1) (.ins C [])) := fun a y e => by
    by_cases ha : a = s.heap.objs.size + 1
    · subst ha
      rw [updO_same] at e
      cases e
      exact ⟨_, [], upd_same, .nil⟩
    · rw [updO_ne ha] at e
      have := ok.own a y e
      cases y with
      | lst ds => obtain ⟨vs, h1, h2⟩ := this; exact ⟨vs, keep _ _ h1, h2.mono l⟩
      | ins C fs => obtain ⟨dx, gs, h1, h2⟩ := this; exact ⟨dx, gs, keep _ _ h1, h2.mono l⟩
      | dct kvs => obtain ⟨gs, h1, h2⟩ := this; exact ⟨gs, keep _ _ h1, h2.mono l⟩
      | xd gs fs => obtain ⟨h1, h2⟩ := this; exact ⟨keep _ _ h1, h2.mono l⟩
      | lam u c qn => obtain ⟨h1, e2, e3⟩ := this; exact ⟨keep _ _ h1, (l.ex e3 e2 rfl).1, (l.ex e3 e2 rfl).2⟩
      | tbl qn => obtain ⟨ps, h1, h2, h3⟩ := this; exact ⟨ps, keep _ _ h1, h2, fun p cv e => let ⟨c, e1, e2, e3⟩ := h3 p cv e; ⟨c, e1, (l.ex e3 e2 rfl).1, (l.ex e3 e2 rfl).2⟩⟩
  have r2 : Vals (V.ref (s.heap.objs.size + 1) :: vs) (Value.ref (s.heap.objs.size + 1) :: us) := .cons rfl r
  refine wpAny_call (make_map (f := fI) I.kIn M.makes M.init (beq_iff_eq.mp M.fn) (codeAny_mono (F.run _ X.stack _ _ (Value.ref (s.heap.objs.size + 1) :: us) (V.ref (s.heap.objs.size + 1) :: vs) (fun v H2 => v = .non ∧ Q (.ref (s.heap.objs.size + 1)) H2) (L2.WE Γ.W σ) ((Γ.room.mono hj).make C us [])
    (I2.env0.make C us []) r2 ⟨.ref (s.heap.objs.size + 1) :: ds, _, _, MkExc Ξ δ, .cons (.ref _) (rd.mono l), w, hn, h _ hq, fun v H2 ⟨d, o2, w2, l2, rv, e1, hp⟩ => ?_, fun cls dx H2 x o2 w2 l2 rx ⟨o3, hl, hx⟩ => ?_⟩) fun r s' hq' => ?_))
  · subst e1
    exact ⟨by cases rv; rfl, hP _ _ o2 H2 hq w2 (l.trans l2) hp⟩
  · obtain ⟨w3, l3⟩ := w2.less hl
    exact Γ.hW cls dx σ H2 x δ o3 (ok.step ((l.trans l2).trans l3) w3) (rx.mono l3) hx
  · cases r with
    | error e => exact L2N.passAt Γ.tk σ pins _ _ e s' I2 hq'
    | ok fl =>
      cases fl with
      | ret u =>
        obtain ⟨v, H', I3, rv, ev, q3⟩ := I2.after hq'
        subst ev
        exact ⟨rv, ⟨V.ref (s.heap.objs.size + 1), H', I3, rfl, q3⟩⟩
      | next => exact False.elim hq'
      | brk => exact False.elim hq'
      | cont => exact False.elim hq'
theorem mkEnd_ok {C q : Addr} {d : D} {o2 : O} {H H2 : Hp} (w2 : Own X.K τ H2 o2) (l2 : Le H o H2 o2) (hp : MkEnd τ C q Φ d o2) : PostE X.K τ H o Φ (.ref q) H2 := by
  obtain ⟨e1, o3, fs, d', e2, hq3, sl, hΦ⟩ := hp
  subst e2
  obtain ⟨w3, l3⟩ := w2.less (updO_less hq3)
  exact ⟨d', o3, w3, l2.trans l3, sl.ok (w2 q _ updO_same) l3 hq3, hΦ⟩
/-- C(e, ..), the object given up -/
theorem we_make [Calm X] {C fI : Addr} (M : Mk X.K C fI) (F : FnX X τ j fI n S) (hm : X.mg x = some (.ref C)) (h : WA Γ (e :: es) δ o fun ds o1 => ds.length + 1 = n ∧ ∀ q, o1 q = none → S (.ref q :: ds) (updO o1 q (.ins C [])) (MkEnd τ C q Φ) (MkExc Ξ δ)) (hj : j + 1 ≤ k := by decide)
    (hg : Gl X x := by rfl) (hdb : (x == ("__debug__" : Str)) = false := by decide) (he : starEach (e :: es) X.env = (false, eval e X.env) :: starEach es X.env := by rfl) (hpl : (backTo pos (starEach es X.env)).any (·.1) = false := by rfl) : WE Γ (.Call (.Name x p) (e :: es) [] pos) δ o Φ := by
  intro σ H ok pins s I
  refine wpAny_Call_Name_kw (ld_glob I hg hm ?_ hdb)
  refine PySem.W.callWith_K (h₀ := X.base) I.ok.mod.kin M.kp (thn (h σ H ok pos pins s I) fun us s1 ⟨vs, H1, I1, r, ds, o1, w1, l1, rd, hn, q⟩ => ⟨I1.kIn, ?_⟩) he hpl
  refine thn (runMk (Post := fun q d o2 => MkEnd τ C q Φ d o2) M F hj I1 (ok.step l1 w1) r rd hn (Q := PostE X.K τ H1 o1 Φ) ?_ ?_) fun u s2 z => EP.imp z fun v H' p => PostE.le l1 p
  · intro q0 h0
    have := q q0 h0
    have e : (fun d o2 => d = D.non ∧ MkEnd τ C q0 Φ d o2) = MkEnd τ C q0 Φ := by
      funext d o2
      exact propext ⟨fun z => z.2, fun z => ⟨z.1, z⟩⟩
    rw [e]
    exact this
  · exact fun q d o2 H2 h0 w2 l2 hp => mkEnd_ok w2 l2 hp
theorem seal_deck {C q : Addr} {cc gg : Int} {o2 o3 : O} {Φ : D → O → Prop} (hC : C = τ.deck) (e : o2 = updO o3 q (.ins C [("first", .int cc), ("more", .int gg)])) (hq : o3 q = none) (h : Φ (.deck cc gg) o3) : MkEnd τ C q Φ .non o2 := by
  subst hC
  exact ⟨rfl, o3, _, _, e, hq, .deck cc gg, h⟩
end
end DL
set_option Elab.async false
set_option linter.all false
set_option maxRecDepth 100000
set_option maxHeartbeats 2000000
/-! DL9: isinstance. -/
namespace DL
open PySem PySem.Spec PyProof.Rows L2
/-- the name of a datum's built-in type -/
def tyB : D → String
  | .non => "NoneType" | .bl _ => "bool" | .int _ => "int" | .str _ => "str" | .byt _ => "bytes" | .tup _ => "tuple" | .lst _ => "list" | .dct _ => "dict" | .scr _ => "list" | _ => ""
def isB : D → Bool
  | .non => true | .bl _ => true | .int _ => true | .str _ => true | .byt _ => true | .tup _ => true | .lst _ => true | .scr _ => true | _ => false
section
variable {X : Cx} {τ : Tx} {k j n : Nat} {Ξ : DX → Δ → O → Prop} {Γ : Gm X τ k Ξ} {e a b c : Expr} {es : List Expr} {δ : Δ} {o : O} {pos p apos : Pos} {Φ : D → O → Prop} {S : DSp} {g : Addr} {x : Str} {st : Stmt} {sts : List Stmt} {E : DE}
theorem R.tyx {K : PySem.W.Frag} {H : Hp} {v : V} {d : D} (r : R K τ H o v d) (hh : isB d = true) : TyX K H v (.type (tyB d)) := by
  cases r with
  | non => exact .base .non
  | bl b => exact .base (.bl b)
  | int i => exact .base (.int i)
  | str x => exact .base (.str x)
  | byt x => exact .byt x
  | tup h r =>
    rcases h with ⟨h | ⟨ob, h⟩, _⟩ | h
    · exact .base (.tup h)
    · exact .fTuple h
    · rcases h with h | ⟨ob, its, n, h1, h2, _⟩
      · exact (rd0 h).elim
      · exact .kTuple h1 h2
  | lst h n r => exact .base (.lst h)
  | scr h =>
    rcases h with ⟨h | ⟨ob, h⟩, _⟩ | h
    · exact .base (.lst h)
    · exact .base (.frz h)
    · rcases h with h | ⟨ob, its, n, h1, h2, _⟩
      · exact (rd0 h).elim
      · exact .kList h1 h2
  | _ => cases hh
def isiS (ds : List D) (o : O) (Φ : D → O → Prop) : Prop := ∃ d T b, ds = [d, .ty T] ∧ isB d = true ∧ kitB (tyB d) T = some b ∧ Φ (.bl b) o
theorem we_isi (hm : X.mg "isinstance" = none) (h : WA Γ (e :: es) δ o fun ds o1 => isiS ds o1 Φ) (hg : Gl X "isinstance" := by rfl) (he : starEach (e :: es) X.env = (false, eval e X.env) :: starEach es X.env := by rfl) (hpl : (backTo pos (starEach es X.env)).any (·.1) = false := by rfl) : WE Γ (.Call (.Name "isinstance" p) (e :: es) [] pos) δ o Φ :=
  we_callB call_isi (fun H o vs ds Φ Q r w t k => by
    obtain ⟨d, T, b, rfl, hn, hk, q⟩ := t
    cases r with
    | cons r1 r => cases r with
      | cons r2 r =>
        cases r
        cases r2
        exact ⟨_, _, _, _, b, rfl, .ty T, r1.tyx hn, kit_ty hk, k _ _ (.here w (.bl b) q)⟩) hm h hg (he := he) (hpl := hpl)
theorem we_bty {T : String} (hm : X.mg x = none) (h : Φ (.ty T) o) (hg : Gl X x := by rfl) (hv : bootBuiltins x = some (.type T) := by decide +kernel) (hn : x ≠ "__name__" := by decide) (hd : (x == ("__debug__" : Str)) = false := by decide) : WE Γ (.Name x pos) δ o Φ := fun σ H ok =>
  cE_of (pe_bltn (v := .ty T) hg hm hv rfl hn hd) (.here ok.own (.ty T) h)
theorem kit_ii : kitB "int" "int" = some true := by decide +kernel
theorem kit_bi : kitB "bool" "int" = some true := by decide +kernel
theorem kit_ib : kitB "int" "bool" = some false := by decide +kernel
theorem kit_bb : kitB "bool" "bool" = some true := by decide +kernel
/-- what an argument of any kind may be -/
def anyD : D → Bool
  | .non => true | .bl _ => true | .int _ => true | .str _ => true | .tup _ => true | .lst _ => true | _ => false
theorem isi_int {d : D} (hd : anyD d = true) (h1 : ∀ i, d = .int i → Φ (.bl true) o) (h2 : ∀ i, d = .bl i → Φ (.bl true) o) (h3 : (∀ i, d ≠ .int i) → (∀ i, d ≠ .bl i) → Φ (.bl false) o) : isiS [d, .ty "int"] o Φ := by
  cases d with
  | int i => exact ⟨_, _, true, rfl, rfl, kit_ii, h1 i rfl⟩
  | bl i => exact ⟨_, _, true, rfl, rfl, kit_bi, h2 i rfl⟩
  | non => exact ⟨_, _, false, rfl, rfl, (by decide +kernel), h3 (by intro i z; cases z) (by intro i z; cases z)⟩
  | str x => exact ⟨_, _, false, rfl, rfl, (show kitB "str" "int" = some false by decide +kernel), h3 (by intro i z; cases z) (by intro i z; cases z)⟩
  | tup x => exact ⟨_, _, false, rfl, rfl, (show kitB "tuple" "int" = some false by decide +kernel), h3 (by intro i z; cases z) (by intro i z; cases z)⟩
  | lst x => exact ⟨_, _, false, rfl, rfl, (show kitB "list" "int" = some false by decide +kernel), h3 (by intro i z; cases z) (by intro i z; cases z)⟩
  | _ => cases hd
end
end DL
set_option Elab.async false
set_option linter.all false
set_option maxRecDepth 100000
set_option maxHeartbeats 2000000
/-! DL10: raising. -/
namespace DL
open PySem PySem.Spec PyProof.Rows L2
/-- an exception class of the text without an __init__ of its own below ValueError's -/
structure ExcN (K : PySem.W.Frag) (mg : Str → Option Value) (x : Str) (C : Addr) : Prop where
  g : mg x = some (.ref C)
  ex : PySem.W.excIn K C [.type "ValueError", .type "Exception", .type "BaseException", .type "object"] "ValueError.__new__" = true
  kp : PySem.W.keepIn K (.ref C) = true
  sub : PySem.W.subIn K (.ref C) (.type "BaseException") = some true
  ty : PySem.W.typeIn K (.ref C) = some (.type "type")
section
variable {X : Cx} {τ : Tx} {k j n : Nat} {Ξ : DX → Δ → O → Prop} {Γ : Gm X τ k Ξ} {e a b c : Expr} {es : List Expr} {δ : Δ} {o : O} {pos p apos : Pos} {Φ : D → O → Prop} {S : DSp} {g : Addr} {x : Str} {st : Stmt} {sts : List Stmt} {E : DE}
/-- raise X('..') -/
theorem ws_raiseN {C : Addr} {m : Str} {j' : Nat} {p p2 pos pos2 : Pos} (T : ExcN X.K X.mg x C) (h : Ξ ⟨C, []⟩ δ o) (hg : Gl X x := by rfl) (hc : X.calm = true := by rfl) (hdb : (x == ("__debug__" : Str)) = false := by decide) :
    WS Γ (.Raise (some (.Call (.Name x p) [.Constant (.str m) j' p2] [] pos)) none pos2) δ o E := fun σ H ok => by
  exact cS_of (L2N.ps_raise hc Γ.tk (L2N.pmk_own PySem.F.excBase_ValueError T.ex T.g T.kp (raises_own T.sub T.ty) hg hdb)) (Γ.hW (.ref C) none σ H ⟨C, []⟩ δ o ok ⟨rfl, .inl ⟨rfl, rfl⟩⟩ h)
end
/-- an own __init__ that hands a text on to ValueError's and stores its argument at f -/
def fmtV : V → Prop
  | .str y => y.length ≤ 1000
  | .int i => i.natAbs.log2 < 1920
  | .non => True
  | _ => False
/-- {x}: a text, an int, None -/
def tFmt3 (te : TE) : TE := fun σ H Q => te σ H fun x H1 => (∃ y : Str, x = .str y ∧ y.length ≤ sizeLine ∧ Q (.str y) H1) ∨ (∃ i : Int, x = .int i ∧ i.natAbs.log2 < 1920 ∧ Q (.str (toString i)) H1) ∨ (x = .non ∧ Q (.str "None") H1)
theorem pe_fmt3 {X : Cx} {e : Expr} {te : TE} {pos : Pos} (he : PE X e te) : PE X (.FormattedValue e (-1) none pos) (tFmt3 te) := by
  refine ⟨fun pins s σ H Q I h => ?_⟩
  refine wpAny_FormattedValue_plain (thn (he.run pins s σ H _ I h) fun v s1 hv => ?_)
  obtain ⟨x, H1, I1, r1, q⟩ := hv
  rcases q with ⟨y, rfl, hz, q⟩ | ⟨i, rfl, hz, q⟩ | ⟨rfl, q⟩
  · obtain ⟨t, rfl⟩ := r1
    exact wpAny_formatField_str ⟨.str y, H1, I1, ⟨t, rfl⟩, q⟩ ⟨.str y, H1, I1.tok _, ⟨_, rfl⟩, q⟩ hz
  · obtain ⟨t, rfl⟩ := r1
    exact wpAny_formatField_int hz ⟨.str (toString i), H1, I1.tok _, ⟨_, rfl⟩, q⟩
  · obtain rfl : v = Value.none := r1
    exact wpAny_formatField_none ⟨.str "None", H1, I1.kept (t' := s1.toks + 1 + 1) fun _ _ z => z, ⟨_, rfl⟩, q⟩
def spX1 (C : Addr) (f : Str) : Sp := fun vs H Q _ => ∃ a v, vs = [.ref a, v] ∧ H a = some (exo a C none) ∧ fmtV v ∧ ∀ d, H d = none → d ≠ a → Q .non (upd (upd H d (exd d [(f, v)])) a (exo a C (some d)))
/-- an exception class with such an __init__ -/
structure ExcF (P : Program) (w : World) (K : PySem.W.Frag) (mg : Str → Option Value) (base : Heap) (x : Str) (C : Addr) (f : Str) : Prop where
  g : mg x = some (.ref C)
  T : OexC K C
  init : ∃ (fI : Addr) (fd : FuncData), PySem.W.findIn K (.ref C) "__init__" = some (some (.ref fI)) ∧ PySem.W.typeIn K (.ref fI) = some (.type "function") ∧ Binds K fd ["self", f] [] ∧ FnOk P w K mg base (L2N.CX P w) 1 fI fd ["self", f] (spX1 C f)
section
variable {X : Cx} {τ : Tx} {k j n : Nat} {Ξ : DX → Δ → O → Prop} {Γ : Gm X τ k Ξ} {e a b c : Expr} {es : List Expr} {δ : Δ} {o : O} {pos p apos : Pos} {Φ : D → O → Prop} {S : DSp} {g : Addr} {x : Str} {st : Stmt} {sts : List Stmt} {E : DE}
def fmtD : D → Prop
  | .str y => y.length ≤ 1000
  | .int i => i.natAbs.log2 < 1920
  | .non => True
  | _ => False
theorem R.fmt {K : PySem.W.Frag} {H : Hp} {v : V} {d : D} (r : R K τ H o v d) (h : fmtD d) : fmtV v := by
  cases r <;> first | exact h | exact h.elim
theorem passN {X : Cx} : Passes (L2N.CX X.prog X.w) X (fun _ _ _ => False) := fun _ _ _ _ _ _ _ ⟨_, _, _, _, _, _, _, _, _, _, _, _, f⟩ => f.elim
/-- raise X(e), X with such an __init__ -/
theorem ws_raiseF [Calm X] {C : Addr} {f : Str} {p pos pos2 : Pos} (T : ExcF X.prog X.w X.K X.mg X.base x C f) (h : WA Γ [e] δ o fun ds o1 => ∃ d, ds = [d] ∧ fmtD d ∧ Ξ ⟨C, [(f, d)]⟩ δ o1) (hj : 2 ≤ k := by decide) (hg : Gl X x := by rfl) (hc : X.calm = true := by rfl) (hdb : (x == ("__debug__" : Str)) = false := by decide)
    (he : starEach (e :: []) X.env = (false, eval e X.env) :: starEach [] X.env := by rfl) (hpl : (backTo pos (starEach [] X.env)).any (·.1) = false := by rfl) :
    WS Γ (.Raise (some (.Call (.Name x p) [e] [] pos)) none pos2) δ o E := fun σ H ok => by
  obtain ⟨fI, fd, iC, tI, hb, F1⟩ := T.init
  refine cS_of (L2N.ps_raise hc Γ.tk (pmk_oexN T.T iC tI F1 (Γ.room.mono hj) hb .nil passN hg T.g pa_c hdb he hpl)) ?_
  refine cA_mono (h σ H ok) fun vs H1 ⟨ds, o1, w1, l1, rs, d, e1, hf, hx⟩ => ?_
  subst e1
  cases rs with
  | cons r1 rs =>
    cases rs
    rename_i v _
    refine ⟨by show 1 ≤ 1000; decide, fun q hq => ?_⟩
    refine ⟨q, v, rfl, upd_same, r1.fmt hf, fun dd hd hne => ⟨rfl, dd, [(f, v)], upd_same, by rw [upd_ne hne, upd_same], ?_, ?_⟩⟩
    · rw [upd_ne hne] at hd
      exact hd
    · have hd1 : H1 dd = none := by rw [upd_ne hne] at hd; exact hd
      have l2 : Le H1 o1 (upd (del (upd (upd (upd H1 q (exo q C none)) dd (exd dd [(f, v)])) q (exo q C (some dd))) q) dd (.xd [(f, v)])) o1 := Le.mk fun a u n0 e0 => by
        have n1 : a ≠ q := ne_of_none e0 hq
        have n2 : a ≠ dd := ne_of_none e0 hd1
        refine ⟨?_, n0⟩
        rw [upd_ne n2, del_ne n1, upd_ne n1, upd_ne n2, upd_ne n1]
        exact e0
      have w2 : Own X.K τ (upd (del (upd (upd (upd H1 q (exo q C none)) dd (exd dd [(f, v)])) q (exo q C (some dd))) q) dd (.xd [(f, v)])) o1 := fun a y e0 => by
        have keep : ∀ {u : HO}, H1 a = some u → (upd (del (upd (upd (upd H1 q (exo q C none)) dd (exd dd [(f, v)])) q (exo q C (some dd))) q) dd (.xd [(f, v)])) a = some u := fun {u} z => by
          rw [upd_ne (ne_of_none z hd1), del_ne (ne_of_none z hq), upd_ne (ne_of_none z hq), upd_ne (ne_of_none z hd1), upd_ne (ne_of_none z hq)]
          exact z
        have hw := w1 a y e0
        cases y with
        | lst ds => obtain ⟨vs, h1, h2⟩ := hw; exact ⟨vs, keep h1, h2.mono l2⟩
        | ins C fs => obtain ⟨dx, gs, h1, h2⟩ := hw; exact ⟨dx, gs, keep h1, h2.mono l2⟩
        | dct kvs => obtain ⟨gs, h1, h2⟩ := hw; exact ⟨gs, keep h1, h2.mono l2⟩
        | xd gs fs => obtain ⟨h1, h2⟩ := hw; exact ⟨keep h1, h2.mono l2⟩
        | lam u c qn => obtain ⟨h1, e2, e3⟩ := hw; exact ⟨keep h1, (l2.ex e3 e2 rfl).1, (l2.ex e3 e2 rfl).2⟩
        | tbl qn => obtain ⟨ps, h1, h2, h3⟩ := hw; exact ⟨ps, keep h1, h2, fun p cv e => let ⟨c, e1, e2, e3⟩ := h3 p cv e; ⟨c, e1, (l2.ex e3 e2 rfl).1, (l2.ex e3 e2 rfl).2⟩⟩
      refine Γ.hW (.ref C) (some dd) σ _ ⟨C, [(f, d)]⟩ δ o1 ((ok.step l1 w1).step l2 w2) ⟨rfl, .inr ⟨dd, [(f, v)], rfl, upd_same, w1.free hd1, .cons (r1.mono l2) .nil⟩⟩ hx
/-! ### such an __init__ -/
/-- T.__init__(self, ..), T an own class below ValueError -/
structure BaseI (K : PySem.W.Frag) (mg : Str → Option Value) (x : Str) (B : Addr) : Prop where
  g : mg x = some (.ref B)
  r : ∃ mc, ClX.CRead K B mc ∧ PySem.W.findCls K (.ref B) mc "__init__" = some (.val (.builtin "ValueError.__init__"))
theorem pe_bainit {B : Addr} {p1 p2 : Pos} {ta : TA} {pl : Sem Bool} (T : BaseI X.K X.mg x B) (ha : PA X (e :: es) ta) (hg : Gl X x := by rfl) (hdb : (x == ("__debug__" : Str)) = false := by decide)
    (hc : eval (.Call (.Attribute (.Name x p1) "__init__" p2) (e :: es) [] pos) X.env = (do
      let ov ← eval (.Name x p1) X.env
      standAt p2.atName
      let (f, first) ← holding [ov] (getMethod ov "__init__" pl)
      callWith pos f first (backTo pos (starEach (e :: es) X.env)) (backToKw pos (keywordEach [] X.env))) := by rfl)
    (he : starEach (e :: es) X.env = (false, eval e X.env) :: starEach es X.env := by rfl) (hpl : (backTo pos (starEach es X.env)).any (·.1) = false := by rfl) :
    PE X (.Call (.Attribute (.Name x p1) "__init__" p2) (e :: es) [] pos) (tVeI X.K ta) := by
  refine ⟨fun pins s σ H Q I h => ?_⟩
  obtain ⟨mc, r, hv⟩ := T.r
  refine PySem.W.methodCall_KW (pl := pl) (ld_glob I hg T.g ?_ hdb) hc
  refine PySem.W.method_cls I.kIn r.ga (PySem.W.cls_value I.kIn r.rd hv (by decide +kernel) ?_)
  show wpAny _ _ (callWith pos (Value.builtin "ValueError.__init__") [] (backTo pos (starEach (e :: es) X.env)) []) _ _ _
  refine PyProof.Rows.callWith_method1 (thn (ha.run pos pins _ σ H _ (I.tok _) h) fun us s1 ⟨vs, H1, I1, r1, a, C, ws, ev, hl, T, ea, q⟩ => ?_) he hpl
  subst ev
  cases r1 with
  | @cons _ u0 _ ur ra rw' =>
    obtain rfl : u0 = Value.ref a := ra
    have hlen : ur.length ≤ sizeLine := by
      rw [← Paired.length rw', sizeLine_eq]
      omega
    exact oinit_ok T I1 ea hlen fun s' J => ⟨.non, H1, J, rfl, q⟩
end
end DL
set_option Elab.async false
set_option linter.all false
set_option maxRecDepth 100000
set_option maxHeartbeats 2000000
/-! DL11: defs, methods, operators of the text by name. -/
namespace DL
open PySem PySem.Spec PyProof.Rows L2
section
variable (P : Program) (w : World) (K : PySem.W.Frag) (mg : Str → Option Value) (base : Heap) (τ : Tx)
/-- a def of the module -/
structure DefD (x : Str) (j n : Nat) (S : DSp) : Prop where
  ex : ∃ f, mg x = some (.ref f) ∧ FnD P w K mg base τ j f n S
/-- a method -/
structure MetD (C : Addr) (m : Str) (j n : Nat) (S : DSp) : Prop where
  cl : Cls K C
  ex : ∃ f, Meth K C m f ∧ FnD P w K mg base τ j f n S
/-- a property -/
structure PrpD (C : Addr) (m : Str) (j : Nat) (S : DSp) : Prop where
  cl : Cls K C
  ex : ∃ p f, PropOf K C m p f ∧ FnD P w K mg base τ j f 1 S
/-- instances are called -/
structure CalD (C : Addr) (j n : Nat) (S : DSp) : Prop where
  ex : ∃ f, StX.CallO K C f ∧ FnD P w K mg base τ j f n S
structure BinD (C : Addr) (op : Operator) (j : Nat) (S : DSp) : Prop where
  ex : ∃ f, BinC K C op f ∧ FnD P w K mg base τ j f 2 S
structure InvD (C : Addr) (j : Nat) (S : DSp) : Prop where
  ex : ∃ f, PySem.W.findIn K (.ref C) "__invert__" = some (some (.ref f)) ∧ PySem.W.isFn K (.ref f) = true ∧ FnD P w K mg base τ j f 1 S
structure EqlD (C : Addr) (j : Nat) (S : DSp) : Prop where
  ex : ∃ f, EqC K C f ∧ FnD P w K mg base τ j f 2 S
structure ItmD (C : Addr) (j : Nat) (S : DSp) : Prop where
  ex : ∃ f, IxC K C f ∧ FnD P w K mg base τ j f 2 S
structure ConD (C : Addr) (j : Nat) (S : DSp) : Prop where
  ex : ∃ f, InC K C f ∧ FnD P w K mg base τ j f 2 S
/-- the class is made by an __init__ -/
structure MakD (x : Str) (C : Addr) (j n : Nat) (S : DSp) : Prop where
  g : mg x = some (.ref C)
  ex : ∃ f, Mk K C f ∧ FnD P w K mg base τ j f n S
end
section
variable {X : Cx} {τ : Tx} {k j n : Nat} {Ξ : DX → Δ → O → Prop} {Γ : Gm X τ k Ξ} {e a b c : Expr} {es : List Expr} {δ : Δ} {o : O} {pos p apos : Pos} {Φ : D → O → Prop} {S : DSp} {g : Addr} {x : Str} {st : Stmt} {sts : List Stmt} {E : DE} {C : Addr} {m : Str}
theorem wd_call [Calm X] (F : DefD X.prog X.w X.K X.mg X.base τ x j n S) (h : WA Γ (e :: es) δ o fun ds o1 => ds.length = n ∧ S ds o1 Φ fun x o2 => Ξ x δ o2) (hj : j ≤ k := by decide) (hg : Gl X x := by rfl) (hdb : (x == ("__debug__" : Str)) = false := by decide)
    (he : starEach (e :: es) X.env = (false, eval e X.env) :: starEach es X.env := by rfl) (hpl : (backTo pos (starEach es X.env)).any (·.1) = false := by rfl) : WE Γ (.Call (.Name x p) (e :: es) [] pos) δ o Φ := by
  obtain ⟨f, hm, F⟩ := F.ex
  exact we_call F hm h hj hg hdb he hpl
theorem wd_meth [Calm X] {pl : Sem Bool} (F : MetD X.prog X.w X.K X.mg X.base τ C m j n S)
    (h : WE Γ a δ o fun d o1 => ∃ ns, InsD τ o1 d C ns ∧ m ∉ ns ∧ WA Γ (e :: es) δ o1 fun ds o2 => (d :: ds).length = n ∧ S (d :: ds) o2 Φ fun x o3 => Ξ x δ o3) (hj : j ≤ k := by decide)
    (hst : starEach (e :: es) X.env = (false, eval e X.env) :: starEach es X.env := by rfl) (hpl : (backTo pos (starEach es X.env)).any (·.1) = false := by rfl)
    (ht : eval (.Call (.Attribute a m apos) (e :: es) [] pos) X.env = (do
      let ov ← eval a X.env
      standAt apos.atName
      let (f, first) ← holding [ov] (getMethod ov m pl)
      callWith pos f first (backTo pos (starEach (e :: es) X.env)) (backToKw pos (keywordEach [] X.env))) := by rfl) :
    WE Γ (.Call (.Attribute a m apos) (e :: es) [] pos) δ o Φ := by
  obtain ⟨f, hm, F'⟩ := F.ex
  exact we_meth (pl := pl) F' F.cl hm h hj hst hpl ht
theorem wd_prop [Calm X] (F : PrpD X.prog X.w X.K X.mg X.base τ C m j S) (h : WE Γ a δ o fun d1 o1 => (∃ ns, InsD τ o1 d1 C ns) ∧ S [d1] o1 Φ fun _ _ => False) (hj : j + 1 ≤ k := by decide) (hb : attributeBase a m X.env (eval a X.env) = eval a X.env := by rfl) : WE Γ (.Attribute a m pos) δ o Φ := by
  obtain ⟨p, f, hm, F'⟩ := F.ex
  exact we_prop F' F.cl hm h hj hb
theorem wd_binC [Calm X] {op : Operator} (F : BinD X.prog X.w X.K X.mg X.base τ C op j S)
    (h : WE Γ a δ o fun d1 o1 => WE Γ b δ o1 fun d2 o2 => (∃ ns, InsD τ o2 d1 C ns) ∧ (∃ ns, InsD τ o2 d2 C ns) ∧ S [d1, d2] o2 Φ fun x o3 => Ξ x δ o3) (hj : j ≤ k := by decide) : WE Γ (.BinOp a op b pos) δ o Φ := by
  obtain ⟨f, hm, F'⟩ := F.ex
  exact we_binC F' hm h hj
theorem wd_inv [Calm X] (F : InvD X.prog X.w X.K X.mg X.base τ C j S) (h : WE Γ a δ o fun d1 o1 => (∃ ns, InsD τ o1 d1 C ns) ∧ S [d1] o1 Φ fun x o3 => Ξ x δ o3) (hj : j ≤ k := by decide) : WE Γ (.UnaryOp .Invert a pos) δ o Φ := by
  obtain ⟨f, h1, h2, F'⟩ := F.ex
  exact we_invO F' h1 h2 h hj
theorem wcd_notIn [Calm X] (F : ConD X.prog X.w X.K X.mg X.base τ C j S)
    (h : WE Γ a δ o fun d1 o1 => WE Γ b δ o1 fun d2 o2 => (∃ ns, InsD τ o2 d2 C ns) ∧ S [d2, d1] o2 (fun d o3 => ∃ q, d = .bl q ∧ Φ (.bl (!q)) o3) fun x o3 => Ξ x δ o3) (hj : j ≤ k := by decide) : WC Γ .NotIn a b δ o Φ := by
  obtain ⟨f, hm', F'⟩ := F.ex
  exact wc_notInO F' hm' h hj
theorem wd_make [Calm X] (F : MakD X.prog X.w X.K X.mg X.base τ x C j n S) (h : WA Γ (e :: es) δ o fun ds o1 => ds.length + 1 = n ∧ ∀ q, o1 q = none → S (.ref q :: ds) (updO o1 q (.ins C [])) (MkEnd τ C q Φ) (MkExc Ξ δ)) (hj : j + 1 ≤ k := by decide)
    (hg : Gl X x := by rfl) (hdb : (x == ("__debug__" : Str)) = false := by decide) (he : starEach (e :: es) X.env = (false, eval e X.env) :: starEach es X.env := by rfl) (hpl : (backTo pos (starEach es X.env)).any (·.1) = false := by rfl) : WE Γ (.Call (.Name x p) (e :: es) [] pos) δ o Φ := by
  obtain ⟨f, hm', F'⟩ := F.ex
  exact we_make hm' F' F.g h hj hg hdb he hpl
/-- a field of a deck, a tape -/
theorem wd_first {c' g' : Int} {Φ : D → O → Prop} (hc : ClsX X.K τ.deck ["first", "more"]) (h : Φ (.int c') o) : ∃ C ns, InsD τ o (.deck c' g') C ns ∧ ClsX X.K C ns ∧ ("first" : Str) ∈ ns ∧ fldS "first" (.deck c' g') o Φ := ⟨_, _, .deck _ _, hc, by decide +kernel, .inl ⟨rfl, h⟩⟩
theorem wd_more {c' g' : Int} {Φ : D → O → Prop} (hc : ClsX X.K τ.deck ["first", "more"]) (h : Φ (.int g') o) : ∃ C ns, InsD τ o (.deck c' g') C ns ∧ ClsX X.K C ns ∧ ("more" : Str) ∈ ns ∧ fldS "more" (.deck c' g') o Φ := ⟨_, _, .deck _ _, hc, by decide +kernel, .inr ⟨rfl, h⟩⟩
end
end DL
set_option Elab.async false
set_option linter.all false
set_option maxRecDepth 100000
set_option maxHeartbeats 2000000
/-! DL12: isinstance of an own class; a class held by a local name. -/
namespace DL
open PySem PySem.Spec PyProof.Rows L2
/-- instances of the class at C are asked by isinstance -/
structure IsiC (K : PySem.W.Frag) (C : Addr) : Prop where
  cl : Cls K C
  ha : PySem.W.findIn K (.ref C) "__class__" = some (some (.builtin "object.__class__"))
  hn : PySem.W.specialIn K (.builtin "object.__class__") "__get__" = some (some (.builtin "getset_descriptor.__get__"))
  htk : PySem.W.takesIn K (.builtin "object.__class__") = some true
  hm : PySem.W.mroIn K C (.type "object") = some true
theorem kitOne_self {K : PySem.W.Frag} {t : Value} : PySem.W.kitOne K t t = some true := by
  unfold PySem.W.kitOne
  rw [if_pos (by simp)]
section
variable {X : Cx} {τ : Tx} {k j n : Nat} {Ξ : DX → Δ → O → Prop} {Γ : Gm X τ k Ξ} {e a b c : Expr} {es : List Expr} {δ : Δ} {o : O} {pos p apos : Pos} {Φ : D → O → Prop} {S : DSp} {g : Addr} {x : Str} {st : Stmt} {sts : List Stmt} {E : DE} {C : Addr} {m : Str}
/-- a datum whose type isinstance may ask -/
inductive TyAsk (K : PySem.W.Frag) (τ : Tx) : D → Value → Prop where
  | blt {d : D} (h : isB d = true) : TyAsk K τ d (.type (tyB d))
  | deck {c g : Int} (h : IsiC K τ.deck) : TyAsk K τ (.deck c g) (.ref τ.deck)
  | tape {ss : List (Str × Int)} (h : IsiC K τ.tape) : TyAsk K τ (.tape ss) (.ref τ.tape)
theorem TyAsk.tyx {K : PySem.W.Frag} {H : Hp} {v : V} {d : D} {t : Value} (a : TyAsk K τ d t) (r : R K τ H o v d) : TyX K H v t := by
  cases a with
  | blt h => exact r.tyx h
  | deck h => cases r with | deck hp hn => exact .base (.ins hp h.cl h.ha h.hn h.htk h.hm)
  | tape h => cases r with | tape hp hn rt hb nb => exact .base (.ins hp h.cl h.ha h.hn h.htk h.hm)
/-- isinstance(d, C), C an own class | a built-in one -/
def isiCS (K : PySem.W.Frag) (τ : Tx) (ds : List D) (o : O) (Φ : D → O → Prop) : Prop := ∃ d c t u b, ds = [d, c] ∧ ((∃ C, c = .ref C ∧ u = .ref C) ∨ ∃ n, c = .ty n ∧ u = .type n) ∧ TyAsk K τ d t ∧ PySem.W.kitOne K t u = some b ∧ Φ (.bl b) o
theorem isiC_no {K : PySem.W.Frag} {d : D} {C : Addr} (hb : isB d = true) (hk : PySem.W.kitOne K (.type (tyB d)) (.ref C) = some false) (h : Φ (.bl false) o) : isiCS K τ [d, .ref C] o Φ := ⟨d, .ref C, _, .ref C, false, rfl, .inl ⟨_, rfl, rfl⟩, .blt hb, hk, h⟩
theorem isiC_deck {K : PySem.W.Frag} {c g : Int} (T : IsiC K τ.deck) (h : Φ (.bl true) o) : isiCS K τ [.deck c g, .ref τ.deck] o Φ := ⟨_, _, _, _, true, rfl, .inl ⟨_, rfl, rfl⟩, .deck T, kitOne_self, h⟩
theorem we_isiC (hm : X.mg "isinstance" = none) (h : WA Γ (e :: es) δ o fun ds o1 => isiCS X.K τ ds o1 Φ) (hg : Gl X "isinstance" := by rfl) (he : starEach (e :: es) X.env = (false, eval e X.env) :: starEach es X.env := by rfl) (hpl : (backTo pos (starEach es X.env)).any (·.1) = false := by rfl) : WE Γ (.Call (.Name "isinstance" p) (e :: es) [] pos) δ o Φ :=
  we_callB call_isi (fun H o vs ds Φ Q r w t k => by
    obtain ⟨d, c, t, u, b, rfl, hc, ha, hk, q⟩ := t
    cases r with
    | cons r1 r => cases r with
      | cons r2 r =>
        cases r
        rcases hc with ⟨C, rfl, rfl⟩ | ⟨n, rfl, rfl⟩
        · cases r2
          exact ⟨_, _, _, _, b, rfl, .own C, ha.tyx r1, hk, k _ _ (.here w (.bl b) q)⟩
        · cases r2
          exact ⟨_, _, _, _, b, rfl, .ty n, ha.tyx r1, hk, k _ _ (.here w (.bl b) q)⟩) hm h hg (he := he) (hpl := hpl)
end
end DL
set_option Elab.async false
set_option linter.all false
set_option maxRecDepth 100000
set_option maxHeartbeats 2000000
/-! Sp1: decks: the mathematics, what each def does. -/
namespace TC
open PySem PySem.Spec PyProof.Rows L2 DL
/-! ### mathematics -/
/-- half of n * (n - 1) -/
def tri (n : Int) : Int := n * (n - 1) / 2
theorem mul_pred_even (n : Int) : n * (n - 1) % 2 = 0 := by
  rcases (show n % 2 = 0 ∨ n % 2 = 1 by omega) with h | h
  · rw [Int.mul_emod, h]; simp
  · have : (n - 1) % 2 = 0 := by omega
    rw [Int.mul_emod, this]; simp
theorem tri_two (n : Int) : 2 * tri n = n * (n - 1) := by
  have := mul_pred_even n
  unfold tri
  omega
theorem tri_succ (n : Int) : tri (n + 1) = tri n + n := by
  have h1 := tri_two (n + 1)
  have h2 := tri_two n
  have e1 : (n + 1) * (n + 1 - 1) = n * (n - 1) + 2 * n := by
    rw [show n + 1 - 1 = n by omega, Int.add_mul, Int.mul_sub, Int.one_mul, Int.mul_one]; omega
  rw [e1] at h1
  omega
theorem tri_zero : tri 0 = 0 := by decide
theorem tri_nonneg {n : Int} (h : 0 ≤ n) : 0 ≤ tri n := by
  have h2 := tri_two n
  rcases (show 0 < n ∨ n ≤ 0 by omega) with h1 | h1
  · have : 0 ≤ n * (n - 1) := Int.mul_nonneg h (by omega)
    omega
  · have : n = 0 := by omega
    subst this
    decide
/-- the cells of n turns -/
def len (c g n : Int) : Int := n * c + tri n * g
structure OkDeck (c g : Int) : Prop where
  c1 : 1 ≤ c
  c2 : c ≤ 1000000000
  g1 : 0 ≤ g
  g2 : g ≤ 1000000000
theorem len_zero (c g : Int) : len c g 0 = 0 := by unfold len; rw [tri_zero]; simp
theorem len_succ (c g n : Int) : len c g (n + 1) = len c g n + (c + n * g) := by
  unfold len
  rw [tri_succ, Int.add_mul, Int.add_mul, Int.one_mul]
  omega
theorem len_nonneg {c g n : Int} (k : OkDeck c g) (h : 0 ≤ n) : 0 ≤ len c g n := by
  unfold len
  have h1 : 0 ≤ n * c := Int.mul_nonneg h (by have := k.c1; omega)
  have h2 : 0 ≤ tri n * g := Int.mul_nonneg (tri_nonneg h) k.g1
  omega
theorem len_lt {c g n : Int} (k : OkDeck c g) (h : 0 ≤ n) : len c g n < len c g (n + 1) := by
  rw [len_succ]
  have h1 : 0 ≤ n * g := Int.mul_nonneg h k.g1
  have := k.c1
  omega
theorem len_mono {c g n m : Int} (k : OkDeck c g) (h : 0 ≤ n) (hm : n ≤ m) : len c g n ≤ len c g m := by
  obtain ⟨d, rfl⟩ : ∃ d : Nat, m = n + d := ⟨(m - n).toNat, by omega⟩
  clear hm
  induction d with
  | zero => simp
  | succ d ih =>
    have := len_lt k (n := n + (d : Int)) (by omega)
    rw [show n + ((d + 1 : Nat) : Int) = n + (d : Int) + 1 by omega]
    omega
theorem len_ge {c g n : Int} (k : OkDeck c g) (h : 0 ≤ n) : n ≤ len c g n := by
  unfold len
  have h1 : n * 1 ≤ n * c := Int.mul_le_mul_of_nonneg_left k.c1 h
  have h2 : 0 ≤ tri n * g := Int.mul_nonneg (tri_nonneg h) k.g1
  omega
/-- n turns of a deck are the whole turns in x cells -/
def IsTurns (c g x t : Int) : Prop := 0 ≤ t ∧ len c g t ≤ x ∧ x < len c g (t + 1)
theorem turns_ex {c g : Int} (k : OkDeck c g) (x : Int) (hx : 0 ≤ x) : ∃ t, IsTurns c g x t := by
  have : ∀ n : Nat, x < len c g n → ∃ t, IsTurns c g x t := by
    intro n
    induction n with
    | zero => intro h; rw [show ((0 : Nat) : Int) = 0 from rfl, len_zero] at h; omega
    | succ n ih =>
      intro h
      rcases (show x < (len c g n) ∨ (len c g n) ≤ x by omega) with e | e
      · exact ih e
      · exact ⟨n, by omega, e, by rw [show ((n : Int) + 1) = ((n + 1 : Nat) : Int) by omega]; exact h⟩
  refine this (x.toNat + 1) ?_
  have := len_ge k (n := ((x.toNat + 1 : Nat) : Int)) (by omega)
  omega
open Classical in
/-- the whole turns in x cells -/
noncomputable def turns (c g x : Int) : Int := if h : ∃ t, IsTurns c g x t then h.choose else 0
theorem turns_is {c g x : Int} (k : OkDeck c g) (hx : 0 ≤ x) : IsTurns c g x (turns c g x) := by
  unfold turns
  rw [dif_pos (turns_ex k x hx)]
  exact (turns_ex k x hx).choose_spec
theorem turns_nonneg {c g x : Int} (k : OkDeck c g) (hx : 0 ≤ x) : 0 ≤ turns c g x := (turns_is k hx).1
theorem len_le_iff {c g x n : Int} (k : OkDeck c g) (hx : 0 ≤ x) (hn : 0 ≤ n) : len c g n ≤ x ↔ n ≤ turns c g x := by
  have h := turns_is k hx
  constructor
  · intro e
    rcases (show (turns c g x) < n ∨ n ≤ (turns c g x) by omega) with q | q
    · have := len_mono k (n := turns c g x + 1) (m := n) (by have := h.1; omega) (by omega)
      have := h.2.2
      omega
    · exact q
  · intro e
    have := len_mono k hn e
    have := h.2.1
    omega
/-! bounds -/
theorem mul_bound {a b p q : Int} (ha0 : 0 ≤ a) (ha : a ≤ p) (hb0 : 0 ≤ b) (hb : b ≤ q) : 0 ≤ a * b ∧ a * b ≤ p * q :=
  ⟨Int.mul_nonneg ha0 hb0, Int.le_trans (Int.mul_le_mul_of_nonneg_right ha hb0) (Int.mul_le_mul_of_nonneg_left hb (by omega))⟩
/-! ### what the defs do -/
/-- is a value a number within bounds -/
def isIn : D → Int → Int → Bool
  | .int i, lo, hi => decide (lo ≤ i) && decide (i ≤ hi)
  | _, _, _ => false
theorem isIn_i {i lo hi : Int} (h1 : lo ≤ i) (h2 : i ≤ hi) : isIn (.int i) lo hi = true := by
  simp [isIn, h1, h2]
theorem isIn_of {d : D} {lo hi : Int} (h : isIn d lo hi = true) : ∃ i, d = .int i ∧ lo ≤ i ∧ i ≤ hi := by
  cases d <;> first | cases h | skip
  rename_i i
  simp [isIn] at h
  exact ⟨i, rfl, h.1, h.2⟩
/-- the package's exceptions, by name -/
structure Excs where
  number : Addr
  deck : Addr
  tape : Addr := 0
  song : Addr := 0
  songs : Addr := 0
  operation : Addr := 0
  open_ : Addr := 0
  reading : Addr := 0
  contra : Addr := 0
  notation_ : Addr := 0
  count : Addr := 0
  decode : Addr := 0
  base : Addr := 0
abbrev xNumber (ε : Excs) : DX := ⟨ε.number, []⟩
def S_isint : DSp := fun ds o Φ _ => ∃ d lo hi, ds = [d, .int lo, .int hi] ∧ anyD d = true ∧ Φ (.bl (isIn d lo hi)) o
def S_check (ε : Excs) : DSp := fun ds o Φ Ξ => ∃ d lo hi, ds = [d, .int lo, .int hi] ∧ anyD d = true ∧ if isIn d lo hi = true then Φ .non o else Ξ (xNumber ε) o
section
variable {o : O} {Φ : D → O → Prop} {Ξ : DX → O → Prop} {ε : Excs}
theorem use_isint {d : D} {lo hi : Int} (ha : anyD d = true) (h : Φ (.bl (isIn d lo hi)) o) : S_isint [d, .int lo, .int hi] o Φ Ξ := ⟨d, lo, hi, rfl, ha, h⟩
/-- a number of any kind: in bounds, or not -/
theorem use_checkD {d : D} {lo hi : Int} (ha : anyD d = true) (h1 : ∀ i, d = .int i → lo ≤ i → i ≤ hi → Φ .non o) (h2 : isIn d lo hi = false → Ξ (xNumber ε) o) : S_check ε [d, .int lo, .int hi] o Φ Ξ := by
  refine ⟨_, lo, hi, rfl, ha, ?_⟩
  cases e : isIn d lo hi with
  | true =>
    obtain ⟨i, rfl, a, b⟩ := isIn_of e
    rw [if_pos rfl]
    exact h1 i rfl a b
  | false =>
    rw [if_neg Bool.false_ne_true]
    exact h2 e
/-! decks -/
abbrev M18 : Int := 1000000000000000000
abbrev M9 : Int := 1000000000
def S_length_of : DSp := fun ds o Φ _ => ∃ c g n, ds = [.deck c g, .int n] ∧ OkDeck c g ∧ n.natAbs < 2 ^ 400 ∧ Φ (.int (len c g n)) o
theorem use_length_of {c g n : Int} (k : OkDeck c g) (hn : n.natAbs < 2 ^ 400) (h : Φ (.int (len c g n)) o) : S_length_of [.deck c g, .int n] o Φ Ξ := ⟨c, g, n, rfl, k, hn, h⟩
def S_turns_in : DSp := fun ds o Φ _ => ∃ c g n, ds = [.deck c g, .int n] ∧ OkDeck c g ∧ 0 ≤ n ∧ n.natAbs < 2 ^ 400 ∧ Φ (.int (turns c g n)) o
theorem use_turns_in {c g n : Int} (k : OkDeck c g) (h0 : 0 ≤ n) (hn : n.natAbs < 2 ^ 400) (h : Φ (.int (turns c g n)) o) : S_turns_in [.deck c g, .int n] o Φ Ξ := ⟨c, g, n, rfl, k, h0, hn, h⟩
/-- a method of a deck and a number from 0 to 10 ** 18 -/
def S_num (ε : Excs) (f : Int → Int → Int → D) : DSp := fun ds o Φ Ξ => ∃ c g d, ds = [.deck c g, d] ∧ OkDeck c g ∧ anyD d = true ∧ if isIn d 0 M18 = true then ∃ n, d = .int n ∧ 0 ≤ n ∧ n ≤ M18 ∧ Φ (f c g n) o else Ξ (xNumber ε) o
theorem use_num {f : Int → Int → Int → D} {c g n : Int} (k : OkDeck c g) (h0 : 0 ≤ n) (hn : n ≤ M18) (h : Φ (f c g n) o) : S_num ε f [.deck c g, .int n] o Φ Ξ := ⟨c, g, _, rfl, k, rfl, by rw [if_pos (isIn_i h0 hn)]; exact ⟨n, rfl, h0, hn, h⟩⟩
noncomputable def S_call (ε : Excs) : DSp := S_num ε fun c g n => .int (turns c g n)
def S_getitem (ε : Excs) : DSp := S_num ε fun c g n => .int (c + n * g)
def S_cells (ε : Excs) : DSp := S_num ε fun c g n => .int (len c g n)
def S_cells_at (ε : Excs) : DSp := S_num ε fun c g n => .tup [.int (len c g n), .int (len c g (n + 1) - 1)]
def S_core : DSp := fun ds o Φ _ => ∃ c g, ds = [.deck c g] ∧ Φ (.int c) o
def S_growth : DSp := fun ds o Φ _ => ∃ c g, ds = [.deck c g] ∧ Φ (.int g) o
def S_Deck_init (τ : Tx) (ε : Excs) : DSp := fun ds o Φ Ξ => ∃ q d1 d2, ds = [.ref q, d1, d2] ∧ o q = some (.ins τ.deck []) ∧ anyD d1 = true ∧ anyD d2 = true ∧
  if isIn d1 1 M9 = true then (if isIn d2 0 M9 = true then ∃ c g, d1 = .int c ∧ d2 = .int g ∧ OkDeck c g ∧ Φ .non (updO o q (.ins τ.deck [("first", .int c), ("more", .int g)])) else Ξ ⟨ε.deck, [("part", .str "growth")]⟩ o) else Ξ ⟨ε.deck, [("part", .str "core")]⟩ o
/-- Deck(c, g): what it gives, whatever the arguments -/
def deckMk (ε : Excs) (d1 d2 : D) (o : O) (Φ : D → O → Prop) (Ξ : DX → O → Prop) : Prop :=
  if isIn d1 1 M9 = true then (if isIn d2 0 M9 = true then ∃ c g, d1 = .int c ∧ d2 = .int g ∧ OkDeck c g ∧ Φ (.deck c g) o else Ξ ⟨ε.deck, [("part", .str "growth")]⟩ o) else Ξ ⟨ε.deck, [("part", .str "core")]⟩ o
theorem deckMk_ok {c g : Int} (k : OkDeck c g) (h : Φ (.deck c g) o) : deckMk ε (.int c) (.int g) o Φ Ξ := by
  unfold deckMk
  rw [if_pos (isIn_i k.c1 k.c2), if_pos (isIn_i k.g1 k.g2)]
  exact ⟨c, g, rfl, rfl, k, h⟩
theorem use_Deck_init {τ : Tx} {δ : Δ} {q : Addr} {Ξ' : DX → Δ → O → Prop} {d1 d2 : D} (hq : o q = none) (h : deckMk ε d1 d2 o Φ fun x o' => Ξ' x δ o') (a1 : anyD d1 = true := by rfl) (a2 : anyD d2 = true := by rfl) :
    S_Deck_init τ ε [.ref q, d1, d2] (updO o q (.ins τ.deck [])) (MkEnd τ τ.deck q Φ) (MkExc Ξ' δ) := by
  refine ⟨q, d1, d2, rfl, updO_same, a1, a2, ?_⟩
  unfold deckMk at h
  split at h
  · rename_i e1
    rw [if_pos e1]
    split at h
    · rename_i e2
      rw [if_pos e2]
      obtain ⟨c, g, rfl, rfl, k, h⟩ := h
      refine ⟨c, g, rfl, rfl, k, ?_⟩
      rw [updO_updO]
      exact seal_deck rfl rfl hq h
    · rename_i e2
      rw [if_neg e2]
      exact ⟨o, updO_less hq, h⟩
  · rename_i e1
    rw [if_neg e1]
    exact ⟨o, updO_less hq, h⟩
def S_later (ε : Excs) : DSp := fun ds o Φ Ξ => ∃ c g d, ds = [.int c, .int g, d] ∧ OkDeck c g ∧ anyD d = true ∧ if isIn d 0 M18 = true then ∃ n, d = .int n ∧ 0 ≤ n ∧ n ≤ M18 ∧ deckMk ε (.int (c + n * g)) (.int g) o Φ Ξ else Ξ (xNumber ε) o
def S_rshift (ε : Excs) : DSp := fun ds o Φ Ξ => ∃ c g d, ds = [.deck c g, d] ∧ OkDeck c g ∧ anyD d = true ∧ if isIn d 0 M18 = true then ∃ n, d = .int n ∧ 0 ≤ n ∧ n ≤ M18 ∧ deckMk ε (.int (c + n * g)) (.int g) o Φ Ξ else Ξ (xNumber ε) o
noncomputable def S_rrange (ε : Excs) : DSp := fun ds o Φ Ξ => ∃ c g c' g' d, ds = [.deck c g, .deck c' g', d] ∧ OkDeck c g ∧ OkDeck c' g' ∧ anyD d = true ∧
  if isIn d 0 M18 = true then ∃ n, d = .int n ∧ 0 ≤ n ∧ n ≤ M18 ∧ Φ (.tup [.int (turns c' g' (len c g n)), .int (turns c' g' (len c g (n + 1) - 1))]) o else Ξ (xNumber ε) o
def minI (i j : Int) : Int := if j < i then j else i
/-- deck == other -/
def eqDeck (c g : Int) : D → Bool
  | .deck c' g' => decide (c = c') && decide (g = g')
  | _ => false
def isDeckOr : D → Bool
  | .deck _ _ => true
  | d => anyD d
def S_deck_eq : DSp := fun ds o Φ _ => ∃ c g d, ds = [.deck c g, d] ∧ isDeckOr d = true ∧ Φ (.bl (eqDeck c g d)) o
/-- a check of a number, then what is wanted -/
theorem use_num' {d : D} {lo hi : Int} {A : Int → Prop} (ha : anyD d = true) (h : if isIn d lo hi = true then ∃ n, d = .int n ∧ lo ≤ n ∧ n ≤ hi ∧ A n else Ξ (xNumber ε) o) (k : ∀ n, d = .int n → lo ≤ n → n ≤ hi → A n → Φ .non o) : S_check ε [d, .int lo, .int hi] o Φ Ξ := by
  refine ⟨_, lo, hi, rfl, ha, ?_⟩
  split at h
  · rename_i e
    rw [if_pos e]
    obtain ⟨n, e1, h0, h1, h2⟩ := h
    exact k n e1 h0 h1 h2
  · rename_i e
    rw [if_neg e]
    exact h
theorem nab18 {n : Int} (h0 : 0 ≤ n) (h1 : n ≤ M18) : n.natAbs < 2 ^ 400 := by
  have : n ≤ 1000000000000000000 := h1
  omega
theorem nab18' {n : Int} (h0 : 0 ≤ n) (h1 : n ≤ M18) : (n + 1).natAbs < 2 ^ 400 := by
  have : n ≤ 1000000000000000000 := h1
  omega
theorem len_bound {c g n : Int} (k : OkDeck c g) (h0 : 0 ≤ n) (h1 : n ≤ 2000000000000000000) : len c g n ≤ 4000000000000000000000000000000000000000000000 := by
  unfold len
  have a1 := mul_bound h0 h1 (show 0 ≤ c by have := k.c1; omega) k.c2
  have a2 : tri n ≤ 2000000000000000000000000000000000000 := by
    have h2 := tri_two n
    rcases (show n = 0 ∨ 1 ≤ n by omega) with e | e
    · subst e; rw [tri_zero]; decide
    · have := (mul_bound h0 h1 (show 0 ≤ n - 1 by omega) (show n - 1 ≤ 2000000000000000000 by omega)).2
      omega
  have a3 := mul_bound (tri_nonneg h0) a2 k.g1 k.g2
  omega
theorem len_nab {c g n : Int} (k : OkDeck c g) (h0 : 0 ≤ n) (h1 : n ≤ M18) : (len c g n).natAbs < 2 ^ 400 := by
  have h2 : n ≤ 1000000000000000000 := h1
  have := len_bound k h0 (by omega)
  have := len_nonneg k h0
  omega
theorem len_nab' {c g n : Int} (k : OkDeck c g) (h0 : 0 ≤ n) (h1 : n ≤ M18) : (len c g (n + 1) - 1).natAbs < 2 ^ 400 := by
  have h2 : n ≤ 1000000000000000000 := h1
  have := len_bound k (n := n + 1) (by omega) (by omega)
  have := len_nonneg k (n := n + 1) (by omega)
  omega
theorem turns_div {c g x : Int} (k : OkDeck c g) (hx : 0 ≤ x) : turns c g x ≤ x / c := by
  have h := turns_is k hx
  have c1 := k.c1
  rw [Int.le_ediv_iff_mul_le (by omega)]
  have h1 := h.2.1
  unfold len at h1
  have h2 : 0 ≤ tri (turns c g x) * g := Int.mul_nonneg (tri_nonneg h.1) k.g1
  omega
theorem mul_w2 {n : Int} (h : n.natAbs < 2 ^ 400) : IntMulOk n (n - 1) := CMulW.ok (wide_mul (a := 400) (b := 401) h (by omega) (by decide) (by decide) (by decide))
/-- the int in a slot -/
def gi (δ : Δ) (i : Nat) : Int := match δ[i]? with | some (some (.int n)) => n | _ => 0
end
/-! ### what the text says -/
/-- built-in names that the text leaves alone -/
structure Blt (mg : Str → Option Value) : Prop where
  m_isinstance : mg "isinstance" = none
  m_int : mg "int" = none
  m_bool : mg "bool" = none
  m_len : mg "len" = none
  m_range : mg "range" = none
  m_min : mg "min" = none
  m_max : mg "max" = none
  m_abs : mg "abs" = none
  m_sum : mg "sum" = none
  m_list : mg "list" = none
  m_tuple : mg "tuple" = none
  m_set : mg "set" = none
  m_sorted : mg "sorted" = none
  m_dict : mg "dict" = none
  m_enumerate : mg "enumerate" = none
  m_zip : mg "zip" = none
  m_all : mg "all" = none
  m_any : mg "any" = none
  m_str : mg "str" = none
  m_bytes : mg "bytes" = none
structure TDeck (K : PySem.W.Frag) (mg : Str → Option Value) (τ : Tx) : Prop where
  cx : ClsX K τ.deck ["first", "more"]
  maxc : ∃ t, mg "MAX_CORE_decks" = some (.int 1000000000 t)
  maxn : ∃ t, mg "MAX_NUMBER" = some (.int 1000000000000000000 t)
  isi : IsiC K τ.deck
  g : mg "Deck" = some (.ref τ.deck)
  kit : ∀ t ∈ (["NoneType", "bool", "int", "str", "tuple", "list"] : List String), PySem.W.kitOne K (.type t) (.ref τ.deck) = some false
/-! ### the draws of a law -/
def rowL (ns : List Int) (i s t : Int) : List D := [.scr ns, .int i, .int s, .int t]
/-- the row of draws stands at r -/
def Rowed (r : Addr) (ns : List Int) (o : O) : Prop := ∃ i s t, 0 ≤ i ∧ o r = some (.lst (rowL ns i s t))
/-- nothing but the object at r has changed -/
def But (r : Addr) (o o' : O) : Prop := ∀ a, a ≠ r → o' a = o a
theorem But.refl {r : Addr} {o : O} : But r o o := fun _ _ => rfl
theorem But.trans {r : Addr} {o o1 o2 : O} (a : But r o o1) (b : But r o1 o2) : But r o o2 := fun x h => (b x h).trans (a x h)
theorem But.upd {r : Addr} {o : O} {x : OS} : But r o (updO o r x) := fun _ h => updO_ne h
theorem Rowed.upd {r : Addr} {ns : List Int} {o : O} {i s t : Int} (h : 0 ≤ i) : Rowed r ns (updO o r (.lst (rowL ns i s t))) := ⟨i, s, t, h, updO_same⟩
/-- a number is drawn -/
def S_taken : DSp := fun ds o Φ _ => ∃ r ns many, ds = [.ref r, .int many] ∧ Rowed r ns o ∧ 0 < many ∧ many < 18446744073709551616 ∧ ∀ n o', 0 ≤ n → n < many → Rowed r ns o' → But r o o' → Φ (.int n) o'
theorem use_taken {r : Addr} {ns : List Int} {many : Int} {o : O} {Φ : D → O → Prop} {Ξ : DX → O → Prop} (hr : Rowed r ns o) (h : ∀ n o', 0 ≤ n → n < many → Rowed r ns o' → But r o o' → Φ (.int n) o') (h0 : 0 < many := by omega) (h1 : many < 18446744073709551616 := by omega) : S_taken [.ref r, .int many] o Φ Ξ := ⟨r, ns, many, rfl, hr, h0, h1, h⟩
section
variable {X : Cx} {τ : Tx} {k : Nat} {Ξ : DX → Δ → O → Prop} {Γ : Gm X τ k Ξ} {δ : Δ} {o : O}
theorem fits {n : Nat} (h : Nat.ble n 1000 = true) : n ≤ sizeLine := Nat.le_trans (Nat.le_of_ble_eq_true h) (by decide)
/-- a method of a deck, a tape -/
theorem on_deck {c g : Int} {m : Str} {Z : Prop} (h : Z) (hm : m ∉ (["first", "more"] : List Str) := by decide +kernel) : ∃ ns, InsD τ o (.deck c g) τ.deck ns ∧ m ∉ ns ∧ Z := ⟨_, .deck _ _, hm, h⟩
theorem we_str_arg {y : Str} {j pos} {C : Addr} {f : Str} (h : Ξ ⟨C, [(f, .str y)]⟩ δ o) (hl : y.length ≤ 1000 := by decide +kernel) : WA Γ [.Constant (.str y) j pos] δ o fun ds o1 => ∃ d, ds = [d] ∧ fmtD d ∧ Ξ ⟨C, [(f, d)]⟩ δ o1 := wa_cons (we_str (wa_nil ⟨_, rfl, hl, h⟩))
theorem lenS_scr {ns : List Int} {Φ : D → O → Prop} (h : Φ (.int ns.length) o) : lenS [.scr ns] o Φ := h
end
end TC
set_option Elab.async false
set_option linter.all false
set_option maxRecDepth 100000
set_option maxHeartbeats 2000000
/-! Sp2: decks in a law: short ways. -/
set_option Elab.async false
set_option linter.all false
set_option maxRecDepth 100000
set_option maxHeartbeats 2000000
/-! Sp3: an exception's own __init__. -/
namespace TC
open PySem PySem.Spec PyProof.Rows L2 DL
theorem fmt_cases {v : V} (h : fmtV v) : (∃ y : Str, v = .str y ∧ y.length ≤ 1000) ∨ (∃ i : Int, v = .int i ∧ i.natAbs.log2 < 1920) ∨ v = .non := by
  cases v with
  | str y => exact .inl ⟨y, rfl, h⟩
  | int i => exact .inr (.inl ⟨i, rfl, h⟩)
  | non => exact .inr (.inr rfl)
  | _ => exact h.elim
theorem fmt_fits {p y : Str} (hp : p.length ≤ 100) (hy : y.length ≤ 1921) : (Str.empty ++ p ++ y).length ≤ sizeLine := by
  rw [PySem.Str.length_append, PySem.Str.length_append]
  have : (Str.empty).length = 0 := rfl
  rw [PySem.sizeLine_eq]
  omega
theorem fmt_fits0 {p : Str} (hp : p.length ≤ 100) : (Str.empty ++ p).length ≤ sizeLine := by
  rw [PySem.Str.length_append]
  have : (Str.empty).length = 0 := rfl
  rw [PySem.sizeLine_eq]
  omega
end TC
namespace TC
open PySem PySem.Spec PyProof.Rows L2 DL
theorem no2 {K : PySem.W.Frag} {C : Addr} {a b : Str} (h1 : PySem.W.findIn K (.ref C) a = some none) (h2 : PySem.W.findIn K (.ref C) b = some none) : ∀ f ∈ ([a, b] : List Str), NoAttr K C f := fun f hf => by
  rcases List.mem_cons.mp hf with rfl | hf
  · exact h1
  · cases List.mem_singleton.mp hf
    exact h2
theorem no3 {K : PySem.W.Frag} {C : Addr} {a b c : Str} (h1 : PySem.W.findIn K (.ref C) a = some none) (h2 : PySem.W.findIn K (.ref C) b = some none) (h3 : PySem.W.findIn K (.ref C) c = some none) : ∀ f ∈ ([a, b, c] : List Str), NoAttr K C f := fun f hf => by
  rcases List.mem_cons.mp hf with rfl | hf
  · exact h1
  · exact no2 h2 h3 f hf
theorem kits6 {K : PySem.W.Frag} {C : Addr} (h1 : PySem.W.kitOne K (.type "NoneType") (.ref C) = some false) (h2 : PySem.W.kitOne K (.type "bool") (.ref C) = some false) (h3 : PySem.W.kitOne K (.type "int") (.ref C) = some false) (h4 : PySem.W.kitOne K (.type "str") (.ref C) = some false) (h5 : PySem.W.kitOne K (.type "tuple") (.ref C) = some false) (h6 : PySem.W.kitOne K (.type "list") (.ref C) = some false) :
    ∀ t ∈ (["NoneType", "bool", "int", "str", "tuple", "list"] : List String), PySem.W.kitOne K (.type t) (.ref C) = some false := fun t ht => by
  simp only [List.mem_cons, List.not_mem_nil, or_false] at ht
  rcases ht with rfl | rfl | rfl | rfl | rfl | rfl <;> assumption
end TC
namespace TC
open PySem PySem.Spec PyProof.Rows L2 DL
theorem kit_own {K : PySem.W.Frag} {C : Addr} {t : String} (h1 : PySem.W.isClsIn K C = true) (h2 : PySem.W.typeIn K (.ref C) = some (.type "type")) (h3 : PySem.W.subIn K (.type t) (.ref C) = some false) : PySem.W.kitOne K (.type t) (.ref C) = some false := by
  unfold PySem.W.kitOne
  rw [if_neg (by simp)]
  unfold PySem.W.kitCls
  have h1' : (PySem.W.clsIn K C).isSome = true := h1
  show (if ((PySem.W.clsIn K C).isSome && PySem.W.typeIn K (.ref C) == some (.type "type")) = true then PySem.W.subIn K (.type t) (.ref C) else none) = some false
  rw [h1', h2, h3]
  rfl
end TC
set_option Elab.async false
set_option linter.all false
set_option maxRecDepth 100000
set_option maxHeartbeats 4000000
namespace TC
open PySem PySem.Spec PyProof.Rows L2 DL
def top (i : Nat) : Stmt := PySem.Challenge.pw_tapecounters_k08_repeated_calls.main.body.getD i (.Pass ⟨0, 0, 0, 0⟩)
section
variable {P : Program} {w : World} {K : PySem.W.Frag} {mg : Str → Option Value} {base : Heap} {τ : Tx} {ε : Excs}
abbrev s_isint : Stmt := top 11
theorem sc_isint : FnScope ["value", "low", "high"] ["value", "low", "high"] (defScope s_isint) := ⟨rfl, rfl, rfl, by decide +kernel, rfl, by decide +kernel, by decide +kernel⟩
theorem ok_isint {f : Addr} {fd : FuncData} (F : Fun K "is_integer" "is_integer" s_isint f fd) (B : Blt mg) : FnOk P w K mg base (L2N.CX P w) 1 f fd ["value", "low", "high"] (spD K τ 3 S_isint) := by
  refine fnD F sc_isint fun cdv A outer s H E Ξ Γ ds o Φ hl hS => ?_
  obtain ⟨d, lo, hi, rfl, ha, hΦ⟩ := hS
  refine wss_one (ws_ret (we_and (we_isi B.m_isinstance (wa_cons (we_var 0 rfl (wa_cons (we_bty (T := "int") B.m_int (wa_nil ?_))))))))
  refine isi_int ha (fun i e => ?_) (fun i e => ?_) (fun n1 n2 => ?_)
  · subst e
    refine ⟨_, rfl, iteT ?_⟩
    refine we_and (we_not (we_isi B.m_isinstance (wa_cons (we_var 0 rfl (wa_cons (we_bty (T := "bool") B.m_bool (wa_nil ⟨_, _, _, rfl, rfl, kit_ib, _, rfl, _, rfl, iteT ?_⟩)))))))
    refine we_one (we_lele (we_var 1 rfl (we_var 0 rfl ⟨_, _, rfl, rfl, ?_⟩)))
    refine ite2 (fun h => ?_) (fun h => ?_)
    · refine we_var 2 rfl ⟨_, rfl, ?_⟩
      show Φ _ o
      have e : isIn (.int i) lo hi = decide (i ≤ hi) := by simp [isIn, of_decide_eq_true h]
      rw [← e]
      exact hΦ
    · have e : isIn (.int i) lo hi = false := by
        have : ¬ lo ≤ i := fun z => h (decide_eq_true z)
        simp [isIn, this]
      show Φ _ o
      rw [← e]
      exact hΦ
  · subst e
    refine ⟨_, rfl, iteT ?_⟩
    exact we_and (we_not (we_isi B.m_isinstance (wa_cons (we_var 0 rfl (wa_cons (we_bty (T := "bool") B.m_bool (wa_nil ⟨_, _, _, rfl, rfl, kit_bb, _, rfl, _, rfl, iteF hΦ⟩)))))))
  · refine ⟨_, rfl, iteF ?_⟩
    have e : isIn d lo hi = false := by cases d <;> first | rfl | exact absurd rfl (n1 _)
    show Φ _ o
    rw [← e]
    exact hΦ
abbrev s_check : Stmt := top 12
theorem sc_check : FnScope ["number", "low", "high"] ["number", "low", "high"] (defScope s_check) := ⟨rfl, rfl, rfl, by decide +kernel, rfl, by decide +kernel, by decide +kernel⟩
theorem ok_check {f : Addr} {fd : FuncData} (F : Fun K "check_number" "check_number" s_check f fd) (B : Blt mg) (G1 : DefD P w K mg base τ "is_integer" 1 3 S_isint) (xN : ExcN K mg "InvalidNumber" ε.number) : FnOk P w K mg base (L2N.CX P w) 2 f fd ["number", "low", "high"] (spD K τ 3 (S_check ε)) := by
  refine fnD F sc_check fun cdv A outer s H E Ξ Γ ds o Φ hl hS => ?_
  obtain ⟨d, lo, hi, rfl, ha, hΦ⟩ := hS
  refine wss_one (ws_if (wt_not (wt_val (wd_call G1 (wa_cons (we_var 0 rfl (wa_cons (we_var 1 rfl (wa_cons (we_var 2 rfl (wa_nil ⟨rfl, use_isint ha ⟨_, rfl, ?_⟩⟩)))))))))))
  cases e : isIn d lo hi with
  | true =>
    rw [e] at hΦ
    rw [if_pos rfl] at hΦ
    exact iteF (wss_nil hΦ)
  | false =>
    rw [e, if_neg Bool.false_ne_true] at hΦ
    exact iteT (wss_one (ws_raiseN xN hΦ))
abbrev s_Deck_init : Stmt := inClass (top 13) 1
theorem sc_Deck_init : FnScope ["self", "core", "growth"] ["self", "core", "growth"] (defScope s_Deck_init) := ⟨rfl, rfl, rfl, by decide +kernel, rfl, by decide +kernel, by decide +kernel⟩
theorem ok_Deck_init {f : Addr} {fd : FuncData} (F : Fun K "__init__" "Deck.__init__" s_Deck_init f fd) (B : Blt mg) (T : TDeck K mg τ) (G1 : DefD P w K mg base τ "is_integer" 1 3 S_isint) (xD : ExcF P w K mg base "InvalidDeck" ε.deck "part") : FnOk P w K mg base (L2N.CX P w) 3 f fd ["self", "core", "growth"] (spD K τ 3 (S_Deck_init τ ε)) := by
  refine fnD F sc_Deck_init fun cdv A outer s H E Ξ Γ ds o Φ hl hS => ?_
  obtain ⟨q, d1, d2, rfl, hq, a1, a2, hΦ⟩ := hS
  obtain ⟨t, hM⟩ := T.maxc
  refine wss_cons (ws_if (wt_not (wt_val (wd_call G1 (wa_cons (we_var 1 rfl (wa_cons (we_int (wa_cons (we_globI hM (wa_nil ⟨rfl, use_isint a1 ⟨_, rfl, ?_⟩⟩)))))))))))
  cases e1 : isIn d1 1 M9 with
  | false =>
    rw [e1, if_neg Bool.false_ne_true] at hΦ
    exact iteT (wss_one (ws_raiseF xD (we_str_arg hΦ)))
  | true =>
    rw [e1, if_pos rfl] at hΦ
    refine iteF (wss_nil ?_)
    refine wss_cons (ws_if (wt_not (wt_val (wd_call G1 (wa_cons (we_var 2 rfl (wa_cons (we_int (wa_cons (we_globI hM (wa_nil ⟨rfl, use_isint a2 ⟨_, rfl, ?_⟩⟩)))))))))))
    cases e2 : isIn d2 0 M9 with
    | false =>
      rw [e2, if_neg Bool.false_ne_true] at hΦ
      exact iteT (wss_one (ws_raiseF xD (we_str_arg hΦ)))
    | true =>
      rw [e2, if_pos rfl] at hΦ
      obtain ⟨c, g, rfl, rfl, k, hΦ⟩ := hΦ
      refine iteF (wss_nil ?_)
      refine wss_cons (ws_fld (we_var 1 rfl (we_var 0 rfl ⟨_, _, _, rfl, hq, T.cx.cl, T.cx.no _ (by decide +kernel), Nat.lt_of_le_of_lt (Nat.le_of_ble_eq_true (n := _) (m := 9) rfl) (by decide), ?_⟩)))
      refine wss_one (ws_fld (we_var 2 rfl (we_var 0 rfl ⟨_, _, _, rfl, updO_same, T.cx.cl, T.cx.no _ (by decide +kernel), Nat.lt_of_le_of_lt (Nat.le_of_ble_eq_true (n := _) (m := 9) rfl) (by decide), ?_⟩)))
      show Φ .non _
      rw [updO_updO]
      exact hΦ
abbrev s_core : Stmt := inClass (top 13) 3
theorem sc_core : FnScope ["self"] ["self"] (defScope s_core) := ⟨rfl, rfl, rfl, by decide +kernel, rfl, by decide +kernel, by decide +kernel⟩
theorem ok_core {f : Addr} {fd : FuncData} (F : Fun K "core" "Deck.core" s_core f fd) (T : TDeck K mg τ) : FnOk P w K mg base (L2N.CX P w) 1 f fd ["self"] (spD K τ 1 S_core) := by
  refine fnD F sc_core fun cdv A outer s H E Ξ Γ ds o Φ hl hS => ?_
  obtain ⟨c, g, rfl, hΦ⟩ := hS
  exact wss_one (ws_ret (we_fld (we_var 0 rfl (wd_first T.cx hΦ))))
abbrev s_growth : Stmt := inClass (top 13) 4
theorem sc_growth : FnScope ["self"] ["self"] (defScope s_growth) := ⟨rfl, rfl, rfl, by decide +kernel, rfl, by decide +kernel, by decide +kernel⟩
theorem ok_growth {f : Addr} {fd : FuncData} (F : Fun K "growth" "Deck.growth" s_growth f fd) (T : TDeck K mg τ) : FnOk P w K mg base (L2N.CX P w) 1 f fd ["self"] (spD K τ 1 S_growth) := by
  refine fnD F sc_growth fun cdv A outer s H E Ξ Γ ds o Φ hl hS => ?_
  obtain ⟨c, g, rfl, hΦ⟩ := hS
  exact wss_one (ws_ret (we_fld (we_var 0 rfl (wd_more T.cx hΦ))))
abbrev s_getitem : Stmt := inClass (top 13) 6
theorem sc_getitem : FnScope ["self", "turn"] ["self", "turn"] (defScope s_getitem) := ⟨rfl, rfl, rfl, by decide +kernel, rfl, by decide +kernel, by decide +kernel⟩
theorem ok_getitem {f : Addr} {fd : FuncData} (F : Fun K "__getitem__" "Deck.__getitem__" s_getitem f fd) (B : Blt mg) (T : TDeck K mg τ) (G1 : DefD P w K mg base τ "is_integer" 1 3 S_isint) (xN : ExcN K mg "InvalidNumber" ε.number) : FnOk P w K mg base (L2N.CX P w) 2 f fd ["self", "turn"] (spD K τ 2 (S_getitem ε)) := by
  refine fnD F sc_getitem fun cdv A outer s H E Ξ Γ ds o Φ hl hS => ?_
  obtain ⟨c, g, d, rfl, k, ha, hΦ⟩ := hS
  obtain ⟨t, hM⟩ := T.maxn
  refine wss_cons (ws_if (wt_not (wt_val (wd_call G1 (wa_cons (we_var 1 rfl (wa_cons (we_int (wa_cons (we_globI hM (wa_nil ⟨rfl, use_isint ha ⟨_, rfl, ?_⟩⟩)))))))))))
  cases e : isIn d 0 M18 with
  | false =>
    rw [e, if_neg Bool.false_ne_true] at hΦ
    exact iteT (wss_one (ws_raiseN xN hΦ))
  | true =>
    rw [e, if_pos rfl] at hΦ
    obtain ⟨n, rfl, h0, h1, hΦ⟩ := hΦ
    refine iteF (wss_nil ?_)
    have h2 : n < 18446744073709551616 := by have : n ≤ 1000000000000000000 := h1; omega
    exact wss_one <| ws_ret <| we_add <| we_fld <| we_var 0 rfl <| wd_first T.cx <| we_mul <| we_var 1 rfl <| we_fld <| we_var 0 rfl <| wd_more T.cx <| mulS_i (mul_l (by omega) h2) <| addS_i hΦ
abbrev s_length_of : Stmt := inClass (top 13) 10
theorem sc_length_of : FnScope ["self", "turns"] ["self", "turns"] (defScope s_length_of) := ⟨rfl, rfl, rfl, by decide +kernel, rfl, by decide +kernel, by decide +kernel⟩
theorem ok_length_of {f : Addr} {fd : FuncData} (F : Fun K "length_of" "Deck.length_of" s_length_of f fd) (T : TDeck K mg τ) : FnOk P w K mg base (L2N.CX P w) 1 f fd ["self", "turns"] (spD K τ 2 S_length_of) := by
  refine fnD F sc_length_of fun cdv A outer s H E Ξ Γ ds o Φ hl hS => ?_
  obtain ⟨c, g, n, rfl, k, hb, hΦ⟩ := hS
  have c1 := k.c1
  have c2 := k.c2
  have g1 := k.g1
  have g2 := k.g2
  have hb2 : (n - 1).natAbs < 2 ^ 400 + 1 := by omega
  exact wss_one <| ws_ret <| we_add <| we_mul <| we_var 1 rfl <| we_fld <| we_var 0 rfl <| wd_first T.cx <| mulS_i (mul_r (by omega) (by omega)) <| we_mul <| we_fdiv <| we_mul <| we_var 1 rfl <| we_sub <| we_var 1 rfl <| we_int <| subS_i <|
    mulS_i (mul_w2 hb) <| we_int <| fdivS_i (div_s (by omega) (by omega)) <| we_fld <| we_var 0 rfl <| wd_more T.cx <| mulS_i (mul_r (by omega) (by omega)) <| addS_i hΦ
abbrev s_turns_in : Stmt := inClass (top 13) 12
theorem sc_turns_in : FnScope ["self", "cell", "low", "high", "middle"] ["self", "cell"] (defScope s_turns_in) := ⟨rfl, rfl, rfl, by decide +kernel, rfl, by decide +kernel, by decide +kernel⟩
theorem ok_turns_in {f : Addr} {fd : FuncData} (F : Fun K "turns_in" "Deck.turns_in" s_turns_in f fd) (T : TDeck K mg τ) (G : MetD P w K mg base τ τ.deck "length_of" 1 2 S_length_of) : FnOk P w K mg base (L2N.CX P w) 2 f fd ["self", "cell"] (spD K τ 2 S_turns_in) := by
  refine fnD F sc_turns_in fun cdv A outer s H E Ξ Γ ds o Φ hl hS => ?_
  obtain ⟨c, g, x, rfl, k, hx, hb, hΦ⟩ := hS
  have c1 := k.c1
  have c2 := k.c2
  have ht := turns_div k hx
  have hd : x / c ≤ x := Int.ediv_le_self c hx
  have hd0 : 0 ≤ x / c := Int.ediv_nonneg hx (by omega)
  refine wss_cons <| ws_par 2 3 <| wa_cons <| we_int <| wa_cons <| we_fdiv <| we_var 1 rfl <| we_fld <| we_var 0 rfl <| wd_first T.cx <| fdivS_i (div_s (by omega) (by omega)) <| wa_nil ⟨_, _, rfl, ?_⟩
  refine wss_cons (ws_while (fun δ' o' => o' = o ∧ ∃ lo hi m, δ' = [some (.deck c g), some (.int x), some (.int lo), some (.int hi), m] ∧ 0 ≤ lo ∧ lo ≤ turns c g x ∧ turns c g x ≤ hi ∧ hi ≤ x) (fun δ' _ => (gi δ' 3 - gi δ' 2).toNat) ⟨rfl, 0, x / c, none, rfl, by omega, turns_nonneg k hx, ht, hd⟩ ?_)
  rintro δ' o' ⟨rfl, lo, hi, m, rfl, h0, h1, h2, h3⟩
  refine wt_c <| wc_lt <| we_var 2 rfl <| we_var 3 rfl <| ltS_i ⟨_, rfl, ?_⟩
  refine ite2 (fun h => ?_) (fun h => ?_)
  · have h : lo < hi := of_decide_eq_true h
    refine wss_cons <| ws_set 4 <| we_fdiv <| we_add <| we_add <| we_var 2 rfl <| we_var 3 rfl <| addS_i <| we_int <| addS_i <| we_int <| fdivS_i (div_s (by omega) (by omega)) ?_
    have hm : lo < (lo + hi + 1) / 2 ∧ (lo + hi + 1) / 2 ≤ hi := by omega
    refine wss_cons <| ws_if <| wt_c <| wc_le <| wd_meth G <| we_var 0 rfl <| on_deck <| wa_cons <| we_var 4 rfl <| wa_nil <| .intro rfl <| use_length_of k (by omega) <| we_var 1 rfl <| ltS_i ⟨_, rfl, ?_⟩
    refine ite2 (fun h' => ?_) (fun h' => ?_)
    · have h' : len c g ((lo + hi + 1) / 2) ≤ x := of_decide_eq_true h'
      have := (len_le_iff k hx (n := (lo + hi + 1) / 2) (by omega)).mp h'
      refine wss_cons (ws_set 2 (we_var 4 rfl (wss_nil (wss_nil ⟨⟨rfl, (lo + hi + 1) / 2, hi, _, rfl, by omega, this, h2, h3⟩, ?_⟩))))
      show (hi - (lo + hi + 1) / 2).toNat < (hi - lo).toNat
      omega
    · have h' : ¬ len c g ((lo + hi + 1) / 2) ≤ x := fun z => h' (decide_eq_true z)
      have : ¬ (lo + hi + 1) / 2 ≤ turns c g x := fun z => h' ((len_le_iff k hx (by omega)).mpr z)
      refine wss_cons (ws_set 3 (we_sub (we_var 4 rfl (we_int (subS_i (wss_nil (wss_nil ⟨⟨rfl, lo, (lo + hi + 1) / 2 - 1, _, rfl, h0, h1, by omega, by omega⟩, ?_⟩)))))))
      show ((lo + hi + 1) / 2 - 1 - lo).toNat < (hi - lo).toNat
      omega
  · have h : ¬ lo < hi := fun z => h (decide_eq_true z)
    refine wss_one (ws_ret (we_var 2 rfl ?_))
    have : lo = turns c g x := by omega
    rw [this]
    exact hΦ
abbrev s_call : Stmt := inClass (top 13) 8
theorem sc_call : FnScope ["self", "cell"] ["self", "cell"] (defScope s_call) := ⟨rfl, rfl, rfl, by decide +kernel, rfl, by decide +kernel, by decide +kernel⟩
theorem ok_call {f : Addr} {fd : FuncData} (F : Fun K "__call__" "Deck.__call__" s_call f fd) (T : TDeck K mg τ) (G1 : DefD P w K mg base τ "check_number" 2 3 (S_check ε)) (G : MetD P w K mg base τ τ.deck "turns_in" 2 2 S_turns_in) : FnOk P w K mg base (L2N.CX P w) 3 f fd ["self", "cell"] (spD K τ 2 (S_call ε)) := by
  refine fnD F sc_call fun cdv A outer s H E Ξ Γ ds o Φ hl hS => ?_
  obtain ⟨c, g, d, rfl, k, ha, hΦ⟩ := hS
  obtain ⟨t, hM⟩ := T.maxn
  refine wss_cons (ws_expr (wd_call G1 (wa_cons (we_var 1 rfl (wa_cons (we_int (wa_cons (we_globI hM (wa_nil ⟨rfl, use_num' ha hΦ fun n e h0 h1 hR => ?_⟩)))))))))
  subst e
  exact wss_one <| ws_ret <| wd_meth G <| we_var 0 rfl <| on_deck <| wa_cons <| we_var 1 rfl <| wa_nil <| .intro rfl <| use_turns_in k h0 (nab18 h0 h1) hR
abbrev s_cells : Stmt := inClass (top 13) 11
theorem sc_cells : FnScope ["self", "turns"] ["self", "turns"] (defScope s_cells) := ⟨rfl, rfl, rfl, by decide +kernel, rfl, by decide +kernel, by decide +kernel⟩
theorem ok_cells {f : Addr} {fd : FuncData} (F : Fun K "cells" "Deck.cells" s_cells f fd) (T : TDeck K mg τ) (G1 : DefD P w K mg base τ "check_number" 2 3 (S_check ε)) (G : MetD P w K mg base τ τ.deck "length_of" 1 2 S_length_of) : FnOk P w K mg base (L2N.CX P w) 3 f fd ["self", "turns"] (spD K τ 2 (S_cells ε)) := by
  refine fnD F sc_cells fun cdv A outer s H E Ξ Γ ds o Φ hl hS => ?_
  obtain ⟨c, g, d, rfl, k, ha, hΦ⟩ := hS
  obtain ⟨t, hM⟩ := T.maxn
  refine wss_cons (ws_expr (wd_call G1 (wa_cons (we_var 1 rfl (wa_cons (we_int (wa_cons (we_globI hM (wa_nil ⟨rfl, use_num' ha hΦ fun n e h0 h1 hR => ?_⟩)))))))))
  subst e
  exact wss_one <| ws_ret <| wd_meth G <| we_var 0 rfl <| on_deck <| wa_cons <| we_var 1 rfl <| wa_nil <| .intro rfl <| use_length_of k (nab18 h0 h1) hR
abbrev s_cells_at : Stmt := inClass (top 13) 13
theorem sc_cells_at : FnScope ["self", "reading"] ["self", "reading"] (defScope s_cells_at) := ⟨rfl, rfl, rfl, by decide +kernel, rfl, by decide +kernel, by decide +kernel⟩
theorem ok_cells_at {f : Addr} {fd : FuncData} (F : Fun K "cells_at" "Deck.cells_at" s_cells_at f fd) (T : TDeck K mg τ) (G1 : DefD P w K mg base τ "check_number" 2 3 (S_check ε)) (G : MetD P w K mg base τ τ.deck "length_of" 1 2 S_length_of) : FnOk P w K mg base (L2N.CX P w) 3 f fd ["self", "reading"] (spD K τ 2 (S_cells_at ε)) := by
  refine fnD F sc_cells_at fun cdv A outer s H E Ξ Γ ds o Φ hl hS => ?_
  obtain ⟨c, g, d, rfl, k, ha, hΦ⟩ := hS
  obtain ⟨t, hM⟩ := T.maxn
  refine wss_cons (ws_expr (wd_call G1 (wa_cons (we_var 1 rfl (wa_cons (we_int (wa_cons (we_globI hM (wa_nil ⟨rfl, use_num' ha hΦ fun n e h0 h1 hR => ?_⟩)))))))))
  subst e
  exact wss_one <| ws_ret <| we_tup <| wa_cons <| wd_meth G <| we_var 0 rfl <| on_deck <| wa_cons <| we_var 1 rfl <| wa_nil <| .intro rfl <| use_length_of k (nab18 h0 h1) <|
    wa_cons <| we_sub <| wd_meth G <| we_var 0 rfl <| on_deck <| wa_cons <| we_add <| we_var 1 rfl <| we_int <| addS_i <| wa_nil <| .intro rfl <| use_length_of k (nab18' h0 h1) <| we_int <| subS_i <| wa_nil <| .intro (fits rfl) hR
abbrev s_later : Stmt := top 14
theorem sc_later : FnScope ["first", "more", "turns"] ["first", "more", "turns"] (defScope s_later) := ⟨rfl, rfl, rfl, by decide +kernel, rfl, by decide +kernel, by decide +kernel⟩
theorem ok_later {f : Addr} {fd : FuncData} (F : Fun K "later_deck" "later_deck" s_later f fd) (T : TDeck K mg τ) (G1 : DefD P w K mg base τ "check_number" 2 3 (S_check ε)) (G : MakD P w K mg base τ "Deck" τ.deck 3 3 (S_Deck_init τ ε)) : FnOk P w K mg base (L2N.CX P w) 5 f fd ["first", "more", "turns"] (spD K τ 3 (S_later ε)) := by
  refine fnD F sc_later fun cdv A outer s H E Ξ Γ ds o Φ hl hS => ?_
  obtain ⟨c, g, d, rfl, k, ha, hΦ⟩ := hS
  obtain ⟨t, hM⟩ := T.maxn
  refine wss_cons (ws_expr (wd_call G1 (wa_cons (we_var 2 rfl (wa_cons (we_int (wa_cons (we_globI hM (wa_nil ⟨rfl, use_num' ha hΦ fun n e h0 h1 hR => ?_⟩)))))))))
  subst e
  have c1 := k.c1
  have c2 := k.c2
  have g1 := k.g1
  have g2 := k.g2
  exact wss_one <| ws_ret <| wd_make G <| wa_cons <| we_add <| we_var 0 rfl <| we_mul <| we_var 2 rfl <| we_var 1 rfl <| mulS_i (mul_r (by omega) (by omega)) <| addS_i <| wa_cons <| we_var 1 rfl <| wa_nil <| .intro rfl fun q hq => use_Deck_init hq hR
abbrev s_rshift : Stmt := inClass (top 13) 9
theorem sc_rshift : FnScope ["self", "turns"] ["self", "turns"] (defScope s_rshift) := ⟨rfl, rfl, rfl, by decide +kernel, rfl, by decide +kernel, by decide +kernel⟩
theorem ok_rshift {f : Addr} {fd : FuncData} (F : Fun K "__rshift__" "Deck.__rshift__" s_rshift f fd) (T : TDeck K mg τ) (G : DefD P w K mg base τ "later_deck" 5 3 (S_later ε)) : FnOk P w K mg base (L2N.CX P w) 6 f fd ["self", "turns"] (spD K τ 2 (S_rshift ε)) := by
  refine fnD F sc_rshift fun cdv A outer s H E Ξ Γ ds o Φ hl hS => ?_
  obtain ⟨c, g, d, rfl, k, ha, hΦ⟩ := hS
  exact wss_one <| ws_ret <| wd_call G <| wa_cons <| we_fld <| we_var 0 rfl <| wd_first T.cx <| wa_cons <| we_fld <| we_var 0 rfl <| wd_more T.cx <| wa_cons <| we_var 1 rfl <| wa_nil <| .intro rfl ⟨c, g, d, rfl, k, ha, hΦ⟩
abbrev s_deck_eq : Stmt := inClass (top 13) 5
theorem sc_deck_eq : FnScope ["self", "other"] ["self", "other"] (defScope s_deck_eq) := ⟨rfl, rfl, rfl, by decide +kernel, rfl, by decide +kernel, by decide +kernel⟩
theorem ok_deck_eq {f : Addr} {fd : FuncData} (F : Fun K "__eq__" "Deck.__eq__" s_deck_eq f fd) (B : Blt mg) (T : TDeck K mg τ) : FnOk P w K mg base (L2N.CX P w) 1 f fd ["self", "other"] (spD K τ 2 S_deck_eq) := by
  refine fnD F sc_deck_eq fun cdv A outer s H E Ξ Γ ds o Φ hl hS => ?_
  obtain ⟨c, g, d, rfl, hd, hΦ⟩ := hS
  refine wss_one <| ws_ret <| we_and <| we_isiC B.m_isinstance <| wa_cons <| we_var 1 rfl <| wa_cons <| we_globR T.g <| wa_nil ?_
  cases d with
  | deck c' g' =>
    refine isiC_deck T.isi ⟨_, rfl, iteT ?_⟩
    refine we_and <| we_c <| wc_eq <| we_fld <| we_var 0 rfl <| wd_first T.cx <| we_fld <| we_var 1 rfl <| wd_first T.cx <| eqS_i ⟨_, rfl, ?_⟩
    by_cases h1 : c = c'
    · rw [decide_eq_true h1]
      refine iteT ?_
      refine we_one <| we_c <| wc_eq <| we_fld <| we_var 0 rfl <| wd_more T.cx <| we_fld <| we_var 1 rfl <| wd_more T.cx <| eqS_i ?_
      have e : eqDeck c g (.deck c' g') = decide (g = g') := by simp [eqDeck, h1]
      rw [e] at hΦ
      exact hΦ
    · rw [decide_eq_false h1]
      refine iteF ?_
      have e : eqDeck c g (.deck c' g') = false := by simp [eqDeck, h1]
      rw [e] at hΦ
      exact hΦ
  | non => exact isiC_no rfl (T.kit "NoneType" (by decide)) ⟨_, rfl, iteF hΦ⟩
  | bl b => exact isiC_no rfl (T.kit "bool" (by decide)) ⟨_, rfl, iteF hΦ⟩
  | int i => exact isiC_no rfl (T.kit "int" (by decide)) ⟨_, rfl, iteF hΦ⟩
  | str i => exact isiC_no rfl (T.kit "str" (by decide)) ⟨_, rfl, iteF hΦ⟩
  | tup i => exact isiC_no rfl (T.kit "tuple" (by decide)) ⟨_, rfl, iteF hΦ⟩
  | lst i => exact isiC_no rfl (T.kit "list" (by decide)) ⟨_, rfl, iteF hΦ⟩
  | _ => cases hd
abbrev s_rrange : Stmt := top 15
theorem sc_rrange : FnScope ["deck", "other", "reading", "low", "high"] ["deck", "other", "reading"] (defScope s_rrange) := ⟨rfl, rfl, rfl, by decide +kernel, rfl, by decide +kernel, by decide +kernel⟩
theorem ok_rrange {f : Addr} {fd : FuncData} (F : Fun K "reading_range" "reading_range" s_rrange f fd) (T : TDeck K mg τ) (G1 : MetD P w K mg base τ τ.deck "cells_at" 3 2 (S_cells_at ε)) (G : MetD P w K mg base τ τ.deck "turns_in" 2 2 S_turns_in) : FnOk P w K mg base (L2N.CX P w) 4 f fd ["deck", "other", "reading"] (spD K τ 3 (S_rrange ε)) := by
  refine fnD F sc_rrange fun cdv A outer s H E Ξ Γ ds o Φ hl hS => ?_
  obtain ⟨c, g, c', g', d, rfl, k, k', ha, hΦ⟩ := hS
  refine wss_cons <| ws_asg <| wd_meth G1 <| we_var 0 rfl <| on_deck <| wa_cons <| we_var 2 rfl <| wa_nil <| .intro rfl ⟨c, g, d, rfl, k, ha, ?_⟩
  cases e : isIn d 0 M18 with
  | false =>
    rw [e, if_neg Bool.false_ne_true] at hΦ
    rw [if_neg Bool.false_ne_true]
    exact hΦ
  | true =>
    rw [e, if_pos rfl] at hΦ
    rw [if_pos rfl]
    obtain ⟨n, rfl, h0, h1, hΦ⟩ := hΦ
    refine ⟨n, rfl, h0, h1, wg_tup (wgs_cons (wg_name 3 (wgs_cons (wg_name 4 (wgs_nil ?_)))))⟩
    have b1 := len_nonneg k h0
    have b2 := len_lt k h0
    have b3 := len_nab k h0 h1
    have b4 := len_nab' k h0 h1
    exact wss_one <| ws_ret <| we_tup <| wa_cons <| wd_meth G <| we_var 1 rfl <| on_deck <| wa_cons <| we_var 3 rfl <| wa_nil <| .intro rfl <| use_turns_in k' b1 b3 <|
      wa_cons <| wd_meth G <| we_var 1 rfl <| on_deck <| wa_cons <| we_var 4 rfl <| wa_nil <| .intro rfl <| use_turns_in k' (by omega) b4 <| wa_nil <| .intro (fits rfl) hΦ
abbrev s_taken : Stmt := top 37
theorem sc_taken : FnScope ["_law_row", "_law_many", "_law_found", "_law_cell"] ["_law_row", "_law_many"] (defScope s_taken) := ⟨rfl, rfl, rfl, by decide +kernel, rfl, by decide +kernel, by decide +kernel⟩
theorem ok_taken {f : Addr} {fd : FuncData} (F : Fun K "_law_taken" "_law_taken" s_taken f fd) (B : Blt mg) : FnOk P w K mg base (L2N.CX P w) 1 f fd ["_law_row", "_law_many"] (spD K τ 2 S_taken) := by
  refine fnD F sc_taken fun cdv A outer s H E Ξ Γ ds o Φ hl hS => ?_
  obtain ⟨r, ns, many, rfl, ⟨i, sd, t, hi, hr⟩, m0, m1, hΦ⟩ := hS
  have fin : ∀ (x : Int) o', Rowed r ns o' → But r o o' → Φ (.int (x % many)) o' := fun x o' h1 h2 => hΦ _ o' (Int.emod_nonneg _ (by omega)) (Int.emod_lt_of_pos _ m0) h1 h2
  refine wss_cons <| ws_if <| wt_c <| wc_gt <| we_ix <| we_var 0 rfl <| we_int ⟨_, _, hr, rfl, we_int <| ltS_i ⟨_, rfl, ?_⟩⟩
  refine ite2 (fun h => ?_) (fun h => ?_)
  · refine wss_cons <| ws_set 2 <| we_mod <| we_int1 B.m_int <| wa_cons <| we_ix <| we_var 0 rfl <| we_int ⟨_, _, hr, rfl, wa_nil <| intS_i <| we_var 1 rfl <| modS_i m0 ?_⟩
    refine wss_cons <| ws_sub <| we_fdiv <| we_ix <| we_var 0 rfl <| we_int ⟨_, _, hr, rfl, we_var 1 rfl <| fdivS_i (div_s m0 m1) <| we_var 0 rfl <| we_int ⟨_, _, _, _, rfl, rfl, hr, rfl, ?_⟩⟩
    exact wss_one <| ws_ret <| we_var 2 rfl <| fin _ _ (Rowed.upd hi) But.upd
  · refine wss_nil ?_
    refine wss_cons <| ws_sub <| we_add <| we_ix <| we_var 0 rfl <| we_int ⟨_, _, hr, rfl, we_int <| addS_i <| we_var 0 rfl <| we_int ⟨_, _, _, _, rfl, rfl, hr, rfl, ?_⟩⟩
    refine wss_cons <| ws_if <| wt_c <| wc_gt <| we_ix <| we_var 0 rfl <| we_int ⟨_, _, updO_same, rfl, we_len B.m_len <| wa_cons <| we_ix <| we_var 0 rfl <| we_int ⟨_, _, updO_same, rfl, wa_nil <| lenS_scr <| ltS_i ⟨_, rfl, ?_⟩⟩⟩
    refine ite2 (fun h1 => ?_) (fun h1 => ?_)
    · refine wss_cons <| ws_sub <| we_mod <| we_int1 B.m_int <| wa_cons <| we_add <| we_mul <| we_ix <| we_var 0 rfl <| we_int ⟨_, _, updO_same, rfl, we_int <| mulS_i (mul_r (by omega) (by omega)) <| we_int <| addS_i <| wa_nil <| intS_i <| we_int <| modS_i (by omega) <| we_var 0 rfl <| we_int ⟨_, _, _, _, rfl, rfl, updO_same, rfl, ?_⟩⟩
      rw [updO_updO]
      exact wss_one <| ws_ret <| we_mod <| we_int1 B.m_int <| wa_cons <| we_fdiv <| we_ix <| we_var 0 rfl <| we_int ⟨_, _, updO_same, rfl, we_int <| fdivS_i (div_s (by omega) (by omega)) <| wa_nil <| intS_i <| we_var 1 rfl <| modS_i m0 <| fin _ _ (Rowed.upd (by omega)) But.upd⟩
    · refine wss_nil ?_
      have hlt : ¬ (ns.length : Int) < i + 1 := fun z => h1 (decide_eq_true z)
      obtain ⟨cell, hc⟩ : ∃ cell, ns[i.toNat]? = some cell := ⟨_, List.getElem?_eq_getElem (show i.toNat < ns.length by omega)⟩
      have hat : atI ns (i + 1 - 1) = some cell := by
        rw [show i + 1 - 1 = ((i.toNat : Nat) : Int) by omega]
        exact atI_nat hc
      refine wss_cons <| ws_set 3 <| we_ix <| we_ix <| we_var 0 rfl <| we_int ⟨_, _, updO_same, rfl, we_sub <| we_ix <| we_var 0 rfl <| we_int ⟨_, _, updO_same, rfl, we_int <| subS_i ⟨cell, hat, ?_⟩⟩⟩
      refine wss_cons <| ws_sub <| we_mod <| we_int1 B.m_int <| wa_cons <| we_add <| we_add <| we_mul <| we_ix <| we_var 0 rfl <| we_int ⟨_, _, updO_same, rfl, we_int <| mulS_i (mul_r (by omega) (by omega)) <| we_var 3 rfl <| addS_i <| we_int <| addS_i <| wa_nil <| intS_i <| we_int <| modS_i (by omega) <| we_var 0 rfl <| we_int ⟨_, _, _, _, rfl, rfl, updO_same, rfl, ?_⟩⟩
      rw [updO_updO]
      refine wss_cons <| ws_if <| wt_c <| wc_ge <| we_var 3 rfl <| we_pow <| we_int <| we_int <| powS_18 <| ltS_i ⟨_, rfl, ?_⟩
      refine ite2 (fun h2 => ?_) (fun h2 => ?_)
      · refine wss_cons <| ws_sub <| we_fdiv <| we_var 3 rfl <| we_var 1 rfl <| fdivS_i (div_s m0 m1) <| we_var 0 rfl <| we_int ⟨_, _, _, _, rfl, rfl, updO_same, rfl, ?_⟩
        rw [updO_updO]
        exact wss_nil <| wss_one <| ws_ret <| we_mod <| we_int1 B.m_int <| wa_cons <| we_var 3 rfl <| wa_nil <| intS_i <| we_var 1 rfl <| modS_i m0 <| fin _ _ (Rowed.upd (by omega)) But.upd
      · exact wss_nil <| wss_one <| ws_ret <| we_mod <| we_int1 B.m_int <| wa_cons <| we_var 3 rfl <| wa_nil <| intS_i <| we_var 1 rfl <| modS_i m0 <| fin _ _ (Rowed.upd (by omega)) But.upd
abbrev s_xDeck : Stmt := inClass (top 3) 0
theorem sc_xDeck : FnScope ["self", "part"] ["self", "part"] (defScope s_xDeck) := ⟨rfl, rfl, rfl, by decide +kernel, rfl, by decide +kernel, by decide +kernel⟩
theorem ok_xDeck {f C R : Addr} {fd : FuncData} (F : Fun K "__init__" "InvalidDeck.__init__" s_xDeck f fd) (T : OexC K C) (hno : PySem.W.findIn K (.ref C) "part" = some none) (TB : BaseI K mg "TapeError" R) : FnOk P w K mg base (L2N.CX P w) 1 f fd ["self", "part"] (spX1 C "part") := by
  refine F.okXN sc_xDeck (fun vs H Q E h => ?_) (fun cdv A outer s H vs Q E hr h => ?_)
  · obtain ⟨a, v, rfl, _⟩ := h
    rfl
  · obtain ⟨a, v, rfl, ha, hf, hk⟩ := h
    refine ⟨_, pss_cons (ps_expr (pe_bainit TB (pa_cons (pv 0) (pa_cons (pe_joined (.cons pe_str (.cons (pe_fmt3 (pv 1)) .nil))) pa_nil)))) (pss_one (ps_ost (pv 0) (pv 1))), ?_⟩
    refine ⟨_, rfl, ?_⟩
    refine ⟨_, rfl, fmt_fits0 (by decide +kernel), _, rfl, ?_⟩
    rcases fmt_cases hf with ⟨y, rfl, hy⟩ | ⟨i, rfl, hi⟩ | rfl
    · exact .inl ⟨_, rfl, Nat.le_trans hy (by decide), _, rfl, fmt_fits (by decide +kernel) (Nat.le_trans hy (by decide)), a, C, _, rfl, Nat.le_of_ble_eq_true rfl, T, ha, _, rfl, _, rfl, a, C, rfl, T, hno, .inl ⟨ha, fun d hd hda => hk d hd hda⟩⟩
    · exact .inr (.inl ⟨_, rfl, hi, _, rfl, fmt_fits (by decide +kernel) (int_text_len_1921 hi), a, C, _, rfl, Nat.le_of_ble_eq_true rfl, T, ha, _, rfl, _, rfl, a, C, rfl, T, hno, .inl ⟨ha, fun d hd hda => hk d hd hda⟩⟩)
    · exact .inr (.inr ⟨rfl, _, rfl, fmt_fits (by decide +kernel) (by decide +kernel), a, C, _, rfl, Nat.le_of_ble_eq_true rfl, T, ha, _, rfl, _, rfl, a, C, rfl, T, hno, .inl ⟨ha, fun d hd hda => hk d hd hda⟩⟩)
end
end TC
set_option Elab.async false
set_option linter.all false
set_option maxRecDepth 100000
set_option maxHeartbeats 2000000
/-! DL13: list comprehensions. -/
namespace DL
open PySem PySem.Spec PyProof.Rows L2
/-- a block's own slots forgotten -/
def wipeD (δ : Δ) : List Nat → Δ
  | [] => δ
  | v :: vs => (wipeD δ vs).set v none
theorem okk_unset {K : PySem.W.Frag} {τ : Tx} {H0 H : Hp} {o0 o : O} {σ : L2.St} {δ : Δ} (k : Okk K τ H0 o0 σ H δ o) (v : Nat) : Okk K τ H0 o0 (σ.set v none) H (δ.set v none) o :=
  ⟨k.le, k.own, by rw [List.length_set, List.length_set, k.len], fun i d h => by
    by_cases e : v = i
    · subst e
      by_cases hv : v < δ.length
      · rw [List.getElem?_set_self hv] at h; cases h
      · rw [List.getElem?_eq_none (by simpa using hv)] at h; cases h
    · rw [List.getElem?_set_ne e] at h ⊢
      exact k.slot i d h⟩
theorem okk_wipe {K : PySem.W.Frag} {τ : Tx} {H0 H : Hp} {o0 o : O} {σ : L2.St} {δ : Δ} (k : Okk K τ H0 o0 σ H δ o) : ∀ vs : List Nat, Okk K τ H0 o0 (wipe σ vs) H (wipeD δ vs) o
  | [] => k
  | v :: vs => okk_unset (okk_wipe k vs) v
theorem wipe_get {σ : L2.St} (j : Nat) : ∀ vs : List Nat, (wipe σ vs)[j]? = if j ∈ vs then σ[j]?.map (fun _ => none) else σ[j]?
  | [] => by unfold wipe; rw [if_neg (by simp)]
  | v :: vs => by
    unfold wipe
    by_cases e : v = j
    · subst e
      rw [if_pos (by simp)]
      by_cases hv : v < σ.length
      · rw [List.getElem?_set_self (by rw [wipe_length]; exact hv), List.getElem?_eq_getElem hv] <;> rfl
      · rw [List.getElem?_eq_none (by rw [List.length_set, wipe_length]; omega), List.getElem?_eq_none (by omega)] <;> rfl
    · rw [List.getElem?_set_ne e, wipe_get j vs]
      by_cases hm : j ∈ vs
      · rw [if_pos hm, if_pos (List.mem_cons_of_mem _ hm)]
      · rw [if_neg hm, if_neg (by simp only [List.mem_cons, not_or]; exact ⟨fun z => e z.symm, hm⟩)]
theorem wipe_set {σ : L2.St} {vs : List Nat} {i : Nat} {v : Option V} (h : i ∈ vs) : wipe (σ.set i v) vs = wipe σ vs := by
  apply List.ext_getElem?
  intro j
  rw [wipe_get, wipe_get]
  by_cases hm : j ∈ vs
  · rw [if_pos hm, if_pos hm]
    by_cases e : i = j
    · subst e
      by_cases hi : i < σ.length
      · rw [List.getElem?_set_self hi, List.getElem?_eq_getElem hi] <;> rfl
      · rw [List.getElem?_eq_none (by rw [List.length_set]; omega), List.getElem?_eq_none (by omega)]
    · rw [List.getElem?_set_ne e]
  · rw [if_neg hm, if_neg hm, List.getElem?_set_ne (fun e : i = j => hm (by rw [← e]; exact h))]
theorem wipe_wipe {σ : L2.St} {vs : List Nat} : wipe (wipe σ vs) vs = wipe σ vs := by
  apply List.ext_getElem?
  intro j
  rw [wipe_get, wipe_get]
  by_cases hm : j ∈ vs
  · rw [if_pos hm]
    cases σ[j]? <;> simp [hm]
  · rw [if_neg hm]
section
variable {X : Cx} {τ : Tx} {k : Nat} {Ξ : DX → Δ → O → Prop}
/-- the ground within a block: nothing is raised there -/
def Gm.blk (Γ : Gm X τ k Ξ) (s : Shared) (H : Hp) (scope : Scope) (C : Addr) (cl : List (Str × Addr)) (fp : List Addr) : Gm (X.blk s H scope (compEnvC scope cl C X.env) fp) τ k (fun _ _ _ => False) where
  H0 := Γ.H0
  o0 := Γ.o0
  W := fun _ _ _ _ => False
  tk := takes0N
  po := PassesOwn.never
  hW := fun _ _ _ _ _ _ _ _ _ f => f
  rm := Γ.rm
  un := Γ.un
  nd := Γ.nd
def BE (Γ : Gm X τ k Ξ) (scope : Scope) (e : Expr) (δ : Δ) (o : O) (Φ : D → O → Prop) : Prop := ∀ s H C cl fp, WE (Γ.blk s H scope C cl fp) e δ o Φ
def BTs (Γ : Gm X τ k Ξ) (scope : Scope) : List Expr → Δ → O → (Bool → O → Prop) → Prop
  | [], _, o, Ψ => Ψ true o
  | [c], δ, o, Ψ => ∀ s H C cl fp, WT (Γ.blk s H scope C cl fp) c δ o Ψ
  | _, _, _, _ => False
def tB (X : Cx) (scope : Scope) (e : Expr) : TE := fun σ H Q => ∀ s H' C cl fp, cE (X.blk s H' scope (compEnvC scope cl C X.env) fp) e σ H Q
theorem pe_b {scope : Scope} {e : Expr} (s : Shared) (H : Hp) (C : Addr) (cl : List (Str × Addr)) (fp : List Addr) : PE (X.blk s H scope (compEnvC scope cl C X.env) fp) e (tB X scope e) := ⟨fun pins s σ H Q I h => h _ _ _ _ _ pins s I⟩
def ttB (X : Cx) (scope : Scope) : List Expr → TT
  | [] => tYes
  | [c] => fun σ H Q => ∀ s H' C cl fp, cT (X.blk s H' scope (compEnvC scope cl C X.env) fp) c σ H Q
  | _ => fun _ _ _ => False
theorem pts_b {scope : Scope} (s : Shared) (H : Hp) (C : Addr) (cl : List (Str × Addr)) (fp : List Addr) : ∀ ifs : List Expr, ifs.length ≤ 1 → PTs (X.blk s H scope (compEnvC scope cl C X.env) fp) ifs (ttB X scope ifs)
  | [], _ => pts_nil
  | [c], _ => pts_one ⟨fun pins s σ H Q I h => h _ _ _ _ _ pins s I⟩
  | _ :: _ :: _, h => absurd h (by simp)
/-- how a target is filled: one name, or two -/
def putB : List Nat → D → Δ → Option Δ
  | [i], d, δ => some (δ.set i (some d))
  | [i, j], .tup [d1, d2], δ => some ((δ.set i (some d1)).set j (some d2))
  | [i, j, l], .tup [d1, d2, d3], δ => some (((δ.set i (some d1)).set j (some d2)).set l (some d3))
  | _, _, _ => none
def gPut (K : PySem.W.Frag) : List Nat → TG
  | [i] => gName i
  | [i, j] => gTup K 2 (gCons (gName i) (gCons (gName j) gNil))
  | [i, j, l] => gTup K 3 (gCons (gName i) (gCons (gName j) (gCons (gName l) gNil)))
  | _ => fun _ _ _ _ => False
theorem R.tup2 {K : PySem.W.Frag} {τ : Tx} {H : Hp} {o : O} {x : V} {d1 d2 : D} (r : R K τ H o x (.tup [d1, d2])) : ∃ a vs, x = .ref a ∧ SqT K H a vs ∧ ∃ v1 v2, vs = [v1, v2] ∧ R K τ H o v1 d1 ∧ R K τ H o v2 d2 := by
  cases r with
  | tup ha rs =>
    cases rs with
    | cons r1 rs => cases rs with
      | cons r2 rs => cases rs; exact ⟨_, _, rfl, ha.to, _, _, rfl, r1, r2⟩
theorem R.tup3 {K : PySem.W.Frag} {τ : Tx} {H : Hp} {o : O} {x : V} {d1 d2 d3 : D} (r : R K τ H o x (.tup [d1, d2, d3])) : ∃ a vs, x = .ref a ∧ SqT K H a vs ∧ ∃ v1 v2 v3, vs = [v1, v2, v3] ∧ R K τ H o v1 d1 ∧ R K τ H o v2 d2 ∧ R K τ H o v3 d3 := by
  cases r with
  | tup ha rs =>
    cases rs with
    | cons r1 rs => cases rs with
      | cons r2 rs => cases rs with
        | cons r3 rs => cases rs; exact ⟨_, _, rfl, ha.to, _, _, _, rfl, r1, r2, r3⟩
theorem put_ok {K : PySem.W.Frag} {τ : Tx} {H0 H : Hp} {o0 o : O} {σ : L2.St} {δ δ1 : Δ} {x : V} {d : D} {is vs : List Nat} {Q : L2.St → Hp → Prop} (hs : ∀ i ∈ is, i ∈ vs) (ok : Okk K τ H0 o0 σ H δ o) (r : R K τ H o x d) (e : putB is d δ = some δ1)
    (h : ∀ σ1, Okk K τ H0 o0 σ1 H δ1 o → wipe σ1 vs = wipe σ vs → Q σ1 H) : gPut K is x σ H Q := by
  match is, d, r, e, hs with
  | [i], d, r, e, hs =>
    cases e
    exact h _ (ok.set i r) (wipe_set (hs i (by simp)))
  | [i, j], .tup [d1, d2], r, e, hs =>
    have e' : (δ.set i (some d1)).set j (some d2) = δ1 := Option.some.inj e
    subst e'
    obtain ⟨a, vs', rfl, ha, rs⟩ := r.tup2
    obtain ⟨v1, v2, rfl, r1, r2⟩ := rs
    refine ⟨a, [v1, v2], rfl, ha, rfl, v1, [v2], rfl, v2, [], rfl, rfl, ?_⟩
    exact h _ ((ok.set i r1).set j r2) (by rw [wipe_set (hs j (by simp)), wipe_set (hs i (by simp))])
  | [i, j, l], .tup [d1, d2, d3], r, e, hs =>
    have e' : ((δ.set i (some d1)).set j (some d2)).set l (some d3) = δ1 := Option.some.inj e
    subst e'
    obtain ⟨a, vs', rfl, ha, rs⟩ := r.tup3
    obtain ⟨v1, v2, v3, rfl, r1, r2, r3⟩ := rs
    refine ⟨a, [v1, v2, v3], rfl, ha, rfl, v1, [v2, v3], rfl, v2, [v3], rfl, v3, [], rfl, rfl, ?_⟩
    exact h _ (((ok.set i r1).set j r2).set l r3) (by rw [wipe_set (hs l (by simp)), wipe_set (hs j (by simp)), wipe_set (hs i (by simp))])
end
end DL
set_option Elab.async false
set_option linter.all false
set_option maxRecDepth 100000
set_option maxHeartbeats 2000000
/-! DL14: list comprehensions, the rule. -/
namespace DL
open PySem PySem.Spec PyProof.Rows L2
section
variable {X : Cx} {τ : Tx} {k : Nat} {Ξ : DX → Δ → O → Prop}
/-- the turns over the items; the new list stands at q -/
def lcD (Γ : Gm X τ k Ξ) (scope : Scope) (is : List Nat) (ifs : List Expr) (elt : Expr) (δ0 : Δ) (q : Addr) (Φ : O → Prop) : List D → O → Prop
  | [], o => Φ o
  | d :: ds, o => ∃ δ1, putB is d δ0 = some δ1 ∧ BTs Γ scope ifs δ1 o fun b o1 => if b = true then BE Γ scope elt δ1 o1 fun d' o2 => ∃ acc, o2 q = some (.lst acc) ∧ acc.length < sizeLine ∧ lcD Γ scope is ifs elt δ0 q Φ ds (updO o2 q (.lst (acc ++ [d']))) else lcD Γ scope is ifs elt δ0 q Φ ds o1
/-- the end: the list is written no more -/
def lcEnd (q : Addr) (Φ : D → O → Prop) (o : O) : Prop := (∃ oo acc, o = updO oo q (.lst acc) ∧ oo q = none ∧ Φ (.lst acc) oo) ∨ Φ (.ref q) o
def Pv (Γ : Gm X τ k Ξ) (scope : Scope) (is : List Nat) (ifs : List Expr) (elt : Expr) (δ0 : Δ) (q : Addr) (Φ : D → O → Prop) (ds : List D) (H1 : Hp) (o1 : O) (i : Nat) (H : Hp) : Prop :=
  ∃ o, Le H1 o1 H o ∧ Own X.K τ H o ∧ lcD Γ scope is ifs elt δ0 q (lcEnd q Φ) (ds.drop i) o
section
variable {Γ : Gm X τ k Ξ} {scope : Scope} {is vs : List Nat} {ifs : List Expr} {elt : Expr} {δ : Δ} {q : Addr} {Φ : D → O → Prop} {ds : List D} {H1 : Hp} {o1 : O}
theorem tts_of {σ : L2.St} {H : Hp} {δ1 : Δ} {o : O} {Ψ : Bool → O → Prop} {Q : Bool → Hp → Prop} (ok : Okk X.K τ Γ.H0 Γ.o0 σ H δ1 o) (h : BTs Γ scope ifs δ1 o Ψ) (hQ : ∀ b H', PostT X.K τ H o Ψ b H' → Q b H') : ttB X scope ifs σ H Q := by
  match ifs, h with
  | [], h => exact hQ true H ⟨o, ok.own, Le.refl, h⟩
  | [c], h => exact fun s H' C cl fp => cT_mono (h s H' C cl fp σ H ok) hQ
theorem lc_turn {σ : L2.St} {H : Hp} {i : Nat} {x : V} {d : D} (hs : ∀ i ∈ is, i ∈ vs) (ok : Okk X.K τ Γ.H0 Γ.o0 σ H1 δ o1) (e : ds[i]? = some d) (r : R X.K τ H1 o1 x d) (hp : Pv Γ scope is ifs elt (wipeD δ vs) q Φ ds H1 o1 i H) :
    gPut X.K is x (wipe σ vs) H fun σ2 H2 => wipe σ2 vs = wipe σ vs ∧ ttB X scope ifs σ2 H2 fun b H3 =>
      if b = true then tB X scope elt σ2 H3 fun y H4 => ∃ acc, H4 q = some (.lst acc) ∧ acc.length < sizeLine ∧ Pv Γ scope is ifs elt (wipeD δ vs) q Φ ds H1 o1 (i + 1) (upd H4 q (.lst (acc ++ [y]))) else Pv Γ scope is ifs elt (wipeD δ vs) q Φ ds H1 o1 (i + 1) H3 := by
  obtain ⟨o, l, w, h⟩ := hp
  rw [List.drop_eq_getElem_cons (List.getElem?_eq_some_iff.mp e).1] at h
  have hd : ds[i]'(List.getElem?_eq_some_iff.mp e).1 = d := (List.getElem?_eq_some_iff.mp e).2
  rw [hd] at h
  obtain ⟨δ1, hp, h⟩ := h
  refine put_ok hs (okk_wipe (ok.step l w) vs) (r.mono l) hp fun σ1 ok1 hw => ⟨hw.trans wipe_wipe, ?_⟩
  refine tts_of ok1 h fun b H3 ⟨o3, w3, l3, h⟩ => ?_
  have ok3 := ok1.step l3 w3
  cases b with
  | false =>
    rw [if_neg Bool.false_ne_true] at h ⊢
    exact ⟨o3, l.trans l3, w3, h⟩
  | true =>
    rw [if_pos rfl] at h ⊢
    refine fun s H' C cl fp => cE_mono (h s H' C cl fp σ1 H3 ok3) fun y H4 ⟨d', o4, w4, l4, r4, acc, hq, hlen, h⟩ => ?_
    obtain ⟨ws, hw1, hw2⟩ := w4 q _ hq
    have lw : Le H4 o4 (upd H4 q (.lst (ws ++ [y]))) (updO o4 q (.lst (acc ++ [d']))) := Le.write hq
    refine ⟨ws, hw1, by rw [hw2.length]; exact hlen, _, ((l.trans l3).trans l4).trans lw, ?_, h⟩
    refine w4.write hq ⟨_, upd_same, ?_⟩
    exact (hw2.append (.cons r4 .nil)).mono lw
theorem lc_post {H : Hp} (h : Pv Γ scope is ifs elt (wipeD δ vs) q Φ ds H1 o1 ds.length H) (hq : o1 q = none) : PostE X.K τ H1 o1 Φ (.ref q) H := by
  obtain ⟨o, l, w, h⟩ := h
  rw [List.drop_length] at h
  rcases h with ⟨oo, acc, rfl, hoq, h⟩ | h
  · obtain ⟨w2, l2⟩ := w.less (updO_less hoq)
    obtain ⟨ws, hw1, hw2⟩ := w q _ updO_same
    exact ⟨.lst acc, oo, w2, l.trans l2, .lst hw1 hoq (hw2.mono l2), h⟩
  · exact ⟨.ref q, o, w, l, .ref q, h⟩
theorem lc_first {D0 : Addr} (w : Own X.K τ H1 o1) (hD : H1 D0 = none) (h : lcD Γ scope is ifs elt (wipeD δ vs) D0 (lcEnd D0 Φ) ds (updO o1 D0 (.lst []))) : Pv Γ scope is ifs elt (wipeD δ vs) D0 Φ ds H1 o1 0 (upd H1 D0 (.lst [])) := by
  refine ⟨_, Le.newO hD, fun a y e => ?_, h⟩
  have l2 : Le H1 o1 (upd H1 D0 (.lst [])) (updO o1 D0 (.lst [])) := Le.newO hD
  by_cases ha : a = D0
  · subst ha
    rw [updO_same] at e
    cases e
    exact ⟨[], upd_same, .nil⟩
  · rw [updO_ne ha] at e
    have := w a y e
    cases y with
    | lst ds => obtain ⟨vs, h1, h2⟩ := this; exact ⟨vs, by rw [upd_ne ha]; exact h1, h2.mono l2⟩
    | ins C fs => obtain ⟨dx, gs, h1, h2⟩ := this; exact ⟨dx, gs, by rw [upd_ne ha]; exact h1, h2.mono l2⟩
    | dct kvs => obtain ⟨gs, h1, h2⟩ := this; exact ⟨gs, by rw [upd_ne ha]; exact h1, h2.mono l2⟩
    | xd gs fs => obtain ⟨h1, h2⟩ := this; exact ⟨by rw [upd_ne ha]; exact h1, h2.mono l2⟩
    | lam u c qn => obtain ⟨h1, e2, e3⟩ := this; exact ⟨by rw [upd_ne ha]; exact h1, (l2.ex e3 e2 rfl).1, (l2.ex e3 e2 rfl).2⟩
    | tbl qn => obtain ⟨ps, h1, h2, h3⟩ := this; exact ⟨ps, by rw [upd_ne ha]; exact h1, h2, fun p cv e => let ⟨c, e1, e2, e3⟩ := h3 p cv e; ⟨c, e1, (l2.ex e3 e2 rfl).1, (l2.ex e3 e2 rfl).2⟩⟩
/-- the reading, over a list -/
theorem lc_readL {σ : L2.St} {a D0 : Addr} {xs : List V} {Q : VK} (hs : ∀ i ∈ is, i ∈ vs) (ok : Okk X.K τ Γ.H0 Γ.o0 σ H1 δ o1) (ha : SqLm X.K H1 o1 a xs ∨ (H1 a = some (.lst xs) ∧ o1 a = none)) (rs : Rs X.K τ H1 o1 xs ds) (hD : H1 D0 = none)
    (h : lcD Γ scope is ifs elt (wipeD δ vs) D0 (lcEnd D0 Φ) ds (updO o1 D0 (.lst []))) (hQ : ∀ v H', PostE X.K τ H1 o1 Φ v H' → Q v H') :
    ∃ W : Nat → Nat → Hp → Prop, (∃ m, W 0 m (upd H1 D0 (.lst []))) ∧ ∀ i m H, W i m H →
      ((Itl X.K a).stop i H ∧ Q (.ref D0) H) ∨ ((Itl X.K a).go i H ∧ ∃ Nx : Hp → Prop, (∀ H', Nx H' → ∃ m', m' < m ∧ W (i + 1) m' H') ∧ ∀ x H', (Itl X.K a).yld i H x H' → gPut X.K is x (wipe σ vs) H' fun σ2 H2 => wipe σ2 vs = wipe σ vs ∧ ttB X scope ifs σ2 H2 fun b H3 =>
        if b = true then tB X scope elt σ2 H3 fun y H4 => ∃ acc, H4 D0 = some (.lst acc) ∧ acc.length < sizeLine ∧ Nx (upd H4 D0 (.lst (acc ++ [y]))) else Nx H3) := by
  refine lc_list (K := X.K) (a := a) (xs := xs) (Pv Γ scope is ifs elt (wipeD δ vs) D0 Φ ds H1 o1) (lc_first ok.own hD h) (fun i H _ ⟨o, l, _, _⟩ => ?_) (fun i x H ex hp => ?_) (fun H hp => ?_)
  · rcases ha with ha | ⟨h1, h2⟩
    · exact (ha.mono l).to
    · exact .of (l.ex h2 h1 rfl).1
  · obtain ⟨d, ed, rd⟩ := rs.of_get ex
    exact lc_turn hs ok ed rd hp
  · rw [rs.length] at hp
    exact hQ _ _ (lc_post hp (ok.own.free hD))
theorem lc_readT {σ : L2.St} {a D0 : Addr} {xs : List V} {Q : VK} (hs : ∀ i ∈ is, i ∈ vs) (ok : Okk X.K τ Γ.H0 Γ.o0 σ H1 δ o1) (ha : SqTm X.K H1 o1 a xs) (rs : Rs X.K τ H1 o1 xs ds) (hD : H1 D0 = none)
    (h : lcD Γ scope is ifs elt (wipeD δ vs) D0 (lcEnd D0 Φ) ds (updO o1 D0 (.lst []))) (hQ : ∀ v H', PostE X.K τ H1 o1 Φ v H' → Q v H') :
    ∃ W : Nat → Nat → Hp → Prop, (∃ m, W 0 m (upd H1 D0 (.lst []))) ∧ ∀ i m H, W i m H →
      ((Itt X.K a).stop i H ∧ Q (.ref D0) H) ∨ ((Itt X.K a).go i H ∧ ∃ Nx : Hp → Prop, (∀ H', Nx H' → ∃ m', m' < m ∧ W (i + 1) m' H') ∧ ∀ x H', (Itt X.K a).yld i H x H' → gPut X.K is x (wipe σ vs) H' fun σ2 H2 => wipe σ2 vs = wipe σ vs ∧ ttB X scope ifs σ2 H2 fun b H3 =>
        if b = true then tB X scope elt σ2 H3 fun y H4 => ∃ acc, H4 D0 = some (.lst acc) ∧ acc.length < sizeLine ∧ Nx (upd H4 D0 (.lst (acc ++ [y]))) else Nx H3) := by
  refine lc_tup (K := X.K) (a := a) (xs := xs) (Pv Γ scope is ifs elt (wipeD δ vs) D0 Φ ds H1 o1) (lc_first ok.own hD h) (fun i H _ ⟨o, l, _, _⟩ => (ha.mono l).to) (fun i x H ex hp => ?_) (fun H hp => ?_)
  · obtain ⟨d, ed, rd⟩ := rs.of_get ex
    exact lc_turn hs ok ed rd hp
  · rw [rs.length] at hp
    exact hQ _ _ (lc_post hp (ok.own.free hD))
theorem lc_readR {σ : L2.St} {lo : Int} {n : Nat} {D0 : Addr} {Q : VK} (hs : ∀ i ∈ is, i ∈ vs) (ok : Okk X.K τ Γ.H0 Γ.o0 σ H1 δ o1) (hD : H1 D0 = none)
    (h : lcD Γ scope is ifs elt (wipeD δ vs) D0 (lcEnd D0 Φ) (rangeD lo n) (updO o1 D0 (.lst []))) (hQ : ∀ v H', PostE X.K τ H1 o1 Φ v H' → Q v H') :
    ∃ W : Nat → Nat → Hp → Prop, (∃ m, W 0 m (upd H1 D0 (.lst []))) ∧ ∀ i m H, W i m H →
      ((Itr lo n).stop i H ∧ Q (.ref D0) H) ∨ ((Itr lo n).go i H ∧ ∃ Nx : Hp → Prop, (∀ H', Nx H' → ∃ m', m' < m ∧ W (i + 1) m' H') ∧ ∀ x H', (Itr lo n).yld i H x H' → gPut X.K is x (wipe σ vs) H' fun σ2 H2 => wipe σ2 vs = wipe σ vs ∧ ttB X scope ifs σ2 H2 fun b H3 =>
        if b = true then tB X scope elt σ2 H3 fun y H4 => ∃ acc, H4 D0 = some (.lst acc) ∧ acc.length < sizeLine ∧ Nx (upd H4 D0 (.lst (acc ++ [y]))) else Nx H3) := by
  refine lc_range (lo := lo) (n := n) (Pv Γ scope is ifs elt (wipeD δ vs) D0 Φ (rangeD lo n) H1 o1) (lc_first ok.own hD h) (fun i H hi hp => ?_) (fun H hp => ?_)
  · exact lc_turn hs ok (rangeD_get hi) (.int _) hp
  · exact hQ _ _ (lc_post (by rw [rangeD_length]; exact hp) (ok.own.free hD))
end
end
end DL
set_option Elab.async false
set_option linter.all false
set_option maxRecDepth 100000
set_option maxHeartbeats 2000000
/-! DL15 (printed by gen15.py): list comprehensions by source and target: we_lc.. as a value, ws_lc.. stored under a name. -/
namespace DL
open PySem PySem.Spec PyProof.Rows L2
section
variable {X : Cx} {τ : Tx} {k : Nat} {Ξ : DX → Δ → O → Prop} {Γ : Gm X τ k Ξ} {scope : Scope} {ifs : List Expr} {elt iter a b : Expr} {δ : Δ} {o : O} {Φ : D → O → Prop} {pos spos py : Pos} {E : DE} {y : Str}
theorem loc_blk {x : Str} {cl : List (Str × Addr)} {C : Addr} (h : scope.names.lookup x = some .local) : Loc (compEnvC scope cl C X.env).scope x ∧ (compEnvC scope cl C X.env).scope.names.lookup x = some .local := by
  have z : (compEnvC scope cl C X.env).scope.names.lookup x = some .local := by
    exact PySem.lookup_relabel_local h
  exact ⟨.inl z, z⟩
theorem lc_set {σ : L2.St} {H H1 H' : Hp} {o1 : O} {v : V} (ok : Okk X.K τ Γ.H0 Γ.o0 σ H δ o) (l : Le H o H1 o1) (n : Nat) (p : PostE X.K τ H1 o1 (fun d o2 => E.nx (δ.set n (some d)) o2) v H') : (toE X.K τ Γ.H0 Γ.o0 H o E).nx (σ.set n (some v)) H' := by
  obtain ⟨d, o2, w, l2, r, q⟩ := p
  exact ⟨_, o2, (ok.step (l.trans l2) w).set n r, l.trans l2, q⟩
theorem we_lcL1 (i : Nat) {x : Str} {tp : Pos} (ok0 : BlkOk X.N X.env.scope scope [(x, i)]) (h : WE Γ iter δ o fun d o1 => ∃ ds, d = .lst ds ∧ ∀ q, o1 q = none → lcD Γ scope [i] ifs elt (wipeD δ [i]) q (lcEnd q Φ) ds (updO o1 q (.lst []))) (hi : X.N[i]? = some x := by rfl) (hx : scope.names.lookup x = some .local := by rfl) (hif : ifs.length ≤ 1 := by decide) (hc : X.calm = true := by rfl) (hs : ∀ x, foldedSetIterable iter X.env x = pure x := by intro _; rfl) : WE Γ (.ListComp elt [⟨.Name x tp, iter, ifs, 0⟩] scope pos) δ o Φ := fun σ H ok => by
  refine cE_of (pe_lc (own := [(x, i)]) (g := gPut X.K [i]) (tt := ttB X scope ifs) (te := tB X scope elt) hc Γ.nd (pi_list pe_c) ok0 (fun _ _ _ _ _ => pg_name (X := X.blk _ _ _ _ _) Γ.nd hi (loc_blk hx).1 (.inr (loc_blk hx).2)) (fun _ _ _ _ _ => pts_b _ _ _ _ _ ifs hif) (fun _ _ _ _ _ => pe_b _ _ _ _ _) hs) ?_
  refine cE_mono (h σ H ok) fun v H1 ⟨d, o1, w, l, r, ds, e1, q⟩ => ?_
  subst e1
  cases r with
  | @lst a vs _ ha na rs =>
    exact ⟨a, rfl, ⟨vs, .of ha⟩, fun D0 hD => lc_readL (Φ := Φ) (fun i h => h) (ok.step l w) (.inr ⟨ha, na⟩) rs hD (q D0 (w.free hD)) fun v H' p => p.le l⟩
theorem ws_lcL1 (n : Nat) (i : Nat) {x : Str} {tp : Pos} (ok0 : BlkOk X.N X.env.scope scope [(x, i)]) (h : WE Γ iter δ o fun d o1 => ∃ ds, d = .lst ds ∧ ∀ q, o1 q = none → lcD Γ scope [i] ifs elt (wipeD δ [i]) q (lcEnd q fun d o2 => E.nx (δ.set n (some d)) o2) ds (updO o1 q (.lst []))) (hi : X.N[i]? = some x := by rfl) (hx : scope.names.lookup x = some .local := by rfl) (hif : ifs.length ≤ 1 := by decide) (hc : X.calm = true := by rfl) (hs : ∀ x, foldedSetIterable iter X.env x = pure x := by intro _; rfl) (hy : X.N[n]? = some y := by rfl) (hyl : X.env.scope.names.lookup y = some .local := by rfl) (hsw : swapsWith (.ListComp elt [⟨.Name x tp, iter, ifs, 0⟩] scope pos) (some (.Name y py)) spos.line X.env = pure true := by exact sw_true rfl rfl rfl (by decide +kernel)) :
    WS Γ (.Assign [.Name y py] (.ListComp elt [⟨.Name x tp, iter, ifs, 0⟩] scope pos) spos) δ o E := fun σ H ok => by
  refine cS_of (ps_setLc (i := n) (own := [(x, i)]) (g := gPut X.K [i]) (tt := ttB X scope ifs) (te := tB X scope elt) hc Γ.nd hy hyl hsw (pi_list pe_c) ok0 (fun _ _ _ _ _ => pg_name (X := X.blk _ _ _ _ _) Γ.nd hi (loc_blk hx).1 (.inr (loc_blk hx).2)) (fun _ _ _ _ _ => pts_b _ _ _ _ _ ifs hif) (fun _ _ _ _ _ => pe_b _ _ _ _ _) hs) ?_
  refine cE_mono (h σ H ok) fun v H1 ⟨d, o1, w, l, r, ds, e1, q⟩ => ?_
  subst e1
  cases r with
  | @lst a vs _ ha na rs =>
    exact ⟨a, rfl, ⟨vs, .of ha⟩, fun D0 hD => lc_readL (Φ := fun d o2 => E.nx (δ.set n (some d)) o2) (fun i h => h) (ok.step l w) (.inr ⟨ha, na⟩) rs hD (q D0 (w.free hD)) fun v H' p => lc_set ok l n p⟩
theorem we_lcT1 (i : Nat) {x : Str} {tp : Pos} (ok0 : BlkOk X.N X.env.scope scope [(x, i)]) (h : WE Γ iter δ o fun d o1 => ∃ ds, d = .tup ds ∧ ∀ q, o1 q = none → lcD Γ scope [i] ifs elt (wipeD δ [i]) q (lcEnd q Φ) ds (updO o1 q (.lst []))) (hi : X.N[i]? = some x := by rfl) (hx : scope.names.lookup x = some .local := by rfl) (hif : ifs.length ≤ 1 := by decide) (hc : X.calm = true := by rfl) (hs : ∀ x, foldedSetIterable iter X.env x = pure x := by intro _; rfl) : WE Γ (.ListComp elt [⟨.Name x tp, iter, ifs, 0⟩] scope pos) δ o Φ := fun σ H ok => by
  refine cE_of (pe_lc (own := [(x, i)]) (g := gPut X.K [i]) (tt := ttB X scope ifs) (te := tB X scope elt) hc Γ.nd (pi_tup pe_c) ok0 (fun _ _ _ _ _ => pg_name (X := X.blk _ _ _ _ _) Γ.nd hi (loc_blk hx).1 (.inr (loc_blk hx).2)) (fun _ _ _ _ _ => pts_b _ _ _ _ _ ifs hif) (fun _ _ _ _ _ => pe_b _ _ _ _ _) hs) ?_
  refine cE_mono (h σ H ok) fun v H1 ⟨d, o1, w, l, r, ds, e1, q⟩ => ?_
  subst e1
  cases r with
  | @tup a vs _ ha rs =>
    exact ⟨a, rfl, ⟨vs, ha.to⟩, fun D0 hD => lc_readT (Φ := Φ) (fun i h => h) (ok.step l w) ha rs hD (q D0 (w.free hD)) fun v H' p => p.le l⟩
theorem we_lcT2 (i j : Nat) {x x2 : Str} {tp tp2 tpt : Pos} {kt : Nat} (ok0 : BlkOk X.N X.env.scope scope [(x, i), (x2, j)]) (h : WE Γ iter δ o fun d o1 => ∃ ds, d = .tup ds ∧ ∀ q, o1 q = none → lcD Γ scope [i, j] ifs elt (wipeD δ [i, j]) q (lcEnd q Φ) ds (updO o1 q (.lst []))) (hi : X.N[i]? = some x := by rfl) (hx : scope.names.lookup x = some .local := by rfl) (hi2 : X.N[j]? = some x2 := by rfl) (hx2 : scope.names.lookup x2 = some .local := by rfl) (hc2 : ∀ env : Env, (assignEach [.Name x tp, .Name x2 tp2] env).length = 2 := by intro _; rfl) (hif : ifs.length ≤ 1 := by decide) (hc : X.calm = true := by rfl) (hs : ∀ x, foldedSetIterable iter X.env x = pure x := by intro _; rfl) : WE Γ (.ListComp elt [⟨.Tuple [.Name x tp, .Name x2 tp2] kt tpt, iter, ifs, 0⟩] scope pos) δ o Φ := fun σ H ok => by
  refine cE_of (pe_lc (own := [(x, i), (x2, j)]) (g := gPut X.K [i, j]) (tt := ttB X scope ifs) (te := tB X scope elt) hc Γ.nd (pi_tup pe_c) ok0 (fun _ _ _ _ _ => pg_tup (X := X.blk _ _ _ _ _) hc (pgs_cons (pg_name (X := X.blk _ _ _ _ _) Γ.nd hi (loc_blk hx).1 (.inr (loc_blk hx).2)) (pgs_cons (pg_name (X := X.blk _ _ _ _ _) Γ.nd hi2 (loc_blk hx2).1 (.inr (loc_blk hx2).2)) pgs_nil rfl) rfl) (hc2 _) rfl) (fun _ _ _ _ _ => pts_b _ _ _ _ _ ifs hif) (fun _ _ _ _ _ => pe_b _ _ _ _ _) hs) ?_
  refine cE_mono (h σ H ok) fun v H1 ⟨d, o1, w, l, r, ds, e1, q⟩ => ?_
  subst e1
  cases r with
  | @tup a vs _ ha rs =>
    exact ⟨a, rfl, ⟨vs, ha.to⟩, fun D0 hD => lc_readT (Φ := Φ) (fun i h => h) (ok.step l w) ha rs hD (q D0 (w.free hD)) fun v H' p => p.le l⟩
theorem we_lcR1 (i : Nat) {x : Str} {tp : Pos} {rp cp : Pos} (hm : X.mg "range" = none) (ok0 : BlkOk X.N X.env.scope scope [(x, i)]) (h : WA Γ [a] δ o fun ds o1 => ∃ m : Int, ds = [.int m] ∧ -(2 ^ 62) ≤ m ∧ m < 2 ^ 62 ∧ ∀ q, o1 q = none → lcD Γ scope [i] ifs elt (wipeD δ [i]) q (lcEnd q Φ) (rangeD 0 m.toNat) (updO o1 q (.lst []))) (hi : X.N[i]? = some x := by rfl) (hx : scope.names.lookup x = some .local := by rfl) (hgr : Gl X "range" := by rfl) (hst : starEach [a] X.env = [(false, eval a X.env)] := by rfl) (hif : ifs.length ≤ 1 := by decide) (hc : X.calm = true := by rfl) (hs : ∀ x, foldedSetIterable (.Call (.Name "range" rp) [a] [] cp) X.env x = pure x := by intro _; rfl) : WE Γ (.ListComp elt [⟨.Name x tp, (.Call (.Name "range" rp) [a] [] cp), ifs, 0⟩] scope pos) δ o Φ := fun σ H ok => by
  refine cE_of (pe_lc (own := [(x, i)]) (g := gPut X.K [i]) (tt := ttB X scope ifs) (te := tB X scope elt) hc Γ.nd (pi_range1 hgr hm pa_c hst) ok0 (fun _ _ _ _ _ => pg_name (X := X.blk _ _ _ _ _) Γ.nd hi (loc_blk hx).1 (.inr (loc_blk hx).2)) (fun _ _ _ _ _ => pts_b _ _ _ _ _ ifs hif) (fun _ _ _ _ _ => pe_b _ _ _ _ _) hs) ?_
  refine cA_mono (h σ H ok) fun vs H1 ⟨ds, o1, w, l, r, m, e1, b1, b2, q⟩ => ?_
  subst e1
  cases r with
  | cons r1 r =>
    cases r
    cases r1
    exact ⟨m, rfl, b1, b2, fun D0 hD => lc_readR (Φ := Φ) (fun i h => h) (ok.step l w) hD (q D0 (w.free hD)) fun v H' p => p.le l⟩
end
end DL
set_option Elab.async false
set_option linter.all false
set_option maxRecDepth 100000
set_option maxHeartbeats 2000000
/-! DL16: comprehensions whose test and element change nothing. -/
namespace DL
open PySem PySem.Spec PyProof.Rows L2
section
variable {X : Cx} {τ : Tx} {k : Nat} {Ξ : DX → Δ → O → Prop} {Γ : Gm X τ k Ξ} {scope : Scope} {is : List Nat} {ifs : List Expr} {elt : Expr} {δ0 : Δ} {q : Addr} {o1 : O} {Φ : D → O → Prop}
theorem BTs.mono {δ : Δ} {o : O} {Ψ Ψ' : Bool → O → Prop} (h : BTs Γ scope ifs δ o Ψ) (k : ∀ b o', Ψ b o' → Ψ' b o') : BTs Γ scope ifs δ o Ψ' := by
  match ifs, h with
  | [], h => exact k _ _ h
  | [c], h => exact fun s H C cl fp σ H' ok => cT_mono (h s H C cl fp σ H' ok) fun b H2 ⟨o', w, l, z⟩ => ⟨o', w, l, k _ _ z⟩
end
end DL
set_option Elab.async false
set_option linter.all false
set_option maxRecDepth 100000
set_option maxHeartbeats 2000000
/-! DL17: defs with a starred parameter; instances made by them. -/
namespace L2
open PySem PySem.Spec PyProof.Rows
theorem cxUpN {P : Program} {w : World} : StX.CXUp (L2N.CX P w) := by
  intro out sA HA sB HB E u sC un stay eo ⟨a, B, HC, cls, d, ea, fly, okC, ub, na, osC, bare, want⟩
  have fr : ∀ b ob, sA.heap.get? b = some ob → HA b = none → HB b = none := fun b ob e1 e2 => un.free b ob e1 e2 (by simp)
  have tb : ∀ b ps, HA b = some (.tbl ps) → ∃ more, HC b = some (.tbl (ps ++ more)) := fun b ps e1 => by
    obtain ⟨m1, q1⟩ := un.tbls b ps e1
    obtain ⟨m2, q2⟩ := ub.tbls b _ q1
    exact ⟨m1 ++ m2, by rw [q2, Array.append_assoc]⟩
  refine ⟨a, B, HC, cls, d, ea, fly, okC, ?_, na, osC.trans eo, bare, want⟩
  exact {
    keep := fun b ob e1 e2 hb => ub.keep b ob (stay b ob e1) (fr b ob e1 e2) hb
    slot := fun b ob e1 hb => ub.slot b ob (stay b ob e1) hb
    free := fun b ob e1 e2 => ub.free b ob (stay b ob e1) (fr b ob e1 e2)
    there := fun b ob e1 hb => ub.there b ob (stay b ob e1) hb
    tups := fun b xs e1 => ub.tups b xs (un.tups b xs e1)
    frzs := fun b ob xs e1 => ub.frzs b ob xs (un.frzs b ob xs e1)
    tbls := tb }
end L2
namespace DL
open PySem PySem.Spec PyProof.Rows L2
theorem Rs.split {K : PySem.W.Frag} {τ : Tx} {H : Hp} {o : O} : ∀ {ds1 ds2 : List D} {vs : List V}, Rs K τ H o vs (ds1 ++ ds2) → ∃ v1 v2, vs = v1 ++ v2 ∧ Rs K τ H o v1 ds1 ∧ Rs K τ H o v2 ds2
  | [], _, vs, r => ⟨[], vs, rfl, .nil, r⟩
  | d :: ds1, ds2, _, r => by
    have r : Rs K τ H o _ (d :: (ds1 ++ ds2)) := r
    cases r with
    | cons h r =>
      obtain ⟨v1, v2, e, r1, r2⟩ := Rs.split r
      subst e
      exact ⟨_ :: v1, v2, rfl, .cons h r1, r2⟩
theorem postE_le {K : PySem.W.Frag} {τ : Tx} {H H1 : Hp} {o o1 : O} {Φ : D → O → Prop} {v : V} {H' : Hp} (l : Le H o H1 o1) (h : PostE K τ H1 o1 Φ v H') : PostE K τ H o Φ v H' :=
  let ⟨d, o', a, b, c, e⟩ := h; ⟨d, o', a, l.trans b, c, e⟩
end DL
set_option Elab.async false
set_option linter.all false
set_option maxRecDepth 100000
set_option maxHeartbeats 2000000
/-! DL18: dicts whose keys are numbers or texts: made, read, written, given up. -/
namespace DL
open PySem PySem.Spec PyProof.Rows L2
/-- the pairs of a dict, as data -/
def dctOf (o : O) : D → Option (List (Key × D))
  | .dct kvs => some kvs
  | .ref q => match o q with
    | some (.dct kvs) => some kvs
    | _ => none
  | _ => none
def keyD : D → Option Key
  | .int i => some (.inl i)
  | .str x => some (.inr x)
  | _ => none
def valD (kvs : List (Key × D)) (k : Key) : Option D := (kvs.find? fun kv => decide (kv.1 = k)).map (·.2)
def storeD (kvs : List (Key × D)) (k : Key) (d : D) : List (Key × D) := if (kvs.any fun kv => decide (kv.1 = k)) = true then kvs.map (fun kv => if kv.1 = k then (kv.1, d) else kv) else kvs ++ [(k, d)]
section
variable {K : PySem.W.Frag} {τ : Tx} {H : Hp} {o : O}
theorem R.key {v : V} {d : D} {k : Key} (r : R K τ H o v d) (e : keyD d = some k) : v = kV k := by
  cases r <;> first | (cases e; rfl) | cases e
theorem Rk.val {k : Key} {vs : List (Key × V)} {ds : List (Key × D)} (r : Rk K τ H o vs ds) : (valV vs k = none ∧ valD ds k = none) ∨ ∃ v d, valV vs k = some v ∧ valD ds k = some d ∧ R K τ H o v d := by
  cases r with
  | nil => exact .inl ⟨rfl, rfl⟩
  | @cons k' v d vs ds h r =>
    by_cases e : k' = k
    · exact .inr ⟨v, d, valV_pos e, by unfold valD; rw [List.find?_cons_of_pos (by simpa using e)]; rfl, h⟩
    · rcases Rk.val (k := k) r with ⟨h1, h2⟩ | ⟨v', d', h1, h2, h3⟩
      · exact .inl ⟨(valV_neg e).trans h1, by unfold valD at h2 ⊢; rw [List.find?_cons_of_neg (by simpa using e)]; exact h2⟩
      · exact .inr ⟨v', d', (valV_neg e).trans h1, by unfold valD at h2 ⊢; rw [List.find?_cons_of_neg (by simpa using e)]; exact h2, h3⟩
theorem Rk.any {k : Key} {vs : List (Key × V)} {ds : List (Key × D)} (r : Rk K τ H o vs ds) : (vs.any fun kv => decide (kv.1 = k)) = (ds.any fun kv => decide (kv.1 = k)) := by
  cases r with
  | nil => rfl
  | cons h r => rw [List.any_cons, List.any_cons, Rk.any r]
theorem Rk.mapPut {k : Key} {v : V} {d : D} {vs : List (Key × V)} {ds : List (Key × D)} (r : Rk K τ H o vs ds) (h : R K τ H o v d) : Rk K τ H o (vs.map (fun kv => if kv.1 = k then (kv.1, v) else kv)) (ds.map (fun kv => if kv.1 = k then (kv.1, d) else kv)) := by
  cases r with
  | nil => exact .nil
  | @cons k' v' d' vs ds h' r =>
    rw [List.map_cons, List.map_cons]
    by_cases e : k' = k
    · rw [if_pos e, if_pos e]
      exact .cons h (Rk.mapPut r h)
    · rw [if_neg e, if_neg e]
      exact .cons h' (Rk.mapPut r h)
theorem Rk.snoc {k : Key} {v : V} {d : D} {vs : List (Key × V)} {ds : List (Key × D)} (r : Rk K τ H o vs ds) (h : R K τ H o v d) : Rk K τ H o (vs ++ [(k, v)]) (ds ++ [(k, d)]) := by
  cases r with
  | nil => exact .cons h .nil
  | cons h' r => exact .cons h' (Rk.snoc r h)
theorem Rk.put {k : Key} {v : V} {d : D} {vs : List (Key × V)} {ds : List (Key × D)} (r : Rk K τ H o vs ds) (h : R K τ H o v d) : Rk K τ H o (putK vs k v) (storeD ds k d) := by
  unfold putK storeD
  rw [r.any (k := k)]
  split
  · exact r.mapPut h
  · exact r.snoc h
theorem Rk.length {vs : List (Key × V)} {ds : List (Key × D)} (r : Rk K τ H o vs ds) : vs.length = ds.length := by
  cases r with
  | nil => rfl
  | cons h r => rw [List.length_cons, List.length_cons, Rk.length r]
/-- a dict in the abstract heap -/
theorem R.dct_at {v : V} {d : D} {kds : List (Key × D)} (r : R K τ H o v d) (w : Own K τ H o) (e : dctOf o d = some kds) : ∃ a kvs, v = .ref a ∧ Rd H a (.dK kvs) ∧ Rk K τ H o kvs kds := by
  cases r with
  | dct h n r => cases e; exact ⟨_, _, rfl, h, r⟩
  | ref q =>
    have e : (match o q with | some (.dct kvs) => some kvs | _ => none) = some kds := e
    split at e
    · rename_i kvs hq
      cases e
      obtain ⟨gs, h1, h2⟩ := w q _ hq
      exact ⟨_, _, rfl, .inl h1, h2⟩
    · cases e
  | _ => cases e
end
theorem getR {H : Hp} {a : Addr} {kvs : List (Key × V)} {k : Key} (e : Rd H a (.dK kvs)) : DGet H a (kV k) (valV kvs k) := .inl ⟨kvs, k, e, rfl, rfl⟩
section
variable {X : Cx} {τ : Tx} {k : Nat} {Ξ : DX → Δ → O → Prop} {Γ : Gm X τ k Ξ} {e a b : Expr} {δ : Δ} {o : O} {pos spos : Pos} {Φ : D → O → Prop} {sts : List Stmt} {E : DE}
/-- {} -/
theorem we_dnew (h : ∀ q, o q = none → Φ (.ref q) (updO o q (.dct []))) : WE Γ (.Dict [] [] pos) δ o Φ := fun σ H ok => by
  refine cE_of pe_dnewK fun p hp => ?_
  have l2 : Le H o (upd H p (.dK [])) (updO o p (.dct [])) := Le.newO hp
  refine ⟨_, _, fun a y e => ?_, l2, .ref p, h p (ok.own.free hp)⟩
  by_cases ha : a = p
  · subst ha
    rw [updO_same] at e
    cases e
    exact ⟨[], upd_same, .nil⟩
  · rw [updO_ne ha] at e
    have := ok.own a y e
    cases y with
    | lst ds => obtain ⟨vs, h1, h2⟩ := this; exact ⟨vs, by rw [upd_ne ha]; exact h1, h2.mono l2⟩
    | ins C fs => obtain ⟨dx, gs, h1, h2⟩ := this; exact ⟨dx, gs, by rw [upd_ne ha]; exact h1, h2.mono l2⟩
    | dct kvs => obtain ⟨gs, h1, h2⟩ := this; exact ⟨gs, by rw [upd_ne ha]; exact h1, h2.mono l2⟩
    | xd gs fs => obtain ⟨h1, h2⟩ := this; exact ⟨by rw [upd_ne ha]; exact h1, h2.mono l2⟩
    | lam u c qn => obtain ⟨h1, e2, e3⟩ := this; exact ⟨by rw [upd_ne ha]; exact h1, (l2.ex e3 e2 rfl).1, (l2.ex e3 e2 rfl).2⟩
    | tbl qn => obtain ⟨ps, h1, h2, h3⟩ := this; exact ⟨ps, by rw [upd_ne ha]; exact h1, h2, fun p cv e => let ⟨c, e1, e2, e3⟩ := h3 p cv e; ⟨c, e1, (l2.ex e3 e2 rfl).1, (l2.ex e3 e2 rfl).2⟩⟩
/-- d[k], the key is there -/
theorem we_dget (h : WE Γ a δ o fun d1 o1 => WE Γ b δ o1 fun d2 o2 => ∃ kvs kk d, dctOf o2 d1 = some kvs ∧ keyD d2 = some kk ∧ valD kvs kk = some d ∧ Φ d o2) (hs : NoSl b := by exact fun _ _ => rfl) : WE Γ (.Subscript a b pos) δ o Φ := fun σ H ok => by
  refine cE_of (pe_dget (Γ.hu) pe_c pe_c hs) ?_
  refine cE_mono (h σ H ok) fun v1 H1 ⟨d1, o1, w1, l1, r1, h1⟩ => ?_
  refine cE_mono (h1 σ H1 (ok.step l1 w1)) fun v2 H2 ⟨d2, o2, w2, l2, r2, kvs, kk, d, e1, e2, e3, q⟩ => ?_
  obtain ⟨a, gs, rfl, ha, rk⟩ := (r1.mono l2).dct_at w2 e1
  have ek := r2.key e2
  subst ek
  rcases rk.val (k := kk) with ⟨_, z⟩ | ⟨v, d', z1, z2, z3⟩
  · rw [e3] at z; cases z
  · rw [e3] at z2
    cases z2
    refine ⟨a, v, rfl, z1 ▸ getR ha, d, o2, w2, l1.trans l2, z3, q⟩
/-- b in a, a a dict -/
theorem wc_din (h : WE Γ b δ o fun d2 o1 => WE Γ a δ o1 fun d1 o2 => ∃ kvs kk, dctOf o2 d1 = some kvs ∧ keyD d2 = some kk ∧ Φ (.bl (valD kvs kk).isSome) o2) : WC Γ .In b a δ o Φ := fun σ H ok pins s I => by
  refine (pc_din (Γ.hu) pe_c pe_c).run pins s σ H _ I ?_
  refine cE_mono (h σ H ok) fun v1 H1 ⟨d2, o1, w1, l1, r1, h1⟩ => ?_
  refine cE_mono (h1 σ H1 (ok.step l1 w1)) fun v2 H2 ⟨d1, o2, w2, l2, r2, kvs, kk, e1, e2, q⟩ => ?_
  obtain ⟨a, gs, rfl, ha, rk⟩ := r2.dct_at w2 e1
  have ek := r1.key e2
  subst ek
  refine ⟨a, _, rfl, getR ha, _, o2, w2, l1.trans l2, .bl _, ?_⟩
  rcases rk.val (k := kk) with ⟨z1, z2⟩ | ⟨v, d', z1, z2, z3⟩
  · rw [z1]; rw [z2] at q; exact q
  · rw [z1]; rw [z2] at q; exact q
/-- a[b] = e, a an owned dict -/
theorem ws_dput (h : WE Γ e δ o fun d o1 => WE Γ a δ o1 fun d1 o2 => WE Γ b δ o2 fun d2 o3 => ∃ q kvs kk, d1 = .ref q ∧ o3 q = some (.dct kvs) ∧ keyD d2 = some kk ∧ kvs.length < sizeLine ∧ E.nx δ (updO o3 q (.dct (storeD kvs kk d))))
    (hs : swapsWith e (some (.Subscript a b spos)) pos.line X.env = pure false := by rfl) : WS Γ (.Assign [.Subscript a b spos] e pos) δ o E := fun σ H ok => by
  refine cS_of (ps_dput (Γ.hu) pe_c pe_c pe_c hs) ?_
  refine cE_mono (h σ H ok) fun v H1 ⟨d, o1, w1, l1, r1, h1⟩ => ?_
  refine cE_mono (h1 σ H1 (ok.step l1 w1)) fun x H2 ⟨d1, o2, w2, l2, r2, h2⟩ => ?_
  refine cE_mono (h2 σ H2 (ok.step (l1.trans l2) w2)) fun y H3 ⟨d2, o3, w3, l3, r3, q, kvs, kk, e1, e2, e3, e4, hn⟩ => ?_
  subst e1
  cases r2
  obtain ⟨gs, g1, g2⟩ := w3 q _ e2
  have ek := r3.key e3
  subst ek
  have lw : Le H3 o3 (upd H3 q (.dK (putK gs kk v))) (updO o3 q (.dct (storeD kvs kk d))) := Le.write e2
  have w4 : Own X.K τ (upd H3 q (.dK (putK gs kk v))) (updO o3 q (.dct (storeD kvs kk d))) := w3.write e2 ⟨_, upd_same, (g2.put (r1.mono (l2.trans l3))).mono lw⟩
  have lt := ((l1.trans l2).trans l3).trans lw
  exact ⟨q, _, rfl, DPut.k g1 (by rw [g2.length]; exact e4), δ, _, ok.step lt w4, lt, hn⟩
/-- the dict at q, in slot i, is written no more -/
theorem wss_freezeD (i : Nat) {q : Addr} {kvs : List (Key × D)} (hq : o q = none) (hi : δ[i]? = some (some (.ref q))) (h : WSs Γ sts (δ.set i (some (.dct kvs))) o E) : WSs Γ sts δ (updO o q (.dct kvs)) E := fun σ H ok => by
  obtain ⟨w, l⟩ := ok.own.less (updO_less hq)
  obtain ⟨gs, h1, h2⟩ := ok.own q _ updO_same
  have k1 : Okk X.K τ Γ.H0 Γ.o0 σ H (δ.set i (some (.dct kvs))) o := by
    refine ⟨ok.le.trans l, w, by rw [List.length_set, ok.len], fun i' d e => ?_⟩
    by_cases ei : i = i'
    · subst ei
      have hi' : i < δ.length := (List.getElem?_eq_some_iff.mp hi).1
      rw [List.getElem?_set_self hi'] at e
      cases e
      obtain ⟨v, e1, r⟩ := ok.slot i _ hi
      cases r
      exact ⟨_, e1, .dct (.inl h1) hq (h2.mono l)⟩
    · rw [List.getElem?_set_ne ei] at e
      obtain ⟨v, e1, r⟩ := ok.slot i' d e
      exact ⟨v, e1, r.mono l⟩
  exact toE_cSs l (h σ H k1)
end
end DL
set_option Elab.async false
set_option linter.all false
set_option maxRecDepth 100000
set_option maxHeartbeats 2000000
/-! DL19: match x: case [a, b] if g: .. case _: .. -/
namespace DL
open PySem PySem.Spec PyProof.Rows L2
section
variable {prog : Program} {w : World} {A : Around} {E : Value → Shared → Prop} {s : Shared}
theorem draw_list {it t : Addr} {items : Array Value} (hne : t ≠ it) : ∀ (n i : Nat) (s : Shared) (Q : List Value → Shared → Prop), s.heap.IsListIter it t i → s.heap.IsList t items → i + n ≤ items.size →
    (∀ h', h'.IsListIter it t (i + n) → Heap.SameBut it s.heap h' → Q ((items.toList.drop i).take n) { s with heap := h' }) → wpAny (model prog w) A (draw (.ref it) n) Q E s
  | 0, i, s, Q, hit, _, _, hQ => by
    show wpAny _ _ (pure []) Q E s
    exact wpAny_pure (by simpa using hQ s.heap hit (Heap.SameBut.refl ..))
  | n + 1, i, s, Q, hit, ht, hle, hQ => by
    have hlt : i < items.size := by omega
    show wpAny _ _ (pyNext (.ref it) >>= _) Q E s
    refine wpAny_bind (wpAny_pyNext_list_item hit ht (x := items[i]) (by simp [hlt]) fun h₁ hit₁ hs₁ => ?_)
    have ht₁ : h₁.IsList t items := by
      obtain ⟨o, ho, r⟩ := ht
      exact ⟨o, (hs₁.2 t hne).trans ho, r⟩
    refine wpAny_bind (wpAny_holding (draw_list hne n (i + 1) _ _ hit₁ ht₁ (by omega) fun h₂ hit₂ hs₂ => wpAny_pure ?_))
    have hd : items.toList.drop i = items[i] :: items.toList.drop (i + 1) := by simp [List.drop_eq_getElem_cons, hlt]
    have := hQ h₂ (by rw [show i + (n + 1) = i + 1 + n by omega]; exact hit₂) (hs₁.trans hs₂)
    rw [hd, List.take_succ_cons] at this
    exact this
theorem unpackItems_list {t : Addr} {items : Array Value} {Q : List Value → Shared → Prop} (hh : A.handled = none) (ht : s.heap.IsList t items)
    (hQ : ∀ h', Heap.ExtBut s.heap.objs.size s.heap h' → Q items.toList { s with heap := h' }) : wpAny (model prog w) A (unpackItems (.ref t) items.size none) Q E s := by
  have hlt : t ≠ s.heap.objs.size := by obtain ⟨o, ho, _⟩ := ht; exact Nat.ne_of_lt (Heap.lt_size ho)
  have push : ∀ ob : Obj, (s.heap.push ob).IsList t items := fun ob => by
    obtain ⟨o, ho, r⟩ := ht
    exact ⟨o, Heap.get?_push_of_some _ ho, r⟩
  unfold unpackItems
  refine wpAny_bind ?_
  · unfold notIterableAtAll
    refine wpAny_bind (wpAny_specialOf ht.typeIs PySem.F.slot_list_iter.lookup ?_)
    refine wpAny_pure ?_
    simp only [Bool.false_eq_true, if_false]
    refine wpAny_bind (wpAny_holding (wpAny_pyIter_list ht ?_))
    refine wpAny_bind (wpAny_holding (draw_list hlt items.size 0 _ _ ⟨_, Heap.get?_push_size _ rfl, rfl, rfl⟩ (push _) (by omega) fun h₁ hit₁ hs₁ => ?_))
    have hall : List.take items.size (List.drop 0 items.toList) = items.toList := by
      rw [List.drop_zero]; exact List.take_of_length_le (by simp)
    rw [hall]
    rw [if_neg (by simp)]
    have ht₁ : h₁.IsList t items := by
      obtain ⟨o, ho, r⟩ := push { cls := .type "list_iterator", data := .fields #[.ref t, .int 0 0] }
      exact ⟨o, (hs₁.2 t hlt).trans ho, r⟩
    refine wpAny_bind (wpAny_holding (wpAny_pyNext_list_end hh hit₁ ht₁ (by simp) fun h₂ he₂ => ?_))
    simp only [Option.isSome_none, Bool.false_eq_true, if_false]
    refine wpAny_pure (hQ h₂ fun b o hb e => he₂ b o hb (hs₁.extBut b o hb (Heap.get?_push_of_some _ e)))
end
section
variable {X : Cx} {τ : Tx} {k : Nat} {Ξ : DX → Δ → O → Prop} {Γ : Gm X τ k Ξ} {e g : Expr} {δ : Δ} {o : O} {pos p1 p2 p3 p4 : Pos} {b1 b2 : List Stmt} {E : DE} {x y : Str}
theorem vals2 {v1 v2 : V} {its : List Value} (r : Vals [v1, v2] its) : ∃ u1 u2, its = [u1, u2] ∧ RelV v1 u1 ∧ RelV v2 u2 := by
  cases r with
  | cons a1 r => cases r with
    | cons a2 r => cases r; exact ⟨_, _, rfl, a1, a2⟩
theorem iteNo {c A B : Prop} [Decidable c] (h : ¬ c) (hb : B) : if c then A else B := by rw [if_neg h]; exact hb
theorem iteYes {c A B : Prop} [Decidable c] (h : c) (hb : A) : if c then A else B := by rw [if_pos h]; exact hb
/-- the last case -/
theorem match_rest {pins : List (Addr × Obj)} {s : Shared} {σ : L2.St} {H H1 : Hp} {o1 : O} {u : Value} {first : Bool} (I : Inv X pins σ H1 s) (ok : Okk X.K τ Γ.H0 Γ.o0 σ H1 δ o1) (l : Le H o H1 o1) (h : WSs Γ b2 δ o1 E) :
    wpAny (model X.prog X.w) X.A (matchCases [⟨.MatchAs none none p4, none, b2⟩] X.env u first) (SP X pins (toE X.K τ Γ.H0 Γ.o0 H o E)) X.xe s := by
  refine wpAny_matchCases_cons (wpAny_matchPattern_Capture ?_)
  exact wpAny_assignInOrder_none (toE_cSs l (h σ H1 ok) pins s I)
theorem ws_match2 (i j : Nat) (h : WE Γ e δ o fun d o1 =>
      (∃ d1 d2, d = .tup [d1, d2] ∧ WT Γ g ((δ.set i (some d1)).set j (some d2)) o1 fun b o2 => if b = true then WSs Γ b1 ((δ.set i (some d1)).set j (some d2)) o2 E else WSs Γ b2 ((δ.set i (some d1)).set j (some d2)) o2 E) ∨
      (∃ d1 d2, d = .lst [d1, d2] ∧ WT Γ g ((δ.set i (some d1)).set j (some d2)) o1 fun b o2 => if b = true then WSs Γ b1 ((δ.set i (some d1)).set j (some d2)) o2 E else WSs Γ b2 ((δ.set i (some d1)).set j (some d2)) o2 E) ∨
      (∃ ds, d = .tup ds ∧ ds.length ≠ 2 ∧ ds.length < 1000 ∧ WSs Γ b2 δ o1 E) ∨
      (∃ t f, tyN d = t ∧ t ≠ "" ∧ flagOfType true (.type t) = pure false ∧ f = WSs Γ b2 δ o1 E ∧ f))
    (hi : X.N[i]? = some x := by rfl) (hx : Loc X.env.scope x := by first | exact Or.inl rfl | exact Or.inr rfl) (hj : X.N[j]? = some y := by rfl) (hy : Loc X.env.scope y := by first | exact Or.inl rfl | exact Or.inr rfl)
    (hfx : X.fn x = true ∨ X.env.scope.names.lookup x = some .local := by first | exact .inl rfl | exact .inr rfl) (hfy : X.fn y = true ∨ X.env.scope.names.lookup y = some .local := by first | exact .inl rfl | exact .inr rfl) (hc : X.calm = true := by rfl) :
    WS Γ (.Match e [⟨.MatchSequence [.MatchAs none (some x) p1, .MatchAs none (some y) p2] p3, some g, b1⟩, ⟨.MatchAs none none p4, none, b2⟩] pos) δ o E := fun σ H ok pins s I => by
  refine wpAny_Match (thn (h σ H ok pins s I) fun u s1 ⟨v, H1, I1, rv, d, o1, w1, l1, r1, q⟩ => ?_)
  have ok1 := ok.step l1 w1
  refine wpAny_matchCases_cons (wpAny_matchPattern_Sequence ?_)
  rcases q with ⟨d1, d2, e1, q⟩ | ⟨d1, d2, e1, q⟩ | ⟨ds, e1, hne2, hlt2, q⟩ | ⟨t, f, e1, e2, e3, e4, q⟩
  · subst e1
    obtain ⟨a, vs, e1, ha, v1, v2, e2, ra, rb⟩ := r1.tup2
    subst e1 e2
    obtain rfl : u = Value.ref a := rv
    obtain ⟨its, rr, ht, hz⟩ := I1.tuple ha
    obtain ⟨u1, u2, e3, a1, a2⟩ := vals2 rr
    subst e3
    · skip
      have hT : s1.TypeIs (.ref a) "tuple" := by obtain ⟨ob, ho, hcl, _⟩ := ht; exact ⟨ob, ho, hcl⟩
      refine wpAny_collectionFlag hT flag_seq_tuple ?_
      rw [if_pos rfl]
      refine pyLen_tuple ht (show ((2 : Nat) : Int) < 2 ^ 63 by decide) ?_
      refine iteNo (c := (((2 : Nat) : Int) != ((2 : Nat) : Int)) = true) (by decide) ?_
      have I2 := I1.tok (s1.toks + 1 + 1)
      refine wpAny_unpackItems_tuple (items := #[u1, u2]) (I.ok.hd hc) ht fun h' hx' => ?_
      have I3 := I2.kept (t' := s1.toks + 1 + 1) (h' := h') fun b ob e => hx' b ob (Nat.ne_of_lt (Heap.lt_size e)) e
      refine wpAny_matchEach_cons (wpAny_matchPattern_Capture (wpAny_matchEach_cons (wpAny_matchPattern_Capture (wpAny_matchEach_nil ?_))))
      refine wpAny_assignInOrder_more (wpAny_bindName (store_ok I3 Γ.nd hi hx a1 (fun s4 I4 => ?_) hfx))
      refine wpAny_assignInOrder_more (wpAny_bindName (store_ok I4 Γ.nd hj hy a2 (fun s5 I5 => ?_) hfy))
      refine wpAny_assignInOrder_none ?_
      have ok5 := (ok1.set i ra).set j rb
      refine thn (q _ H1 ok5 pins s5 I5) fun b s6 ⟨H6, I6, o6, w6, l6, z⟩ => ?_
      have ok6 := ok5.step l6 w6
      cases b with
      | true =>
        rw [if_pos rfl] at z ⊢
        exact toE_cSs (l1.trans l6) (z _ H6 ok6) pins s6 I6
      | false =>
        rw [if_neg Bool.false_ne_true] at z ⊢
        exact match_rest I6 ok6 (l1.trans l6) z
  · subst e1
    obtain ⟨a, v1, v2, e1, ha, ra, rb⟩ : ∃ a v1 v2, v = .ref a ∧ H1 a = some (.lst [v1, v2]) ∧ R X.K τ H1 o1 v1 d1 ∧ R X.K τ H1 o1 v2 d2 := by
      cases r1 with
      | lst ha n rs => cases rs with
        | cons ra rs => cases rs with
          | cons rb rs => cases rs; exact ⟨_, _, _, rfl, ha, ra, rb⟩
    subst e1
    obtain rfl : u = Value.ref a := rv
    obtain ⟨its, rr, ht, hz⟩ := I1.list (.inl (.inl ha) : SqL X.K H1 a [v1, v2])
    obtain ⟨u1, u2, e3, a1, a2⟩ := vals2 rr
    subst e3
    · skip
      have hT : s1.TypeIs (.ref a) "list" := ht.isList.typeIs
      refine wpAny_collectionFlag hT flag_seq_list ?_
      rw [if_pos rfl]
      refine pyLen_list ht.isList (show ((2 : Nat) : Int) < 2 ^ 63 by decide) ?_
      refine iteNo (c := (((2 : Nat) : Int) != ((2 : Nat) : Int)) = true) (by decide) ?_
      have I2 := I1.tok (s1.toks + 1 + 1)
      refine unpackItems_list (items := #[u1, u2]) (I.ok.hd hc) ht.isList fun h' hx' => ?_
      have I3 := I2.kept (t' := s1.toks + 1 + 1) (h' := h') fun b ob e => hx' b ob (Nat.ne_of_lt (Heap.lt_size e)) e
      refine wpAny_matchEach_cons (wpAny_matchPattern_Capture (wpAny_matchEach_cons (wpAny_matchPattern_Capture (wpAny_matchEach_nil ?_))))
      refine wpAny_assignInOrder_more (wpAny_bindName (store_ok I3 Γ.nd hi hx a1 (fun s4 I4 => ?_) hfx))
      refine wpAny_assignInOrder_more (wpAny_bindName (store_ok I4 Γ.nd hj hy a2 (fun s5 I5 => ?_) hfy))
      refine wpAny_assignInOrder_none ?_
      have ok5 := (ok1.set i ra).set j rb
      refine thn (q _ H1 ok5 pins s5 I5) fun b s6 ⟨H6, I6, o6, w6, l6, z⟩ => ?_
      have ok6 := ok5.step l6 w6
      cases b with
      | true =>
        rw [if_pos rfl] at z ⊢
        exact toE_cSs (l1.trans l6) (z _ H6 ok6) pins s6 I6
      | false =>
        rw [if_neg Bool.false_ne_true] at z ⊢
        exact match_rest I6 ok6 (l1.trans l6) z
  · subst e1
    cases r1 with
    | @tup a vs _ ha rs =>
      obtain rfl : u = Value.ref a := rv
      obtain ⟨its, rr, ht, hz⟩ := I1.tuple ha.to
      have hT : s1.TypeIs (.ref a) "tuple" := by obtain ⟨ob, ho, hcl, _⟩ := ht; exact ⟨ob, ho, hcl⟩
      have hn : its.length = ds.length := by rw [← rr.length, rs.length]
      refine wpAny_collectionFlag hT flag_seq_tuple ?_
      rw [if_pos rfl]
      refine pyLen_tuple ht (by rw [List.size_toArray, hn]; omega) ?_
      have hne : (((its.toArray.size : Nat) : Int) != ((2 : Nat) : Int)) = true := by
        rw [List.size_toArray, hn]
        simp only [bne_iff_ne, ne_eq]
        omega
      have z : ∀ s2 : Shared, Inv X pins σ H1 s2 → wpAny (model X.prog X.w) X.A (matchCases [⟨.MatchAs none none p4, none, b2⟩] X.env (.ref a) false) (SP X pins (toE X.K τ Γ.H0 Γ.o0 H o E)) X.xe s2 := fun s2 I2 => match_rest I2 ok1 l1 q
      refine iteYes hne ?_
      exact z _ (I1.tok (s1.toks + 1 + 1))
  · subst e1 e4
    have hty := typeOf_pure r1 rv e2
    have z : wpAny (model X.prog X.w) X.A (matchCases [⟨.MatchAs none none p4, none, b2⟩] X.env u false) (SP X pins (toE X.K τ Γ.H0 Γ.o0 H o E)) X.xe s1 := match_rest I1 ok1 l1 q
    rw [collectionFlag_split, hty]
    refine wpAny_bind (wpAny_pure ?_)
    rw [e3]
    exact wpAny_pure z
end
end DL
set_option Elab.async false
set_option linter.all false
set_option maxRecDepth 100000
set_option maxHeartbeats 2000000
/-! DL20: the first cells of a tape; an instance made without arguments by a starred __init__. -/
namespace DL
open PySem PySem.Spec PyProof.Rows L2
section
variable {X : Cx} {τ : Tx} {k j : Nat} {Ξ : DX → Δ → O → Prop} {Γ : Gm X τ k Ξ} {a : Expr} {δ : Δ} {o : O} {pos p : Pos} {Φ : D → O → Prop} {S : DSp} {x : Str} {C : Addr}
theorem begsV_rk {K : PySem.W.Frag} {H : Hp} : ∀ (b : Int) (ss : List (Str × Int)), Rk K τ H o (begsV b ss) (begsD b ss)
  | _, [] => .nil
  | b, (n, l) :: r => .cons (.int b) (begsV_rk (b + l) r)
/-- e.begins, e a tape -/
theorem we_begins {ns : List Str} (hc : ClsX X.K τ.tape ns) (hf : ("begins" : Str) ∈ ns) (h : WE Γ a δ o fun d o1 => ∃ ss, d = .tape ss ∧ Φ (.dct (begsD 0 ss)) o1) (hb : attributeBase a "begins" X.env (eval a X.env) = eval a X.env := by rfl) : WE Γ (.Attribute a "begins" pos) δ o Φ := by
  intro σ H ok
  refine cE_of (pe_fld pe_c hb) (cE_mono (h σ H ok) fun v H1 ⟨d, o1, w, l, r, ss, e, q⟩ => ?_)
  subst e
  cases r with
  | tape hp hn rt hd nb =>
    exact ⟨_, _, _, _, _, rfl, hp, hc.cl, hc.no _ hf, fTape_begins, _, o1, w, l, .dct hd nb (begsV_rk 0 ss), q⟩
end
end DL
set_option Elab.async false
set_option linter.all false
set_option maxRecDepth 100000
set_option maxHeartbeats 2000000
/-! RD1: readings over data: what a piece of text does, without the text. -/
namespace RD
open PySem PySem.Spec PyProof.Rows L2 DL
abbrev XW := DX → Δ → O → Prop
abbrev RE := XW → Δ → O → (D → O → Prop) → Prop
abbrev RT := XW → Δ → O → (Bool → O → Prop) → Prop
abbrev RA := XW → Δ → O → (List D → O → Prop) → Prop
abbrev RS := XW → Δ → O → DE → Prop
abbrev RG := D → Δ → O → (Δ → O → Prop) → Prop
section
variable (X : Cx) (τ : Tx) (k : Nat)
structure TrE (e : Expr) (t : RE) : Prop where
  h : ∀ Ξ (Γ : Gm X τ k Ξ) δ o Φ, t Ξ δ o Φ → WE Γ e δ o Φ
structure TrC (op : CmpOp) (a b : Expr) (t : RE) : Prop where
  h : ∀ Ξ (Γ : Gm X τ k Ξ) δ o Φ, t Ξ δ o Φ → WC Γ op a b δ o Φ
structure TrT (e : Expr) (t : RT) : Prop where
  h : ∀ Ξ (Γ : Gm X τ k Ξ) δ o Φ, t Ξ δ o Φ → WT Γ e δ o Φ
structure TrW (e : Expr) (t : RT) : Prop where
  h : ∀ Ξ (Γ : Gm X τ k Ξ) δ o Φ, t Ξ δ o Φ → WW Γ e δ o Φ
structure TrA (es : List Expr) (t : RA) : Prop where
  h : ∀ Ξ (Γ : Gm X τ k Ξ) δ o Φ, t Ξ δ o Φ → WA Γ es δ o fun ds o' => ds.length = es.length ∧ Φ ds o'
structure TrS (st : Stmt) (t : RS) : Prop where
  h : ∀ Ξ (Γ : Gm X τ k Ξ) δ o E, t Ξ δ o E → WS Γ st δ o E
structure TrSs (st : List Stmt) (t : RS) : Prop where
  h : ∀ Ξ (Γ : Gm X τ k Ξ) δ o E, t Ξ δ o E → WSs Γ st δ o E
structure TrG (tg : Expr) (t : RG) : Prop where
  h : ∀ Ξ (Γ : Gm X τ k Ξ) d δ o Ψ, t d δ o Ψ → WG Γ tg d δ o Ψ
end
/-! ### the state -/
def sget : Δ → Nat → Option D
  | [], _ => none
  | d :: _, 0 => d
  | _ :: r, n + 1 => sget r n
def sset : Δ → Nat → Option D → Δ
  | [], _, _ => []
  | _ :: r, 0, x => x :: r
  | d :: r, n + 1, x => d :: sset r n x
def swipe (δ : Δ) : List Nat → Δ
  | [] => δ
  | v :: vs => sset (swipe δ vs) v none
theorem sget_eq (δ : Δ) (i : Nat) : sget δ i = (δ[i]?).join := by
  induction δ generalizing i with
  | nil => simp [sget]
  | cons d δ ih => cases i with
    | zero => simp [sget]
    | succ i => simpa [sget] using ih i
theorem sset_eq (δ : Δ) (i : Nat) (x : Option D) : sset δ i x = δ.set i x := by
  induction δ generalizing i with
  | nil => simp [sset]
  | cons d δ ih => cases i with
    | zero => simp [sset]
    | succ i => simpa [sset] using ih i
theorem swipe_eq (δ : Δ) (vs : List Nat) : swipe δ vs = wipeD δ vs := by
  induction vs with
  | nil => rfl
  | cons v vs ih => show sset (swipe δ vs) v none = (wipeD δ vs).set v none; rw [sset_eq, ih]
theorem sget_some {δ : Δ} {i : Nat} {d : D} (h : sget δ i = some d) : δ[i]? = some (some d) := by
  rw [sget_eq] at h
  cases e : δ[i]? with
  | none => rw [e] at h; cases h
  | some x => rw [e] at h; cases x <;> cases h; rfl
/-- the state is laid out -/
def force : Δ → (Δ → Prop) → Prop
  | [], f => f []
  | x :: xs, f => force xs fun r => f (x :: r)
theorem force_eq (δ : Δ) (f : Δ → Prop) : force δ f = f δ := by
  induction δ generalizing f with
  | nil => rfl
  | cons x δ ih => exact ih _
theorem force_out {δ : Δ} {f : Δ → Prop} (h : force δ f) : f δ := by rw [force_eq] at h; exact h
/-! ### the words of the readings -/
def optC {α : Type} (x : Option α) (f : α → Prop) : Prop := match x with | some a => f a | none => False
def slotC (δ : Δ) (i : Nat) (f : D → Prop) : Prop := optC (sget δ i) f
theorem slotC.out {δ : Δ} {i : Nat} {f : D → Prop} (h : slotC δ i f) : ∃ d, δ[i]? = some (some d) ∧ f d := by
  unfold slotC optC at h
  split at h
  · rename_i d e; exact ⟨d, sget_some e, h⟩
  · exact h.elim
def asB (d : D) (Ψ : Bool → Prop) : Prop := match d with | .bl b => Ψ b | _ => False
def onD (d : D) (P : Prop) : Prop := match d with | .deck _ _ => P | _ => False
def onT (d : D) (P : Prop) : Prop := match d with | .tape _ => P | _ => False
/-- two ways -/
@[irreducible] def BR (b : Bool) (A B : Prop) : Prop := (b = true → A) ∧ (b = false → B)
theorem br {b : Bool} {A B : Prop} (h1 : b = true → A) (h2 : b = false → B) : BR b A B := by unfold BR; exact ⟨h1, h2⟩
theorem brT {b : Bool} {A B : Prop} (h : b = true) (h1 : A) : BR b A B := br (fun _ => h1) (fun z => by rw [h] at z; cases z)
theorem brF {b : Bool} {A B : Prop} (h : b = false) (h1 : B) : BR b A B := br (fun z => by rw [h] at z; cases z) (fun _ => h1)
theorem BR.t {A B : Prop} (h : BR true A B) : A := by unfold BR at h; exact h.1 rfl
theorem BR.f {A B : Prop} (h : BR false A B) : B := by unfold BR at h; exact h.2 rfl
theorem BR.ite {b : Bool} {A B : Prop} (h : BR b A B) : if b = true then A else B := by
  cases b with
  | true => rw [if_pos rfl]; exact h.t
  | false => rw [if_neg Bool.false_ne_true]; exact h.f
theorem BR.imp {b : Bool} {A B A' B' : Prop} (h : BR b A B) (h1 : A → A') (h2 : B → B') : BR b A' B' := by
  cases b with
  | true => exact brT rfl (h1 h.t)
  | false => exact brF rfl (h2 h.f)
/-- two ways by a question -/
theorem brD {p : Prop} [Decidable p] {A B : Prop} (h1 : p → A) (h2 : ¬ p → B) : BR (decide p) A B := br (fun h => h1 (of_decide_eq_true h)) (fun h => h2 (of_decide_eq_false h))
theorem brDT {p : Prop} [Decidable p] {A B : Prop} (h : p) (h1 : A) : BR (decide p) A B := brT (decide_eq_true h) h1
theorem brDF {p : Prop} [Decidable p] {A B : Prop} (h : ¬ p) (h1 : B) : BR (decide p) A B := brF (decide_eq_false h) h1
theorem brN {p : Prop} [Decidable p] {A B : Prop} (h1 : p → B) (h2 : ¬ p → A) : BR (!decide p) A B := br (fun h => h2 (by simpa using h)) (fun h => h1 (by simpa using h))
/-- a call -/
@[irreducible] def CALL (S : DSp) (ds : List D) (o : O) (Φ : D → O → Prop) (Ξ : DX → O → Prop) : Prop := S ds o Φ Ξ
theorem call {S : DSp} {ds : List D} {o : O} {Φ : D → O → Prop} {Ξ : DX → O → Prop} (h : S ds o Φ Ξ) : CALL S ds o Φ Ξ := by unfold CALL; exact h
theorem CALL.out {S : DSp} {ds : List D} {o : O} {Φ : D → O → Prop} {Ξ : DX → O → Prop} (h : CALL S ds o Φ Ξ) : S ds o Φ Ξ := by unfold CALL at h; exact h
/-! ### expressions -/
def rVar (i : Nat) : RE := fun _ δ o Φ => slotC δ i fun d => Φ d o
def rC (d : D) : RE := fun _ _ o Φ => Φ d o
def r2 (S : D → D → O → (D → O → Prop) → Prop) (a b : RE) : RE := fun Ξ δ o Φ => a Ξ δ o fun d1 o1 => b Ξ δ o1 fun d2 o2 => S d1 d2 o2 Φ
def r1 (S : D → O → (D → O → Prop) → Prop) (a : RE) : RE := fun Ξ δ o Φ => a Ξ δ o fun d1 o1 => S d1 o1 Φ
def rFn (S : List D → O → (D → O → Prop) → Prop) (a : RA) : RE := fun Ξ δ o Φ => a Ξ δ o fun ds o1 => S ds o1 Φ
def rANil : RA := fun _ _ o Φ => Φ [] o
def rACons (a : RE) (b : RA) : RA := fun Ξ δ o Φ => a Ξ δ o fun d o1 => b Ξ δ o1 fun ds o2 => Φ (d :: ds) o2
def rTup (a : RA) : RE := fun Ξ δ o Φ => a Ξ δ o fun ds o1 => Φ (.tup ds) o1
def rLst (a : RA) : RE := fun Ξ δ o Φ => a Ξ δ o fun ds o1 => Φ (.lst ds) o1
def rLstO (a : RA) : RE := fun Ξ δ o Φ => a Ξ δ o fun ds o1 => ∀ q, o1 q = none → Φ (.ref q) (updO o1 q (.lst ds))
def rAnd (a b : RE) : RE := fun Ξ δ o Φ => a Ξ δ o fun d o1 => asB d fun c => BR c (b Ξ δ o1 Φ) (Φ (.bl false) o1)
def rIf (c : RT) (a b : RE) : RE := fun Ξ δ o Φ => c Ξ δ o fun x o1 => BR x (a Ξ δ o1 Φ) (b Ξ δ o1 Φ)
def asI (d : D) (f : Int → Prop) : Prop := match d with | .int i => f i | _ => False
def rLe2 (g : Int → Int → Bool) (a b c : RE) : RE := fun Ξ δ o Φ => a Ξ δ o fun d1 o1 => b Ξ δ o1 fun d2 o2 => asI d1 fun i => asI d2 fun j => BR (decide (i ≤ j)) (c Ξ δ o2 fun d3 o3 => asI d3 fun l => Φ (.bl (g j l)) o3) (Φ (.bl false) o2)
/-! tests -/
def tVal (a : RE) : RT := fun Ξ δ o Ψ => a Ξ δ o fun d o1 => asB d fun c => Ψ c o1
def tNot (a : RT) : RT := fun Ξ δ o Ψ => a Ξ δ o fun c o1 => Ψ (!c) o1
def tAnd (a b : RT) : RT := fun Ξ δ o Ψ => a Ξ δ o fun c o1 => BR c (b Ξ δ o1 Ψ) (Ψ false o1)
def tOr (a b : RT) : RT := fun Ξ δ o Ψ => a Ξ δ o fun c o1 => BR c (Ψ true o1) (b Ξ δ o1 Ψ)
/-! calls -/
def rCall (S : DSp) (a : RA) : RE := fun Ξ δ o Φ => a Ξ δ o fun ds o1 => CALL S ds o1 Φ fun x o2 => Ξ x δ o2
def rMethD (S : DSp) (a : RE) (as : RA) : RE := fun Ξ δ o Φ => a Ξ δ o fun d o1 => onD d <| as Ξ δ o1 fun ds o2 => CALL S (d :: ds) o2 Φ fun x o3 => Ξ x δ o3
def rMethT (S : DSp) (a : RE) (as : RA) : RE := fun Ξ δ o Φ => a Ξ δ o fun d o1 => onT d <| as Ξ δ o1 fun ds o2 => CALL S (d :: ds) o2 Φ fun x o3 => Ξ x δ o3
def rPrpT (S : DSp) (a : RE) : RE := fun Ξ δ o Φ => a Ξ δ o fun d o1 => onT d <| CALL S [d] o1 Φ fun _ _ => False
def rListed (a : RE) : RE := fun Ξ δ o Φ => a Ξ δ o fun d o1 => (match d with | .tape ss => Φ (.tup (ss.map songD)) o1 | _ => False)
def rTotal (a : RE) : RE := fun Ξ δ o Φ => a Ξ δ o fun d o1 => (match d with | .tape ss => Φ (.int (total ss)) o1 | _ => False)
def rBegins (a : RE) : RE := fun Ξ δ o Φ => a Ξ δ o fun d o1 => (match d with | .tape ss => Φ (.dct (begsD 0 ss)) o1 | _ => False)
def rOpTT (S : DSp) (a b : RE) : RE := fun Ξ δ o Φ => a Ξ δ o fun d1 o1 => b Ξ δ o1 fun d2 o2 => onT d1 <| onT d2 <| CALL S [d1, d2] o2 Φ fun x o3 => Ξ x δ o3
/-! raising -/
def sRaiseF (C : Addr) (f : Str) (a : RE) : RS := fun Ξ δ o _ => a Ξ δ o fun d o1 => fmtD d ∧ Ξ ⟨C, [(f, d)]⟩ δ o1
/-! ### statements -/
def sNil : RS := fun _ δ o E => E.nx δ o
def sCons (a b : RS) : RS := fun Ξ δ o E => a Ξ δ o { E with nx := fun δ1 o1 => b Ξ δ1 o1 E }
def sExpr (a : RE) : RS := fun Ξ δ o E => a Ξ δ o fun _ o1 => E.nx δ o1
def sRet (a : RE) : RS := fun Ξ δ o E => a Ξ δ o E.rt
def sIf (c : RT) (a b : RS) : RS := fun Ξ δ o E => c Ξ δ o fun x o1 => BR x (a Ξ δ o1 E) (b Ξ δ o1 E)
def sSet (i : Nat) (a : RE) : RS := fun Ξ δ o E => a Ξ δ o fun d o1 => force (sset δ i (some d)) fun δ1 => E.nx δ1 o1
def two (ds : List D) (f : D → D → Prop) : Prop := match ds with | [a, b] => f a b | _ => False
def sPar (i j : Nat) (a : RA) : RS := fun Ξ δ o E => a Ξ δ o fun ds o1 => two ds fun d1 d2 => force (sset (sset δ i (some d1)) j (some d2)) fun δ1 => E.nx δ1 o1
def sAsg (g : RG) (a : RE) : RS := fun Ξ δ o E => a Ξ δ o fun d o1 => g d δ o1 E.nx
def sFldC (C : Addr) (f : Str) (a : RE) (i : Nat) : RS := fun Ξ δ o E => a Ξ δ o fun d o1 => slotC δ i fun d2 => (match d2 with | .ref q => ∃ fs, o1 q = some (.ins C fs) ∧ fs.length < 1000 ∧ E.nx δ (updO o1 q (.ins C (putD f d fs))) | _ => False)
/-- match e: case [x, y] if g: .. case _: .. -/
def match2S (d : D) (two : D → D → Prop) (rest : Prop) : Prop := match d with
  | .tup [d1, d2] => two d1 d2
  | .lst [d1, d2] => two d1 d2
  | .tup ds => ds.length < 1000 ∧ rest
  | .non => rest
  | .bl _ => rest
  | .int _ => rest
  | .str _ => rest
  | _ => False
def sMatch2 (i j : Nat) (a : RE) (g : RT) (b1 b2 : RS) : RS := fun Ξ δ o E => a Ξ δ o fun d o1 => match2S d (fun d1 d2 => force (sset (sset δ i (some d1)) j (some d2)) fun δ1 => g Ξ δ1 o1 fun b o2 => BR b (b1 Ξ δ1 o2 E) (b2 Ξ δ1 o2 E)) (b2 Ξ δ o1 E)
/-! targets -/
def gName (i : Nat) : RG := fun d δ o Ψ => force (sset δ i (some d)) fun δ1 => Ψ δ1 o
def setN : List Nat → List D → Δ → Option Δ
  | [], [], δ => some δ
  | i :: is, d :: ds, δ => setN is ds (sset δ i (some d))
  | _, _, _ => none
def gTup (is : List Nat) : RG := fun d δ o Ψ => match d with | .tup ds => optC (setN is ds δ) fun δ1 => force δ1 fun δ1 => Ψ δ1 o | _ => False
/-! ### loops -/
def pick (δ : Δ) (cs : List Nat) : List (Option D) := cs.map fun i => sget δ i
def putBack (δ : Δ) : List Nat → List (Option D) → Δ
  | [], _ => δ
  | i :: is, vs => putBack (sset δ i (sget vs 0)) is vs.tail
/-- a loop over data: ms: the slots that a turn writes, cs: those that it carries -/
@[irreducible] def FOR (ms cs : List Nat) (g : RG) (body : RS) (ds : List D) (Ξ : XW) (δ : Δ) (o : O) (E : DE) : Prop :=
  ∃ I : Nat → List (Option D) → O → Prop, I 0 (pick δ cs) o ∧
    (∀ m d cv o', ds[m]? = some d → I m cv o' → force (putBack (swipe δ ms) cs cv) fun δw => g d δw o' fun δ1 o1 => body Ξ δ1 o1
      { nx := fun δ2 o2 => swipe δ2 ms = swipe δ ms ∧ I (m + 1) (pick δ2 cs) o2, rt := E.rt, bk := E.nx, ct := fun δ2 o2 => swipe δ2 ms = swipe δ ms ∧ I (m + 1) (pick δ2 cs) o2 }) ∧
    ∀ cv o', I ds.length cv o' → force (putBack (swipe δ ms) cs cv) fun δw => E.nx δw o'
theorem for_by {ms cs : List Nat} {g : RG} {body : RS} {ds : List D} {Ξ : XW} {δ : Δ} {o : O} {E : DE} (I : Nat → List (Option D) → O → Prop) (h0 : I 0 (pick δ cs) o)
    (hs : ∀ m d cv o', ds[m]? = some d → I m cv o' → force (putBack (swipe δ ms) cs cv) fun δw => g d δw o' fun δ1 o1 => body Ξ δ1 o1
      { nx := fun δ2 o2 => swipe δ2 ms = swipe δ ms ∧ I (m + 1) (pick δ2 cs) o2, rt := E.rt, bk := E.nx, ct := fun δ2 o2 => swipe δ2 ms = swipe δ ms ∧ I (m + 1) (pick δ2 cs) o2 })
    (hd : ∀ cv o', I ds.length cv o' → force (putBack (swipe δ ms) cs cv) fun δw => E.nx δw o') : FOR ms cs g body ds Ξ δ o E := by
  unfold FOR
  exact ⟨I, h0, hs, hd⟩
/-- a loop that carries no slot -/
theorem for_o {ms : List Nat} {g : RG} {body : RS} {ds : List D} {Ξ : XW} {δ : Δ} {o : O} {E : DE} (I : Nat → O → Prop) (h0 : I 0 o)
    (hs : ∀ m d o', ds[m]? = some d → I m o' → force (swipe δ ms) fun δw => g d δw o' fun δ1 o1 => body Ξ δ1 o1
      { nx := fun δ2 o2 => swipe δ2 ms = swipe δ ms ∧ I (m + 1) o2, rt := E.rt, bk := E.nx, ct := fun δ2 o2 => swipe δ2 ms = swipe δ ms ∧ I (m + 1) o2 })
    (hd : ∀ o', I ds.length o' → force (swipe δ ms) fun δw => E.nx δw o') : FOR ms [] g body ds Ξ δ o E :=
  for_by (fun m _ o' => I m o') h0 (fun m d _ o' e hI => hs m d o' e hI) fun _ o' hI => hd o' hI
def seqL (d : D) (f : List D → Prop) : Prop := match d with | .lst ds => f ds | _ => False
def seqT (d : D) (f : List D → Prop) : Prop := match d with | .tup ds => f ds | _ => False
def sForL (ms cs : List Nat) (g : RG) (a : RE) (body : RS) : RS := fun Ξ δ o E => a Ξ δ o fun d o1 => seqL d fun ds => FOR ms cs g body ds Ξ δ o1 E
def sForT (ms cs : List Nat) (g : RG) (a : RE) (body : RS) : RS := fun Ξ δ o E => a Ξ δ o fun d o1 => seqT d fun ds => FOR ms cs g body ds Ξ δ o1 E
def rng1 (ds : List D) (f : List D → Prop) : Prop := match ds with | [.int i] => (-(2 ^ 62) ≤ i ∧ i < 2 ^ 62) ∧ f (rangeD 0 i.toNat) | _ => False
def sForR1 (ms cs : List Nat) (g : RG) (a : RA) (body : RS) : RS := fun Ξ δ o E => a Ξ δ o fun ds o1 => rng1 ds fun ds => FOR ms cs g body ds Ξ δ o1 E
/-! ### comprehensions -/
/-- the turns of a comprehension; the new list stands at q -/
def lcQ (turn : D → O → (Option D → O → Prop) → Prop) (q : Addr) (Φ : O → Prop) : List D → O → Prop
  | [], o => Φ o
  | d :: ds, o => turn d o fun r o1 => match r with
    | some d' => ∃ acc, o1 q = some (.lst acc) ∧ acc.length < sizeLine ∧ lcQ turn q Φ ds (updO o1 q (.lst (acc ++ [d'])))
    | none => lcQ turn q Φ ds o1
@[irreducible] def LC (turn : D → O → (Option D → O → Prop) → Prop) (ds : List D) (o : O) (Φ : D → O → Prop) : Prop := ∀ q, o q = none → lcQ turn q (lcEnd q Φ) ds (updO o q (.lst []))
abbrev XN : XW := fun _ _ _ => False
def turn1 (g : RG) (elt : RE) (δ : Δ) (d : D) (o : O) (Ψ : Option D → O → Prop) : Prop := g d δ o fun δ1 o1 => elt XN δ1 o1 fun r o2 => Ψ (some r) o2
def turnI (g : RG) (c : RT) (elt : RE) (δ : Δ) (d : D) (o : O) (Ψ : Option D → O → Prop) : Prop := g d δ o fun δ1 o1 => c XN δ1 o1 fun b o2 => BR b (elt XN δ1 o2 fun r o3 => Ψ (some r) o3) (Ψ none o2)
def rLcL (vs : List Nat) (turn : Δ → D → O → (Option D → O → Prop) → Prop) (a : RE) : RE := fun Ξ δ o Φ => a Ξ δ o fun d o1 => seqL d fun ds => force (swipe δ vs) fun δ0 => LC (turn δ0) ds o1 Φ
def rLcT (vs : List Nat) (turn : Δ → D → O → (Option D → O → Prop) → Prop) (a : RE) : RE := fun Ξ δ o Φ => a Ξ δ o fun d o1 => seqT d fun ds => force (swipe δ vs) fun δ0 => LC (turn δ0) ds o1 Φ
def rLcR1 (vs : List Nat) (turn : Δ → D → O → (Option D → O → Prop) → Prop) (a : RA) : RE := fun Ξ δ o Φ => a Ξ δ o fun ds o1 => rng1 ds fun ds => force (swipe δ vs) fun δ0 => LC (turn δ0) ds o1 Φ
theorem lc_by {turn : D → O → (Option D → O → Prop) → Prop} {ds : List D} {o : O} {Φ : D → O → Prop} (h : ∀ q, o q = none → lcQ turn q (lcEnd q Φ) ds (updO o q (.lst []))) : LC turn ds o Φ := by unfold LC; exact h
theorem LC.out {turn : D → O → (Option D → O → Prop) → Prop} {ds : List D} {o : O} {Φ : D → O → Prop} (h : LC turn ds o Φ) : ∀ q, o q = none → lcQ turn q (lcEnd q Φ) ds (updO o q (.lst [])) := by unfold LC at h; exact h
end RD
set_option Elab.async false
set_option linter.all false
set_option maxRecDepth 100000
set_option maxHeartbeats 2000000
/-! RD2: the text has such readings: names, operators, tests, calls. -/
namespace DL
open PySem PySem.Spec PyProof.Rows L2
section
variable {X : Cx} {τ : Tx} {k : Nat} {Ξ : DX → Δ → O → Prop} {Γ : Gm X τ k Ξ} {e : Expr} {es : List Expr} {δ : Δ} {o : O}
theorem WT.mono {Φ Φ' : Bool → O → Prop} (h : WT Γ e δ o Φ) (k : ∀ d o', Φ d o' → Φ' d o') : WT Γ e δ o Φ' := fun σ H ok => cT_mono (h σ H ok) fun _ _ ⟨o', w, l, q⟩ => ⟨o', w, l, k _ _ q⟩
theorem WW.mono {Φ Φ' : Bool → O → Prop} (h : WW Γ e δ o Φ) (k : ∀ d o', Φ d o' → Φ' d o') : WW Γ e δ o Φ' := fun σ H ok => cW_mono (h σ H ok) fun _ _ ⟨o', w, l, q⟩ => ⟨o', w, l, k _ _ q⟩
theorem WA.mono {Φ Φ' : List D → O → Prop} (h : WA Γ es δ o Φ) (k : ∀ d o', Φ d o' → Φ' d o') : WA Γ es δ o Φ' := fun σ H ok => cA_mono (h σ H ok) fun _ _ ⟨d, o', w, l, r, q⟩ => ⟨d, o', w, l, r, k _ _ q⟩
theorem WS.mono {st : Stmt} {E E' : DE} (h : WS Γ st δ o E) (kn : ∀ δ o, E.nx δ o → E'.nx δ o) (kr : ∀ d o, E.rt d o → E'.rt d o) (kb : ∀ δ o, E.bk δ o → E'.bk δ o) (kc : ∀ δ o, E.ct δ o → E'.ct δ o) : WS Γ st δ o E' := fun σ H ok =>
  cS_mono (h σ H ok) (fun _ _ ⟨δ, o', k', l, q⟩ => ⟨δ, o', k', l, kn _ _ q⟩) (fun _ _ ⟨d, o', l, w, r, q⟩ => ⟨d, o', l, w, r, kr _ _ q⟩) (fun _ _ ⟨δ, o', k', l, q⟩ => ⟨δ, o', k', l, kb _ _ q⟩) fun _ _ ⟨δ, o', k', l, q⟩ => ⟨δ, o', k', l, kc _ _ q⟩
theorem WG.mono {d : D} {Ψ Ψ' : Δ → O → Prop} (h : WG Γ e d δ o Ψ) (q : ∀ δ o, Ψ δ o → Ψ' δ o) : WG Γ e d δ o Ψ' := fun σ H v ok r => cG_mono (h σ H v ok r) fun _ _ ⟨δ', o', k', l, z⟩ => ⟨δ', o', k', l, q _ _ z⟩
theorem WC.mono {op : CmpOp} {a b : Expr} {Φ Φ' : D → O → Prop} (h : WC Γ op a b δ o Φ) (k : ∀ d o', Φ d o' → Φ' d o') : WC Γ op a b δ o Φ' := fun σ H ok pins s I => thn (h σ H ok pins s I) fun _ _ q => thn q fun _ _ q => thn q fun _ _ q => EP.imp q fun _ _ ⟨d, o', w, l, r, q⟩ => ⟨d, o', w, l, r, k _ _ q⟩
end
end DL
namespace RD
open PySem PySem.Spec PyProof.Rows L2 DL
section
variable {X : Cx} {τ : Tx} {k j n : Nat} {e a b c : Expr} {es : List Expr} {pos p apos : Pos} {ta tb tc : RE} {tas : RA} {x : Str} {S : DSp} {C : Addr} {m : Str} {op : CmpOp}
/-! ### names, constants -/
theorem t_var (i : Nat) (hN : X.N[i]? = some x := by rfl) (hv : Vis X.env.scope x := by first | exact Or.inl rfl | exact Or.inr (Or.inl rfl) | exact Or.inr (Or.inr rfl)) (h1 : (x == ("__debug__" : Str)) = false := by decide) (h2 : (x == ("__classdict__" : Str)) = false := by decide) :
    TrE X τ k (.Name x pos) (rVar i) := .mk fun Ξ Γ δ o Φ h => by
  obtain ⟨d, e, h⟩ := slotC.out h
  exact we_var i e h hN hv h1 h2
theorem t_int {i : Int} {j} : TrE X τ k (.Constant (.int i) j pos) (rC (.int i)) := .mk fun Ξ Γ δ o Φ h => we_int h
theorem t_bl {i : Bool} {j} : TrE X τ k (.Constant (.bool i) j pos) (rC (.bl i)) := .mk fun Ξ Γ δ o Φ h => we_bl h
theorem t_str {i : Str} {j} : TrE X τ k (.Constant (.str i) j pos) (rC (.str i)) := .mk fun Ξ Γ δ o Φ h => we_str h
/-- the module's name x holds the int i -/
def GloI (mg : Str → Option Value) (x : Str) (i : Int) : Prop := ∃ t, mg x = some (.int i t)
def GloS (mg : Str → Option Value) (x : Str) (i : Str) : Prop := ∃ t, mg x = some (.str i t)
def GloN (mg : Str → Option Value) (x : Str) : Prop := mg x = none
theorem t_gI {i : Int} (hm : GloI X.mg x i) (hg : Gl X x := by rfl) (hd : (x == ("__debug__" : Str)) = false := by decide) : TrE X τ k (.Name x pos) (rC (.int i)) := .mk fun Ξ Γ δ o Φ h => let ⟨_, hm⟩ := hm; we_globI hm h hg hd
theorem t_gS {i : Str} (hm : GloS X.mg x i) (hg : Gl X x := by rfl) (hd : (x == ("__debug__" : Str)) = false := by decide) : TrE X τ k (.Name x pos) (rC (.str i)) := .mk fun Ξ Γ δ o Φ h => let ⟨_, hm⟩ := hm; we_globS hm h hg hd
/-! ### operators -/
theorem t_add (ha : TrE X τ k a ta) (hb : TrE X τ k b tb) : TrE X τ k (.BinOp a .Add b pos) (r2 addS ta tb) := .mk fun Ξ Γ δ o Φ h => we_add ((ha.h _ _ _ _ _ h).mono fun _ _ h => hb.h _ _ _ _ _ h)
theorem t_sub (ha : TrE X τ k a ta) (hb : TrE X τ k b tb) : TrE X τ k (.BinOp a .Sub b pos) (r2 subS ta tb) := .mk fun Ξ Γ δ o Φ h => we_sub ((ha.h _ _ _ _ _ h).mono fun _ _ h => hb.h _ _ _ _ _ h)
theorem t_fdiv (ha : TrE X τ k a ta) (hb : TrE X τ k b tb) : TrE X τ k (.BinOp a .FloorDiv b pos) (r2 fdivS ta tb) := .mk fun Ξ Γ δ o Φ h => we_fdiv ((ha.h _ _ _ _ _ h).mono fun _ _ h => hb.h _ _ _ _ _ h)
theorem t_ix (ha : TrE X τ k a ta) (hb : TrE X τ k b tb) (hx : PlainIx b := by exact fun _ _ => rfl) : TrE X τ k (.Subscript a b pos) (r2 ixS ta tb) := .mk fun Ξ Γ δ o Φ h => we_ix ((ha.h _ _ _ _ _ h).mono fun _ _ h => hb.h _ _ _ _ _ h) hx
theorem t_one {bop} (ha : TrE X τ k a ta) : TrE X τ k (.BoolOp bop [a] pos) ta := .mk fun Ξ Γ δ o Φ h => we_one (ha.h _ _ _ _ _ h)
theorem t_and {rest : List Expr} (ha : TrE X τ k a ta) (hb : TrE X τ k (.BoolOp .And (b :: rest) pos) tb) : TrE X τ k (.BoolOp .And (a :: b :: rest) pos) (rAnd ta tb) := .mk fun Ξ Γ δ o Φ h => we_and ((ha.h _ _ _ _ _ h).mono fun d o1 h => by
  cases d <;> first | exact h.elim | exact ⟨_, rfl, (BR.imp h (fun h => hb.h _ _ _ _ _ h) (fun h => h)).ite⟩)
/-! ### comparisons -/
theorem c_eq (ha : TrE X τ k a ta) (hb : TrE X τ k b tb) : TrC X τ k .Eq a b (r2 eqS ta tb) := .mk fun Ξ Γ δ o Φ h => wc_eq ((ha.h _ _ _ _ _ h).mono fun _ _ h => hb.h _ _ _ _ _ h)
theorem c_ne (ha : TrE X τ k a ta) (hb : TrE X τ k b tb) : TrC X τ k .NotEq a b (r2 neS ta tb) := .mk fun Ξ Γ δ o Φ h => wc_ne ((ha.h _ _ _ _ _ h).mono fun _ _ h => hb.h _ _ _ _ _ h)
theorem c_lt (ha : TrE X τ k a ta) (hb : TrE X τ k b tb) : TrC X τ k .Lt a b (r2 (ltS fun i j => decide (i < j)) ta tb) := .mk fun Ξ Γ δ o Φ h => wc_lt ((ha.h _ _ _ _ _ h).mono fun _ _ h => hb.h _ _ _ _ _ h)
theorem c_le (ha : TrE X τ k a ta) (hb : TrE X τ k b tb) : TrC X τ k .LtE a b (r2 (ltS fun i j => decide (i ≤ j)) ta tb) := .mk fun Ξ Γ δ o Φ h => wc_le ((ha.h _ _ _ _ _ h).mono fun _ _ h => hb.h _ _ _ _ _ h)
theorem c_gt (ha : TrE X τ k a ta) (hb : TrE X τ k b tb) : TrC X τ k .Gt a b (r2 (ltS fun i j => decide (j < i)) ta tb) := .mk fun Ξ Γ δ o Φ h => wc_gt ((ha.h _ _ _ _ _ h).mono fun _ _ h => hb.h _ _ _ _ _ h)
theorem t_c (h : TrC X τ k op a b tc) (h1 : behindInMarks op b = false := by first | exact nobehind _ (by decide) (by decide) | rfl) : TrE X τ k (.Compare a [op] [b] pos) tc := .mk fun Ξ Γ δ o Φ q => we_c (h.h _ _ _ _ _ q) h1
theorem tt_c (h : TrC X τ k op a b tc) (h1 : behindInMarks op b = false := by first | exact nobehind _ (by decide) (by decide) | rfl) : TrT X τ k (.Compare a [op] [b] pos) (tVal tc) := .mk fun Ξ Γ δ o Φ q => wt_c (WC.mono (h.h _ _ _ _ _ q) fun d o1 h => by
  cases d <;> first | exact h.elim | exact ⟨_, rfl, h⟩) h1
/-! ### tests -/
theorem tt_val (h : TrE X τ k e ta) (he : ∀ whole, isTrue e X.env whole = (do let v ← whole; standAt e.pos; holding [v] (truthy v)) := by intro _; rfl) : TrT X τ k e (tVal ta) := .mk fun Ξ Γ δ o Φ q => wt_val ((h.h _ _ _ _ _ q).mono fun d o1 h => by
  cases d <;> first | exact h.elim | exact ⟨_, rfl, h⟩) he
theorem tt_not {tt : RT} (h : TrT X τ k a tt) : TrT X τ k (.UnaryOp .Not a pos) (tNot tt) := .mk fun Ξ Γ δ o Φ q => wt_not (h.h _ _ _ _ _ q)
theorem tt_w {tt : RT} {bop} {rest : List Expr} (h : TrW X τ k (.BoolOp bop rest pos) tt) : TrT X τ k (.BoolOp bop rest pos) tt := .mk fun Ξ Γ δ o Φ q => wt_w (h.h _ _ _ _ _ q)
theorem tw_and1 {tt : RT} (h : TrT X τ k a tt) : TrW X τ k (.BoolOp .And [a] pos) tt := .mk fun Ξ Γ δ o Φ q => ww_and1 (h.h _ _ _ _ _ q)
theorem tw_or1 {tt : RT} (h : TrT X τ k a tt) : TrW X τ k (.BoolOp .Or [a] pos) tt := .mk fun Ξ Γ δ o Φ q => ww_or1 (h.h _ _ _ _ _ q)
theorem tw_and {tt tu : RT} {rest : List Expr} (h : TrT X τ k a tt) (h2 : TrW X τ k (.BoolOp .And (b :: rest) pos) tu) : TrW X τ k (.BoolOp .And (a :: b :: rest) pos) (tAnd tt tu) := .mk fun Ξ Γ δ o Φ q => ww_and (WT.mono (h.h _ _ _ _ _ q) fun d o1 h => (BR.imp h (fun h => h2.h _ _ _ _ _ h) (fun h => h)).ite)
theorem tw_or {tt tu : RT} {rest : List Expr} (h : TrT X τ k a tt) (h2 : TrW X τ k (.BoolOp .Or (b :: rest) pos) tu) : TrW X τ k (.BoolOp .Or (a :: b :: rest) pos) (tOr tt tu) := .mk fun Ξ Γ δ o Φ q => ww_or (WT.mono (h.h _ _ _ _ _ q) fun d o1 h => (BR.imp h (fun h => h) (fun h => h2.h _ _ _ _ _ h)).ite)
theorem t_if {tt : RT} (hc : TrT X τ k c tt) (ha : TrE X τ k a ta) (hb : TrE X τ k b tb) : TrE X τ k (.IfExp c a b pos) (rIf tt ta tb) := .mk fun Ξ Γ δ o Φ q => we_if (WT.mono (hc.h _ _ _ _ _ q) fun d o1 h => (BR.imp h (fun h => ha.h _ _ _ _ _ h) (fun h => hb.h _ _ _ _ _ h)).ite)
/-! ### lists of expressions -/
theorem a_nil : TrA X τ k [] rANil := .mk fun Ξ Γ δ o Φ q => wa_nil ⟨rfl, q⟩
theorem a_cons (ha : TrE X τ k e ta) (has : TrA X τ k es tas) (hs : starEach (e :: es) X.env = (false, eval e X.env) :: starEach es X.env := by rfl) : TrA X τ k (e :: es) (rACons ta tas) := .mk fun Ξ Γ δ o Φ q =>
  wa_cons ((ha.h _ _ _ _ _ q).mono fun d o1 h => (has.h _ _ _ _ _ h).mono fun ds o2 ⟨hl, h⟩ => ⟨congrArg (· + 1) hl, h⟩) hs
theorem t_tup {x1} (h : TrA X τ k es tas) (hl : es.length ≤ 1000 := by exact Nat.le_of_ble_eq_true rfl) : TrE X τ k (.Tuple es x1 pos) (rTup tas) := .mk fun Ξ Γ δ o Φ q => we_tup ((h.h _ _ _ _ _ q).mono fun ds o1 ⟨e, h⟩ => ⟨by rw [e]; exact Nat.le_trans hl (by decide), h⟩)
theorem t_lst (h : TrA X τ k es tas) (hl : es.length ≤ 1000 := by exact Nat.le_of_ble_eq_true rfl) : TrE X τ k (.List es pos) (rLst tas) := .mk fun Ξ Γ δ o Φ q => we_lst ((h.h _ _ _ _ _ q).mono fun ds o1 ⟨e, h⟩ => ⟨by rw [e]; exact Nat.le_trans hl (by decide), h⟩)
theorem t_lstO (h : TrA X τ k es tas) (hl : es.length ≤ 1000 := by exact Nat.le_of_ble_eq_true rfl) : TrE X τ k (.List es pos) (rLstO tas) := .mk fun Ξ Γ δ o Φ q => we_lstO ((h.h _ _ _ _ _ q).mono fun ds o1 ⟨e, h⟩ => ⟨by rw [e]; exact Nat.le_trans hl (by decide), h⟩)
/-! ### built-in functions -/
theorem t_len (hm : GloN X.mg "len") (h : TrA X τ k (e :: es) tas) (hg : Gl X "len" := by rfl) (he : starEach (e :: es) X.env = (false, eval e X.env) :: starEach es X.env := by rfl) (hpl : (backTo pos (starEach es X.env)).any (·.1) = false := by rfl) : TrE X τ k (.Call (.Name "len" p) (e :: es) [] pos) (rFn lenS tas) :=
  .mk fun Ξ Γ δ o Φ q => we_len hm ((h.h _ _ _ _ _ q).mono fun _ _ h => h.2) hg he hpl
theorem t_abs (hm : GloN X.mg "abs") (h : TrA X τ k (e :: es) tas) (hg : Gl X "abs" := by rfl) (he : starEach (e :: es) X.env = (false, eval e X.env) :: starEach es X.env := by rfl) (hpl : (backTo pos (starEach es X.env)).any (·.1) = false := by rfl) : TrE X τ k (.Call (.Name "abs" p) (e :: es) [] pos) (rFn absS tas) :=
  .mk fun Ξ Γ δ o Φ q => we_abs hm ((h.h _ _ _ _ _ q).mono fun _ _ h => h.2) hg he hpl
def maxI (i j : Int) : Int := if j > i then j else i
def minI (i j : Int) : Int := if j < i then j else i
/-! ### calls of the text's own -/
theorem t_call [Calm X] (F : DefD X.prog X.w X.K X.mg X.base τ x j n S) (h : TrA X τ k (e :: es) tas) (hn : (e :: es).length = n := by rfl) (hj : j ≤ k := by decide) (hg : Gl X x := by rfl) (hdb : (x == ("__debug__" : Str)) = false := by decide)
    (he : starEach (e :: es) X.env = (false, eval e X.env) :: starEach es X.env := by rfl) (hpl : (backTo pos (starEach es X.env)).any (·.1) = false := by rfl) : TrE X τ k (.Call (.Name x p) (e :: es) [] pos) (rCall S tas) :=
  .mk fun Ξ Γ δ o Φ q => wd_call F ((h.h _ _ _ _ _ q).mono fun _ _ h => ⟨h.1.trans hn, h.2.out⟩) hj hg hdb he hpl
theorem t_methD [Calm X] {pl : Sem Bool} (F : MetD X.prog X.w X.K X.mg X.base τ τ.deck m j n S) (ha : TrE X τ k a ta) (h : TrA X τ k (e :: es) tas) (hn : (e :: es).length + 1 = n := by rfl) (hm : m ∉ (["first", "more"] : List Str) := by decide +kernel) (hj : j ≤ k := by decide)
    (hst : starEach (e :: es) X.env = (false, eval e X.env) :: starEach es X.env := by rfl) (hpl : (backTo pos (starEach es X.env)).any (·.1) = false := by rfl)
    (ht : eval (.Call (.Attribute a m apos) (e :: es) [] pos) X.env = (do
      let ov ← eval a X.env
      standAt apos.atName
      let (f, first) ← holding [ov] (getMethod ov m pl)
      callWith pos f first (backTo pos (starEach (e :: es) X.env)) (backToKw pos (keywordEach [] X.env))) := by rfl) : TrE X τ k (.Call (.Attribute a m apos) (e :: es) [] pos) (rMethD S ta tas) := .mk fun Ξ Γ δ o Φ q =>
  wd_meth (pl := pl) F ((ha.h _ _ _ _ _ q).mono fun d o1 h1 => by
    cases d <;> first | exact h1.elim | skip
    exact ⟨_, .deck _ _, hm, (h.h _ _ _ _ _ h1).mono fun ds o2 h2 => ⟨by rw [List.length_cons, h2.1]; exact hn, h2.2.out⟩⟩) hj hst hpl ht
theorem t_methT [Calm X] {pl : Sem Bool} (F : MetD X.prog X.w X.K X.mg X.base τ τ.tape m j n S) (ha : TrE X τ k a ta) (h : TrA X τ k (e :: es) tas) (hn : (e :: es).length + 1 = n := by rfl) (hm : m ∉ (["listed", "begins", "total"] : List Str) := by decide +kernel) (hj : j ≤ k := by decide)
    (hst : starEach (e :: es) X.env = (false, eval e X.env) :: starEach es X.env := by rfl) (hpl : (backTo pos (starEach es X.env)).any (·.1) = false := by rfl)
    (ht : eval (.Call (.Attribute a m apos) (e :: es) [] pos) X.env = (do
      let ov ← eval a X.env
      standAt apos.atName
      let (f, first) ← holding [ov] (getMethod ov m pl)
      callWith pos f first (backTo pos (starEach (e :: es) X.env)) (backToKw pos (keywordEach [] X.env))) := by rfl) : TrE X τ k (.Call (.Attribute a m apos) (e :: es) [] pos) (rMethT S ta tas) := .mk fun Ξ Γ δ o Φ q =>
  wd_meth (pl := pl) F ((ha.h _ _ _ _ _ q).mono fun d o1 h1 => by
    cases d <;> first | exact h1.elim | skip
    exact ⟨_, .tape _, hm, (h.h _ _ _ _ _ h1).mono fun ds o2 h2 => ⟨by rw [List.length_cons, h2.1]; exact hn, h2.2.out⟩⟩) hj hst hpl ht
theorem t_prpT [Calm X] (F : PrpD X.prog X.w X.K X.mg X.base τ τ.tape m j S) (ha : TrE X τ k a ta) (hj : j + 1 ≤ k := by decide) (hb : attributeBase a m X.env (eval a X.env) = eval a X.env := by rfl) : TrE X τ k (.Attribute a m pos) (rPrpT S ta) := .mk fun Ξ Γ δ o Φ q =>
  wd_prop F ((ha.h _ _ _ _ _ q).mono fun d o1 h1 => by
    cases d <;> first | exact h1.elim | exact ⟨⟨_, .tape _⟩, CALL.out h1⟩) hj hb
theorem t_opTT [Calm X] {bop : Operator} (F : BinD X.prog X.w X.K X.mg X.base τ τ.tape bop j S) (ha : TrE X τ k a ta) (hb : TrE X τ k b tb) (hj : j ≤ k := by decide) : TrE X τ k (.BinOp a bop b pos) (rOpTT S ta tb) := .mk fun Ξ Γ δ o Φ q =>
  wd_binC F ((ha.h _ _ _ _ _ q).mono fun d1 o1 h1 => (hb.h _ _ _ _ _ h1).mono fun d2 o2 h2 => by
    cases d1 <;> first | exact h2.elim | skip
    cases d2 <;> first | exact h2.elim | exact ⟨⟨_, .tape _⟩, ⟨_, .tape _⟩, CALL.out h2⟩) hj
theorem t_invT [Calm X] (F : InvD X.prog X.w X.K X.mg X.base τ τ.tape j S) (ha : TrE X τ k a ta) (hj : j ≤ k := by decide) : TrE X τ k (.UnaryOp .Invert a pos) (rMethT S ta rANil) := .mk fun Ξ Γ δ o Φ q =>
  wd_inv F ((ha.h _ _ _ _ _ q).mono fun d1 o1 h2 => by
    cases d1 <;> first | exact h2.elim | exact ⟨⟨_, .tape _⟩, CALL.out h2⟩) hj
/-- a class made: what comes of C(..), as data -/
structure MkM (P : Program) (w : World) (K : PySem.W.Frag) (mg : Str → Option Value) (base : Heap) (τ : Tx) (x : Str) (C : Addr) (j n : Nat) (SM : DSp) : Prop where
  ex : ∃ S, MakD P w K mg base τ x C j (n + 1) S ∧ ∀ (ds : List D) (o : O) (Φ : D → O → Prop) (Ξ : DX → Δ → O → Prop) (δ : Δ) (q : Addr), o q = none → ds.length = n → SM ds o Φ (fun x o' => Ξ x δ o') → S (.ref q :: ds) (updO o q (.ins C [])) (MkEnd τ C q Φ) (MkExc Ξ δ)
theorem t_make [Calm X] (F : MkM X.prog X.w X.K X.mg X.base τ x C j n S) (h : TrA X τ k (e :: es) tas) (hn : (e :: es).length = n := by rfl) (hj : j + 1 ≤ k := by decide) (hg : Gl X x := by rfl) (hdb : (x == ("__debug__" : Str)) = false := by decide)
    (he : starEach (e :: es) X.env = (false, eval e X.env) :: starEach es X.env := by rfl) (hpl : (backTo pos (starEach es X.env)).any (·.1) = false := by rfl) : TrE X τ k (.Call (.Name x p) (e :: es) [] pos) (rCall S tas) := .mk fun Ξ Γ δ o Φ q => by
  obtain ⟨S0, F, hS⟩ := F.ex
  exact wd_make F ((h.h _ _ _ _ _ q).mono fun ds o1 h1 => ⟨by rw [h1.1, hn], fun q hq => hS ds o1 Φ Ξ δ q hq (h1.1.trans hn) h1.2.out⟩) hj hg hdb he hpl
end
end RD
set_option Elab.async false
set_option linter.all false
set_option maxRecDepth 100000
set_option maxHeartbeats 2000000
/-! RD3: the text has such readings: statements, loops, comprehensions, dicts, defs. -/
namespace RD
open PySem PySem.Spec PyProof.Rows L2 DL
section
variable {X : Cx} {τ : Tx} {k j n : Nat} {e a b c iter elt : Expr} {es : List Expr} {pos p apos spos py : Pos} {ta tb tc te : RE} {tas : RA} {x y z : Str} {S : DSp} {C : Addr} {m : Str} {st : Stmt} {sts body tt' ff' : List Stmt} {ts tu : RS} {tt : RT} {g : RG}
/-! ### statements -/
theorem ss_nil : TrSs X τ k [] sNil := .mk fun Ξ Γ δ o E h => wss_nil h
theorem ss_cons (h1 : TrS X τ k st ts) (h2 : TrSs X τ k sts tu) : TrSs X τ k (st :: sts) (sCons ts tu) := .mk fun Ξ Γ δ o E h => wss_cons (WS.mono (h1.h _ _ _ _ _ h) (fun _ _ h => h2.h _ _ _ _ _ h) (fun _ _ h => h) (fun _ _ h => h) (fun _ _ h => h))
theorem ss_one (h1 : TrS X τ k st ts) : TrSs X τ k [st] ts := .mk fun Ξ Γ δ o E h => wss_one (h1.h _ _ _ _ _ h)
theorem s_expr (h : TrE X τ k e ta) (hs : swapsWith e none pos.line X.env = pure false := by rfl) : TrS X τ k (.Expr e pos) (sExpr ta) := .mk fun Ξ Γ δ o E q => ws_expr (h.h _ _ _ _ _ q) hs
theorem s_ret (h : TrE X τ k e ta) : TrS X τ k (.Return (some e) pos) (sRet ta) := .mk fun Ξ Γ δ o E q => ws_ret (h.h _ _ _ _ _ q)
theorem s_if (hc : TrT X τ k c tt) (h1 : TrSs X τ k tt' ts) (h2 : TrSs X τ k ff' tu) : TrS X τ k (.If c tt' ff' pos) (sIf tt ts tu) := .mk fun Ξ Γ δ o E q => ws_if (WT.mono (hc.h _ _ _ _ _ q) fun b o1 h => (BR.imp h (fun h => h1.h _ _ _ _ _ h) (fun h => h2.h _ _ _ _ _ h)).ite)
theorem s_set (i : Nat) {px : Pos} (h : TrE X τ k e ta) (hi : X.N[i]? = some x := by rfl) (hx : Loc X.env.scope x := by first | exact Or.inl rfl | exact Or.inr rfl) (hs : swapsWith e (some (.Name x px)) pos.line X.env = pure false := by rfl)
    (hfx : X.fn x = true ∨ X.env.scope.names.lookup x = some .local := by first | exact .inl rfl | exact .inr rfl) :
    TrS X τ k (.Assign [.Name x px] e pos) (sSet i ta) := .mk fun Ξ Γ δ o E q => ws_set i ((h.h _ _ _ _ _ q).mono fun d o1 q => by
    have q := force_out q
    rw [sset_eq] at q
    exact q) hi hx hs hfx
theorem s_par (i i' : Nat) {px py pt : Pos} {kt k2 pt2} (h : TrA X τ k [a, b] tas) (hi : X.N[i]? = some y := by rfl) (hj : X.N[i']? = some z := by rfl) (hij : i ≠ i' := by decide)
    (hx : X.env.scope.names.lookup y = some .local := by rfl) (hy : X.env.scope.names.lookup z = some .local := by rfl) (hc : X.calm = true := by rfl)
    (hw : swappedStores [.Tuple [.Name y px, .Name z py] kt pt] (.Tuple [a, b] k2 pt2) X.env = pure (some [y, z]) := by rfl)
    (hs : swapsWithSole [.Tuple [.Name y px, .Name z py] kt pt] (.Tuple [a, b] k2 pt2) pos.line X.env = pure false := by rfl) : TrS X τ k (.Assign [.Tuple [.Name y px, .Name z py] kt pt] (.Tuple [a, b] k2 pt2) pos) (sPar i i' tas) := .mk fun Ξ Γ δ o E q =>
  ws_par i i' ((h.h _ _ _ _ _ q).mono fun ds o1 ⟨hl, h⟩ => by
    match ds, h with
    | [d1, d2], h =>
      have h := force_out h
      rw [sset_eq, sset_eq] at h
      exact ⟨d1, d2, rfl, h⟩) hi hj hij hx hy hc hw hs
theorem s_asg {tg : Expr} (h : TrE X τ k e ta) (hg : TrG X τ k tg g) (hs : swapsWithSole [tg] e pos.line X.env = pure false := by rfl) (hw : swappedStores [tg] e X.env = pure none := by rfl)
    (h1 : (assignEach [tg] X.env).map (·.2) = [assign tg X.env] := by rfl) : TrS X τ k (.Assign [tg] e pos) (sAsg g ta) := .mk fun Ξ Γ δ o E q => ws_asg ((h.h _ _ _ _ _ q).mono fun d o1 h => hg.h _ _ _ _ _ _ h) hs hw h1
/-! targets -/
theorem g_name (i : Nat) (hi : X.N[i]? = some x := by rfl) (hx : Loc X.env.scope x := by first | exact Or.inl rfl | exact Or.inr rfl)
    (hfx : X.fn x = true ∨ X.env.scope.names.lookup x = some .local := by first | exact .inl rfl | exact .inr rfl) : TrG X τ k (.Name x pos) (gName i) := .mk fun Ξ Γ d δ o Ψ h => by
  have h := force_out h
  rw [sset_eq] at h
  exact wg_name i h hi hx hfx
def Nms (X : Cx) (τ : Tx) (k : Nat) (es : List Expr) (is : List Nat) : Prop := ∀ Ξ (Γ : Gm X τ k Ξ) ds δ o (Ψ : Δ → O → Prop) δ', setN is ds δ = some δ' → Ψ δ' o → ds.length = es.length ∧ WGs Γ es ds δ o Ψ
theorem gs_nil : Nms X τ k [] [] := fun Ξ Γ ds δ o Ψ δ' e h => by
  match ds, e with
  | [], e => cases e; exact ⟨rfl, wgs_nil h⟩
theorem gs_cons (i : Nat) {is : List Nat} (hs : Nms X τ k es is) (hi : X.N[i]? = some x := by rfl) (hx : Loc X.env.scope x := by first | exact Or.inl rfl | exact Or.inr rfl)
    (hfx : X.fn x = true ∨ X.env.scope.names.lookup x = some .local := by first | exact .inl rfl | exact .inr rfl) (he : (assignEach (.Name x p :: es) X.env).map (·.2) = assign (.Name x p) X.env :: (assignEach es X.env).map (·.2) := by rfl) : Nms X τ k (.Name x p :: es) (i :: is) := fun Ξ Γ ds δ o Ψ δ' e q => by
  match ds, e with
  | d :: ds, e =>
    obtain ⟨hl, h⟩ := hs Ξ Γ ds (sset δ i (some d)) o Ψ δ' e q
    rw [sset_eq] at h
    exact ⟨congrArg (· + 1) hl, wgs_cons (wg_name i h hi hx hfx) he⟩
theorem g_tup {is : List Nat} {kk : Nat} (h : Nms X τ k es is) (hc : X.calm = true := by rfl) (hn : (assignEach es X.env).length = es.length := by rfl) (hst : (assignEach es X.env).findIdx? (·.1) = none := by rfl) : TrG X τ k (.Tuple es kk pos) (gTup is) := .mk fun Ξ Γ d δ o Ψ q => by
  unfold gTup optC at q
  split at q
  · split at q
    · rename_i e
      obtain ⟨hl, h⟩ := h _ Γ _ _ _ _ _ e (force_out q)
      exact wg_tup h hc (hn.trans hl.symm) hst
    · exact q.elim
  · exact q.elim
/-! ### owned objects are written -/
theorem s_fld {f : Str} {apos : Pos} {C : Addr} (i : Nat) (c : Cls X.K C) (na : NoAttr X.K C f) (h : TrE X τ k e ta) (hN : X.N[i]? = some x := by rfl) (hv : Vis X.env.scope x := by first | exact Or.inl rfl | exact Or.inr (Or.inl rfl) | exact Or.inr (Or.inr rfl)) (h1 : (x == ("__debug__" : Str)) = false := by decide) (h2 : (x == ("__classdict__" : Str)) = false := by decide)
    (hs : swapsWith e (some (.Attribute (.Name x p) f apos)) pos.line X.env = pure false := by rfl) : TrS X τ k (.Assign [.Attribute (.Name x p) f apos] e pos) (sFldC C f ta i) := .mk fun Ξ Γ δ o E q =>
  ws_fld ((h.h _ _ _ _ _ q).mono fun d o1 q => by
    obtain ⟨d2, e, q⟩ := slotC.out q
    split at q
    · obtain ⟨fs, q1, q2, q3⟩ := q
      exact we_var i e ⟨_, _, _, rfl, q1, c, na, q2, q3⟩ hN hv h1 h2
    · exact q.elim) hs
/-! raising -/
theorem s_raiseF [Calm X] {C : Addr} {f : Str} {p pos pos2 : Pos} (T : ExcF X.prog X.w X.K X.mg X.base x C f) (h : TrE X τ k e ta) (hj : 2 ≤ k := by decide) (hg : Gl X x := by rfl) (hc : X.calm = true := by rfl) (hdb : (x == ("__debug__" : Str)) = false := by decide)
    (he : starEach (e :: []) X.env = (false, eval e X.env) :: starEach [] X.env := by rfl) (hpl : (backTo pos (starEach [] X.env)).any (·.1) = false := by rfl) :
    TrS X τ k (.Raise (some (.Call (.Name x p) [e] [] pos)) none pos2) (sRaiseF C f ta) := .mk fun Ξ Γ δ o E q => ws_raiseF T (wa_cons ((h.h _ _ _ _ _ q).mono fun d o1 q => wa_nil ⟨d, rfl, q.1, q.2⟩) he) hj hg hc hdb he hpl
/-! match -/
theorem s_match2 (i j' : Nat) {p1 p2 p3 p4 : Pos} {c' : Expr} {b1 b2 : List Stmt} (h : TrE X τ k e ta) (hg : TrT X τ k c' tt) (h1 : TrSs X τ k b1 ts) (h2 : TrSs X τ k b2 tu)
    (hi : X.N[i]? = some x := by rfl) (hx : Loc X.env.scope x := by first | exact Or.inl rfl | exact Or.inr rfl) (hj : X.N[j']? = some y := by rfl) (hy : Loc X.env.scope y := by first | exact Or.inl rfl | exact Or.inr rfl)
    (hfx : X.fn x = true ∨ X.env.scope.names.lookup x = some .local := by first | exact .inl rfl | exact .inr rfl) (hfy : X.fn y = true ∨ X.env.scope.names.lookup y = some .local := by first | exact .inl rfl | exact .inr rfl) (hc : X.calm = true := by rfl) :
    TrS X τ k (.Match e [⟨.MatchSequence [.MatchAs none (some x) p1, .MatchAs none (some y) p2] p3, some c', b1⟩, ⟨.MatchAs none none p4, none, b2⟩] pos) (sMatch2 i j' ta tt ts tu) := .mk fun Ξ Γ δ o E q =>
  ws_match2 i j' ((h.h _ _ _ _ _ q).mono fun d o1 q => by
    unfold match2S at q
    split at q
    · have q := force_out q
      rw [sset_eq, sset_eq] at q
      exact .inl ⟨_, _, rfl, WT.mono (hg.h _ _ _ _ _ q) fun b o2 q => (BR.imp q (fun q => h1.h _ _ _ _ _ q) (fun q => h2.h _ _ _ _ _ q)).ite⟩
    · have q := force_out q
      rw [sset_eq, sset_eq] at q
      exact .inr (.inl ⟨_, _, rfl, WT.mono (hg.h _ _ _ _ _ q) fun b o2 q => (BR.imp q (fun q => h1.h _ _ _ _ _ q) (fun q => h2.h _ _ _ _ _ q)).ite⟩)
    · rename_i ds hne
      refine .inr (.inr (.inl ⟨ds, rfl, fun e => ?_, q.1, h2.h _ _ _ _ _ q.2⟩))
      match ds, e with
      | [a, b], _ => exact hne a b rfl
    all_goals first
      | exact q.elim
      | exact .inr (.inr (.inr ⟨"NoneType", _, rfl, by decide, rfl, rfl, h2.h _ _ _ _ _ q⟩))
      | exact .inr (.inr (.inr ⟨"bool", _, rfl, by decide, rfl, rfl, h2.h _ _ _ _ _ q⟩))
      | exact .inr (.inr (.inr ⟨"int", _, rfl, by decide, rfl, rfl, h2.h _ _ _ _ _ q⟩))
      | exact .inr (.inr (.inr ⟨"str", _, rfl, by decide, rfl, rfl, h2.h _ _ _ _ _ q⟩))) hi hx hj hy hfx hfy hc
/-! ### less is known of the slots -/
def Sub (δw δ : Δ) : Prop := δw.length = δ.length ∧ ∀ (i : Nat) (d : D), δw[i]? = some (some d) → δ[i]? = some (some d)
theorem Sub.refl {δ : Δ} : Sub δ δ := ⟨rfl, fun _ _ h => h⟩
theorem Sub.ok {K : PySem.W.Frag} {H0 H : Hp} {o0 o : O} {σ : L2.St} {δ δw : Δ} (s : Sub δw δ) (ok : Okk K τ H0 o0 σ H δ o) : Okk K τ H0 o0 σ H δw o := ⟨ok.le, ok.own, ok.len.trans s.1.symm, fun i d h => ok.slot i d (s.2 i d h)⟩
theorem Sub.none {δw δ : Δ} (s : Sub δw δ) (i : Nat) : Sub (sset δw i .none) δ := ⟨by rw [sset_eq, List.length_set]; exact s.1, fun i' d h => by
  rw [sset_eq] at h
  by_cases e : i = i'
  · subst e
    rw [List.getElem?_set] at h
    split at h
    · split at h <;> cases h
    · exact s.2 _ _ h
  · rw [List.getElem?_set_ne e] at h
    exact s.2 _ _ h⟩
theorem Sub.back {δw δ : Δ} (s : Sub δw δ) (i : Nat) : Sub (sset δw i (sget δ i)) δ := ⟨by rw [sset_eq, List.length_set]; exact s.1, fun i' d h => by
  rw [sset_eq, sget_eq] at h
  by_cases e : i = i'
  · subst e
    rw [List.getElem?_set] at h
    split at h
    · split at h
      · cases h' : δ[i]? with
        | none => rw [h'] at h; cases h
        | some q => rw [h'] at h; cases q <;> cases h; rfl
      · cases h
    · exact s.2 _ _ h
  · rw [List.getElem?_set_ne e] at h
    exact s.2 _ _ h⟩
theorem Sub.wipe {δ : Δ} : ∀ (vs : List Nat) {δw : Δ}, Sub δw δ → Sub (swipe δw vs) δ
  | [], _, s => s
  | v :: vs, _, s => (Sub.wipe vs s).none v
theorem Sub.put {δ : Δ} : ∀ (cs : List Nat) {δw : Δ}, Sub δw δ → Sub (putBack δw cs (pick δ cs)) δ
  | [], _, s => s
  | i :: cs, δw, s => by
    show Sub (putBack (sset δw i (sget δ i)) cs (pick δ cs)) δ
    exact Sub.put cs (s.back i)
theorem Sub.loop {δ δ0 : Δ} {ms cs : List Nat} (h : swipe δ ms = swipe δ0 ms) : Sub (putBack (swipe δ0 ms) cs (pick δ cs)) δ := by
  rw [← h]
  exact Sub.put cs (Sub.wipe ms .refl)
def Wk (N : Δ → O → Prop) : Δ → O → Prop := fun δ o => ∃ δw, Sub δw δ ∧ N δw o
theorem WS.wk {Ξ : XW} {Γ : Gm X τ k Ξ} {δ : Δ} {o : O} {E : DE} (h : WS Γ st δ o { E with nx := Wk E.nx }) : WS Γ st δ o E := fun σ H ok =>
  cS_mono (h σ H ok) (fun _ _ ⟨_, o', k', l, δw, s, q⟩ => ⟨δw, o', s.ok k', l, q⟩) (fun _ _ q => q) (fun _ _ q => q) fun _ _ q => q
theorem WG.weak {Ξ : XW} {Γ : Gm X τ k Ξ} {d : D} {δ δw : Δ} {o : O} {Ψ : Δ → O → Prop} (s : Sub δw δ) (h : WG Γ e d δw o Ψ) : WG Γ e d δ o Ψ := fun σ H v ok r => h σ H v (s.ok ok) r
theorem forD_of {Ξ : XW} {Γ : Gm X τ k Ξ} {ms cs : List Nat} {ds : List D} {δ : Δ} {o : O} {E : DE} (hg : TrG X τ k e g) (hb : TrSs X τ k body ts) (h : FOR ms cs g ts ds Ξ δ o E) : forD Γ e body { E with nx := Wk E.nx } ds δ o := by
  unfold FOR at h
  obtain ⟨I, h0, hs, hd⟩ := h
  refine forD_inv0 (fun m δ' o' => swipe δ' ms = swipe δ ms ∧ I m (pick δ' cs) o') ⟨rfl, h0⟩ (fun m d δ' o' e ⟨hw, hI⟩ => ?_) (fun δ' o' ⟨hw, hI⟩ => ⟨_, Sub.loop hw, force_out (hd _ _ hI)⟩)
  refine RD.WG.weak (Sub.loop hw) (WG.mono (hg.h _ Γ _ _ _ _ (force_out (hs m d _ o' e hI))) fun δ1 o1 h1 => ?_)
  exact WSs.mono (hb.h _ Γ _ _ _ h1) (fun _ _ q => q) (fun _ _ q => q) (fun _ _ q => ⟨_, .refl, q⟩) (fun _ _ q => q)
/-! ### loops -/
theorem s_forL {tg : Expr} (ms cs : List Nat) (h : TrE X τ k iter ta) (hg : TrG X τ k tg g) (hb : TrSs X τ k body ts) (hc : X.calm = true := by rfl) (hs : ∀ x, foldedSetIterable iter X.env x = pure x := by intro _; rfl) : TrS X τ k (.For tg iter body [] pos) (sForL ms cs g ta ts) := .mk fun Ξ Γ δ o E q =>
  WS.wk (ws_forL ((h.h _ _ _ _ _ q).mono fun d o1 q => by
    unfold seqL at q
    split at q
    · exact ⟨_, rfl, forD_of hg hb q⟩
    · exact q.elim) hc hs)
theorem s_forT {tg : Expr} (ms cs : List Nat) (h : TrE X τ k iter ta) (hg : TrG X τ k tg g) (hb : TrSs X τ k body ts) (hc : X.calm = true := by rfl) (hs : ∀ x, foldedSetIterable iter X.env x = pure x := by intro _; rfl) : TrS X τ k (.For tg iter body [] pos) (sForT ms cs g ta ts) := .mk fun Ξ Γ δ o E q =>
  WS.wk (ws_forT ((h.h _ _ _ _ _ q).mono fun d o1 q => by
    unfold seqT at q
    split at q
    · exact ⟨_, rfl, forD_of hg hb q⟩
    · exact q.elim) hc hs)
theorem s_forR1 {tg : Expr} {rp cp : Pos} (ms cs : List Nat) (hm : GloN X.mg "range") (h : TrA X τ k [a] tas) (hg' : TrG X τ k tg g) (hb : TrSs X τ k body ts) (hg : Gl X "range" := by rfl) (hc : X.calm = true := by rfl)
    (hst : starEach [a] X.env = [(false, eval a X.env)] := by rfl) (hs : ∀ x, foldedSetIterable (.Call (.Name "range" rp) [a] [] cp) X.env x = pure x := by intro _; rfl) : TrS X τ k (.For tg (.Call (.Name "range" rp) [a] [] cp) body [] pos) (sForR1 ms cs g tas ts) := .mk fun Ξ Γ δ o E q =>
  WS.wk (ws_forR1 hm ((h.h _ _ _ _ _ q).mono fun ds o1 ⟨_, q⟩ => by
    unfold rng1 at q
    split at q
    · exact ⟨_, rfl, q.1.1, q.1.2, forD_of hg' hb q.2⟩
    · exact q.elim) hg hc hst hs)
end
end RD
set_option Elab.async false
set_option linter.all false
set_option maxRecDepth 100000
set_option maxHeartbeats 2000000
/-! RD4: comprehensions, dicts, fields, defs. -/
namespace RD
open PySem PySem.Spec PyProof.Rows L2 DL
section
variable {X : Cx} {τ : Tx} {k j n : Nat} {e a b c iter elt : Expr} {es ifs : List Expr} {pos p apos spos py : Pos} {ta tb tc te : RE} {tas : RA} {x y z : Str} {S : DSp} {C : Addr} {m : Str} {st : Stmt} {sts body : List Stmt} {ts tu : RS} {tt : RT} {g : RG} {scope : Scope}
/-! ### comprehensions -/
def TrB (X : Cx) (τ : Tx) (k : Nat) (scope : Scope) (e : Expr) (t : RE) : Prop := ∀ s H C cl fp, TrE (X.blk s H scope (compEnvC scope cl C X.env) fp) τ k e t
def TrBT (X : Cx) (τ : Tx) (k : Nat) (scope : Scope) (e : Expr) (t : RT) : Prop := ∀ s H C cl fp, TrT (X.blk s H scope (compEnvC scope cl C X.env) fp) τ k e t
/-- the turns of a comprehension -/
def TrLc (X : Cx) (τ : Tx) (k : Nat) (scope : Scope) (is : List Nat) (ifs : List Expr) (elt : Expr) (turn : Δ → D → O → (Option D → O → Prop) → Prop) : Prop :=
  ∀ Ξ (Γ : Gm X τ k Ξ) δ0 q Φ ds o, lcQ (turn δ0) q Φ ds o → lcD Γ scope is ifs elt δ0 q Φ ds o
theorem lc_1 {i : Nat} (he : TrB X τ k scope elt te) : TrLc X τ k scope [i] [] elt (turn1 (gName i) te) := fun Ξ Γ δ0 q Φ ds o h => by
  induction ds generalizing o with
  | nil => exact h
  | cons d ds ih =>
    refine ⟨_, rfl, ?_⟩
    unfold BTs
    dsimp only
    rw [if_pos rfl]
    intro s H C cl fp
    have h := force_out h
    rw [sset_eq] at h
    have h : te XN (δ0.set i (some d)) o fun d' o1 => ∃ acc, o1 q = some (.lst acc) ∧ acc.length < sizeLine ∧ lcQ (turn1 (gName i) te δ0) q Φ ds (updO o1 q (.lst (acc ++ [d']))) := h
    exact ((he s H C cl fp).h _ _ _ _ _ h).mono fun d' o2 ⟨acc, h1, h2, h3⟩ => ⟨acc, h1, h2, ih _ h3⟩
theorem lc_1i {i : Nat} (hc : TrBT X τ k scope c tt) (he : TrB X τ k scope elt te) : TrLc X τ k scope [i] [c] elt (turnI (gName i) tt te) := fun Ξ Γ δ0 q Φ ds o h => by
  induction ds generalizing o with
  | nil => exact h
  | cons d ds ih =>
    refine ⟨_, rfl, ?_⟩
    intro s H C cl fp
    have h := force_out h
    rw [sset_eq] at h
    have h : tt XN (δ0.set i (some d)) o fun b o1 => BR b (te XN (δ0.set i (some d)) o1 fun d' o1 => ∃ acc, o1 q = some (.lst acc) ∧ acc.length < sizeLine ∧ lcQ (turnI (gName i) tt te δ0) q Φ ds (updO o1 q (.lst (acc ++ [d'])))) (lcQ (turnI (gName i) tt te δ0) q Φ ds o1) := h
    refine ((hc s H C cl fp).h _ _ _ _ _ h).mono fun b o1 h => (BR.imp h (fun h => ?_) (fun h => ih _ h)).ite
    intro s H C cl fp
    exact ((he s H C cl fp).h _ _ _ _ _ h).mono fun d' o2 ⟨acc, h1, h2, h3⟩ => ⟨acc, h1, h2, ih _ h3⟩
theorem set2 {i j : Nat} {d : D} {δ0 : Δ} {o : O} {Ψ : Δ → O → Prop} (h : gTup [i, j] d δ0 o Ψ) : ∃ δ1, putB [i, j] d δ0 = some δ1 ∧ Ψ δ1 o := by
  unfold gTup optC at h
  split at h
  · rename_i ds
    match ds, h with
    | [d1, d2], h =>
      have h := force_out h
      rw [sset_eq, sset_eq] at h
      exact ⟨_, rfl, h⟩
    | [], h => exact h.elim
    | [_], h => exact h.elim
    | _ :: _ :: _ :: _, h => exact h.elim
  · exact h.elim
theorem lc_2 {i j' : Nat} (he : TrB X τ k scope elt te) : TrLc X τ k scope [i, j'] [] elt (turn1 (gTup [i, j']) te) := fun Ξ Γ δ0 q Φ ds o h => by
  induction ds generalizing o with
  | nil => exact h
  | cons d ds ih =>
    have h : gTup [i, j'] d δ0 o fun δ1 o => te XN δ1 o fun d' o1 => ∃ acc, o1 q = some (.lst acc) ∧ acc.length < sizeLine ∧ lcQ (turn1 (gTup [i, j']) te δ0) q Φ ds (updO o1 q (.lst (acc ++ [d']))) := h
    obtain ⟨δ1, e1, h⟩ := set2 h
    refine ⟨_, e1, ?_⟩
    unfold BTs
    dsimp only
    rw [if_pos rfl]
    intro s H C cl fp
    exact ((he s H C cl fp).h _ _ _ _ _ h).mono fun d' o2 ⟨acc, h1, h2, h3⟩ => ⟨acc, h1, h2, ih _ h3⟩
theorem lcOut {Ξ : XW} {Γ : Gm X τ k Ξ} {is vs : List Nat} {turn : Δ → D → O → (Option D → O → Prop) → Prop} (hl : TrLc X τ k scope is ifs elt turn) {δ : Δ} {ds : List D} {o : O} {Φ : D → O → Prop} (h : force (swipe δ vs) fun δ0 => LC (turn δ0) ds o Φ) (q : Addr) (hq : o q = none) : lcD Γ scope is ifs elt (wipeD δ vs) q (lcEnd q Φ) ds (updO o q (.lst [])) := by
  have h := force_out h
  rw [swipe_eq] at h
  exact hl _ Γ _ _ _ _ _ (LC.out h q hq)
theorem t_lcL1 (i : Nat) {x : Str} {tp : Pos} (ok0 : BlkOk X.N X.env.scope scope [(x, i)]) (h : TrE X τ k iter ta) {turn : Δ → D → O → (Option D → O → Prop) → Prop} (hl : TrLc X τ k scope [i] ifs elt turn) (hi : X.N[i]? = some x := by rfl) (hx : scope.names.lookup x = some .local := by rfl) (hif : ifs.length ≤ 1 := by decide) (hc : X.calm = true := by rfl) (hs : ∀ x, foldedSetIterable iter X.env x = pure x := by intro _; rfl) : TrE X τ k (.ListComp elt [⟨.Name x tp, iter, ifs, 0⟩] scope pos) (rLcL [i] turn ta) := .mk fun Ξ Γ δ o Φ q => we_lcL1 i ok0 ((h.h _ _ _ _ _ q).mono fun d o1 q => by
    unfold seqL at q
    split at q
    · exact ⟨_, rfl, fun q0 h0 => lcOut hl q q0 h0⟩
    · exact q.elim) hi hx hif hc hs
theorem s_lcL1 (n : Nat) (i : Nat) {x : Str} {tp : Pos} (ok0 : BlkOk X.N X.env.scope scope [(x, i)]) (h : TrE X τ k iter ta) {turn : Δ → D → O → (Option D → O → Prop) → Prop} (hl : TrLc X τ k scope [i] ifs elt turn) (hi : X.N[i]? = some x := by rfl) (hx : scope.names.lookup x = some .local := by rfl) (hif : ifs.length ≤ 1 := by decide) (hc : X.calm = true := by rfl) (hs : ∀ x, foldedSetIterable iter X.env x = pure x := by intro _; rfl) (hy : X.N[n]? = some y := by rfl) (hyl : X.env.scope.names.lookup y = some .local := by rfl) (hsw : swapsWith (.ListComp elt [⟨.Name x tp, iter, ifs, 0⟩] scope pos) (some (.Name y py)) spos.line X.env = pure true := by exact sw_true rfl rfl rfl (by decide +kernel)) : TrS X τ k (.Assign [.Name y py] (.ListComp elt [⟨.Name x tp, iter, ifs, 0⟩] scope pos) spos) (sSet n (rLcL [i] turn ta)) := .mk fun Ξ Γ δ o E q => by
  replace q : rLcL [i] turn ta Ξ δ o (fun d o1 => E.nx (δ.set n (some d)) o1) := by
    unfold sSet at q
    simp only [force_eq, sset_eq] at q
    exact q
  exact ws_lcL1 n i ok0 ((h.h _ _ _ _ _ q).mono fun d o1 q => by
    unfold seqL at q
    split at q
    · exact ⟨_, rfl, fun q0 h0 => lcOut hl q q0 h0⟩
    · exact q.elim) hi hx hif hc hs hy hyl hsw
theorem t_lcT1 (i : Nat) {x : Str} {tp : Pos} (ok0 : BlkOk X.N X.env.scope scope [(x, i)]) (h : TrE X τ k iter ta) {turn : Δ → D → O → (Option D → O → Prop) → Prop} (hl : TrLc X τ k scope [i] ifs elt turn) (hi : X.N[i]? = some x := by rfl) (hx : scope.names.lookup x = some .local := by rfl) (hif : ifs.length ≤ 1 := by decide) (hc : X.calm = true := by rfl) (hs : ∀ x, foldedSetIterable iter X.env x = pure x := by intro _; rfl) : TrE X τ k (.ListComp elt [⟨.Name x tp, iter, ifs, 0⟩] scope pos) (rLcT [i] turn ta) := .mk fun Ξ Γ δ o Φ q => we_lcT1 i ok0 ((h.h _ _ _ _ _ q).mono fun d o1 q => by
    unfold seqT at q
    split at q
    · exact ⟨_, rfl, fun q0 h0 => lcOut hl q q0 h0⟩
    · exact q.elim) hi hx hif hc hs
theorem t_lcR1 (i : Nat) {x : Str} {tp : Pos} {rp cp : Pos} (hm : GloN X.mg "range") (ok0 : BlkOk X.N X.env.scope scope [(x, i)]) (h : TrA X τ k [a] tas) {turn : Δ → D → O → (Option D → O → Prop) → Prop} (hl : TrLc X τ k scope [i] ifs elt turn) (hi : X.N[i]? = some x := by rfl) (hx : scope.names.lookup x = some .local := by rfl) (hgr : Gl X "range" := by rfl) (hst : starEach [a] X.env = [(false, eval a X.env)] := by rfl) (hif : ifs.length ≤ 1 := by decide) (hc : X.calm = true := by rfl) (hs : ∀ x, foldedSetIterable (.Call (.Name "range" rp) [a] [] cp) X.env x = pure x := by intro _; rfl) : TrE X τ k (.ListComp elt [⟨.Name x tp, (.Call (.Name "range" rp) [a] [] cp), ifs, 0⟩] scope pos) (rLcR1 [i] turn tas) := .mk fun Ξ Γ δ o Φ q => we_lcR1 i hm ok0 ((h.h _ _ _ _ _ q).mono fun ds o1 ⟨_, q⟩ => by
    unfold rng1 at q
    split at q
    · exact ⟨_, rfl, q.1.1, q.1.2, fun q0 h0 => lcOut hl q.2 q0 h0⟩
    · exact q.elim) hi hx hgr hst hif hc hs
theorem t_lcT2 (i j : Nat) {x x2 : Str} {tp tp2 tpt : Pos} {kt : Nat} (ok0 : BlkOk X.N X.env.scope scope [(x, i), (x2, j)]) (h : TrE X τ k iter ta) {turn : Δ → D → O → (Option D → O → Prop) → Prop} (hl : TrLc X τ k scope [i, j] ifs elt turn) (hi : X.N[i]? = some x := by rfl) (hx : scope.names.lookup x = some .local := by rfl) (hi2 : X.N[j]? = some x2 := by rfl) (hx2 : scope.names.lookup x2 = some .local := by rfl) (hc2 : ∀ env : Env, (assignEach [.Name x tp, .Name x2 tp2] env).length = 2 := by intro _; rfl) (hif : ifs.length ≤ 1 := by decide) (hc : X.calm = true := by rfl) (hs : ∀ x, foldedSetIterable iter X.env x = pure x := by intro _; rfl) : TrE X τ k (.ListComp elt [⟨.Tuple [.Name x tp, .Name x2 tp2] kt tpt, iter, ifs, 0⟩] scope pos) (rLcT [i, j] turn ta) := .mk fun Ξ Γ δ o Φ q => we_lcT2 i j ok0 ((h.h _ _ _ _ _ q).mono fun d o1 q => by
    unfold seqT at q
    split at q
    · exact ⟨_, rfl, fun q0 h0 => lcOut hl q q0 h0⟩
    · exact q.elim) hi hx hi2 hx2 hc2 hif hc hs
/-! ### dicts -/
def rDnew : RE := fun _ _ o Φ => ∀ q, o q = none → Φ (.ref q) (updO o q (.dct []))
theorem t_dnew : TrE X τ k (.Dict [] [] pos) rDnew := .mk fun Ξ Γ δ o Φ q => we_dnew q
/-- a key of a dict that is not owned, of one that is -/
def dctC (o : O) (d : D) (f : List (Key × D) → Prop) : Prop := match d with
  | .dct kvs => f kvs
  | .ref q => ∃ kvs, o q = some (.dct kvs) ∧ f kvs
  | _ => False
theorem dctC.out {o : O} {d : D} {f : List (Key × D) → Prop} (h : dctC o d f) : ∃ kvs, dctOf o d = some kvs ∧ f kvs := by
  unfold dctC at h
  split at h
  · exact ⟨_, rfl, h⟩
  · obtain ⟨kvs, h1, h2⟩ := h
    exact ⟨kvs, by simp only [dctOf, h1], h2⟩
  · exact h.elim
def rDget (a b : RE) : RE := fun Ξ δ o Φ => a Ξ δ o fun d1 o1 => b Ξ δ o1 fun d2 o2 => dctC o2 d1 fun kvs => optC (keyD d2) fun kk => ∃ d, valD kvs kk = some d ∧ Φ d o2
theorem t_dget (ha : TrE X τ k a ta) (hb : TrE X τ k b tb) (hs : NoSl b := by exact fun _ _ => rfl) : TrE X τ k (.Subscript a b pos) (rDget ta tb) := .mk fun Ξ Γ δ o Φ q =>
  we_dget ((ha.h _ _ _ _ _ q).mono fun d1 o1 q => (hb.h _ _ _ _ _ q).mono fun d2 o2 q => by
    obtain ⟨kvs, h1, h2⟩ := dctC.out q
    unfold optC at h2
    split at h2
    · rename_i kk e
      obtain ⟨d, h3, h4⟩ := h2
      exact ⟨kvs, kk, d, h1, e, h3, h4⟩
    · exact h2.elim) hs
def rDin (b a : RE) : RE := fun Ξ δ o Φ => b Ξ δ o fun d2 o1 => a Ξ δ o1 fun d1 o2 => dctC o2 d1 fun kvs => optC (keyD d2) fun kk => Φ (.bl (valD kvs kk).isSome) o2
theorem c_din (hb : TrE X τ k b tb) (ha : TrE X τ k a ta) : TrC X τ k .In b a (rDin tb ta) := .mk fun Ξ Γ δ o Φ q =>
  wc_din ((hb.h _ _ _ _ _ q).mono fun d1 o1 q => (ha.h _ _ _ _ _ q).mono fun d2 o2 q => by
    obtain ⟨kvs, h1, h2⟩ := dctC.out q
    unfold optC at h2
    split at h2
    · rename_i kk e
      exact ⟨kvs, kk, h1, e, h2⟩
    · exact h2.elim)
def sDput (e a b : RE) : RS := fun Ξ δ o E => e Ξ δ o fun d o1 => a Ξ δ o1 fun d1 o2 => b Ξ δ o2 fun d2 o3 => (match d1 with | .ref q => ∃ kvs, o3 q = some (.dct kvs) ∧ kvs.length < sizeLine ∧ optC (keyD d2) fun kk => E.nx δ (updO o3 q (.dct (storeD kvs kk d))) | _ => False)
theorem s_dput (he : TrE X τ k e te) (ha : TrE X τ k a ta) (hb : TrE X τ k b tb) (hs : swapsWith e (some (.Subscript a b spos)) pos.line X.env = pure false := by rfl) : TrS X τ k (.Assign [.Subscript a b spos] e pos) (sDput te ta tb) := .mk fun Ξ Γ δ o E q =>
  ws_dput ((he.h _ _ _ _ _ q).mono fun d o1 q => (ha.h _ _ _ _ _ q).mono fun d1 o2 q => (hb.h _ _ _ _ _ q).mono fun d2 o3 q => by
    split at q
    · obtain ⟨kvs, h1, h2, h3⟩ := q
      unfold optC at h3
      split at h3
      · rename_i kk e
        exact ⟨_, kvs, kk, rfl, h1, e, h2, h3⟩
      · exact h3.elim
    · exact q.elim) hs
/-! ### what is owned is written no more -/
def sFrz (i : Nat) (t : RS) : RS := fun Ξ δ o E => ∃ q o' ds, sget δ i = some (.ref q) ∧ o = updO o' q (.lst ds) ∧ o' q = none ∧ force (sset δ i (some (.lst ds))) fun δ1 => t Ξ δ1 o' E
def sFrzD (i : Nat) (t : RS) : RS := fun Ξ δ o E => ∃ q o' ds, sget δ i = some (.ref q) ∧ o = updO o' q (.dct ds) ∧ o' q = none ∧ force (sset δ i (some (.dct ds))) fun δ1 => t Ξ δ1 o' E
theorem ss_frz (i : Nat) (h : TrSs X τ k sts ts) : TrSs X τ k sts (sFrz i ts) := .mk fun Ξ Γ δ o E ⟨q, o', ds, h1, h2, h3, h4⟩ => by
  subst h2
  have h4 := force_out h4
  rw [sset_eq] at h4
  exact wss_freeze i h3 (sget_some h1) (h.h _ _ _ _ _ h4)
theorem ss_frzD (i : Nat) (h : TrSs X τ k sts ts) : TrSs X τ k sts (sFrzD i ts) := .mk fun Ξ Γ δ o E ⟨q, o', ds, h1, h2, h3, h4⟩ => by
  subst h2
  have h4 := force_out h4
  rw [sset_eq] at h4
  exact wss_freezeD i h3 (sget_some h1) (h.h _ _ _ _ _ h4)
/-! ### defs -/
/-- what is to be shown of a body: nn: how many slots -/
def BODY (nn : Nat) (t : RS) (S : DSp) : Prop := ∀ (ds : List D) (o : O) (Φ : D → O → Prop) (Ξ : DX → O → Prop), S ds o Φ Ξ → force (ds.map some ++ List.replicate (nn - ds.length) none) fun δ => t (fun x _ o' => Ξ x o') δ o { nx := fun _ o' => Φ .non o', rt := Φ }
end
section
variable {P : Program} {w : World} {K : PySem.W.Frag} {mg : Str → Option Value} {base : Heap} {τ : Tx}
/-- THE RULE for a def -/
theorem fnR {x qual : Str} {st : Stmt} {f : Addr} {fd : FuncData} {N ps : List Str} {k : Nat} {S : DSp} {t : RS} (F : Fun K x qual st f fd) (sc : FnScope N ps (defScope st))
    (tr : ∀ (cdv : Value) (A : Around) (outer : List Env) (s : Shared) (H : Hp) (E : XK), TrSs (cxOf (L2N.CX P w) P w K mg base N qual (defScope st) f cdv A outer s H E) τ k (defBody st) t)
    (h : BODY N.length t S) : FnOk P w K mg base (L2N.CX P w) (k + 1) f fd ps (spD K τ ps.length S) :=
  fnD F sc fun cdv A outer s H E Ξ Γ ds o Φ _ hS => (tr cdv A outer s H E).h _ Γ _ _ _ (force_out (h ds o Φ Ξ hS))
end
end RD
set_option Elab.async false
set_option linter.all false
set_option maxRecDepth 100000
set_option maxHeartbeats 2000000
/-! DL21: t[::-1] of a tuple. -/
namespace DL
open PySem PySem.Spec PyProof.Rows L2
section
variable {prog : Program} {w : World} {A : Around} {E : Value → Shared → Prop} {s : Shared}
theorem adjust_back (n : Nat) : Builtin.Slice.sliceAdjust none none (-1) (n : Int) = ((n : Int) - 1, -1) := by
  unfold Builtin.Slice.sliceAdjust
  simp
theorem places_back (n : Nat) : Builtin.Slice.slicePlaces ((n : Int) - 1) (-1) (-1) = n := by
  unfold Builtin.Slice.slicePlaces
  have h1 : ¬ ((-1 : Int) > 0) := by decide
  rw [if_neg h1]
  split
  · rw [show (-(-1) : Int) = 1 by decide, Int.ediv_one]; omega
  · omega
theorem pick_back (xs : Array Value) : ((List.range xs.size).filterMap fun (k : Nat) => xs[((xs.size : Int) - 1 + (k : Int) * (-1)).toNat]?).toArray = xs.toList.reverse.toArray := by
  congr 1
  have e : (List.range xs.size).filterMap (fun (k : Nat) => xs[((xs.size : Int) - 1 + (k : Int) * (-1)).toNat]?) = ((List.range xs.size).map fun k => xs.size - 1 - k).filterMap (xs[·]?) := by
    rw [List.filterMap_map]
    congr 1
    funext k
    have : ((xs.size : Int) - 1 + (k : Int) * (-1)).toNat = xs.size - 1 - k := by omega
    show xs[((xs.size : Int) - 1 + (k : Int) * (-1)).toNat]? = xs[xs.size - 1 - k]?
    rw [this]
  rw [e, PySem.W.krv_range, List.filterMap_reverse, PySem.W.krv_all]
theorem applied_back {sl : Addr} {n : Nat} {vs : Value} {Q : Int × Int × Nat → Shared → Prop} (hs : s.heap.IsSliceOf sl .none .none vs) (hv : IsPart vs (some (-1))) (h : Q ((n : Int) - 1, -1, n) s) :
    wpAny (model prog w) A (Builtin.Slice.sliceApplied (.ref sl) (pure (n : Int))) Q E s := by
  obtain ⟨os, hos, hcs, hds⟩ := id hs
  obtain ⟨u, rfl⟩ : ∃ u, vs = .int (-1) u := by
    cases hv with
    | int => exact ⟨_, rfl⟩
  unfold Builtin.Slice.sliceApplied Builtin.Slice.sliceFields
  refine wpAny_bind (wpAny_bind (wpAny_field hos hds (x := .none) rfl (wpAny_bind (wpAny_field hos hds (x := .none) rfl (wpAny_bind (wpAny_field hos hds (x := .int (-1) u) rfl (wpAny_pure ?_)))))))
  refine wpAny_bind (slicePart_int ?_)
  show wpAny _ _ (if ((-1 : Int) == 0) = true then _ else _) _ _ s
  rw [if_neg (by decide)]
  refine wpAny_bind (slicePart_none (wpAny_bind (slicePart_none (wpAny_bind (wpAny_pure ?_)))))
  show wpAny _ _ (match Builtin.Slice.sliceAdjust none none (-1) (n : Int) with | (lo, hi) => pure (lo, (-1 : Int), Builtin.Slice.slicePlaces lo hi (-1))) _ _ s
  rw [adjust_back n]
  show wpAny _ _ (pure ((n : Int) - 1, (-1 : Int), Builtin.Slice.slicePlaces ((n : Int) - 1) (-1) (-1))) _ _ s
  rw [places_back n]
  exact wpAny_pure h
theorem getItem_tuple_back {t sl : Addr} {items : Array Value} {vs : Value} {Q : Value → Shared → Prop} (ht : IsTup s.heap t items) (hs : s.heap.IsSliceOf sl .none .none vs) (hv : IsPart vs (some (-1)))
    (h : Q (.ref s.heap.objs.size) { s with heap := s.heap.push { cls := .type "tuple", data := .seq items.toList.reverse.toArray } })
    (hsz : items.size ≤ sizeLine) : wpAny (model prog w) A (getItem (.ref t) (.ref sl)) Q E s := by
  have hdrop : sizeOk (.seq items.toList.reverse.toArray) := by
    show items.toList.reverse.toArray.size ≤ sizeLine
    rw [List.size_toArray, List.length_reverse, Array.length_toList]
    exact hsz
  obtain ⟨os, hos, hcs, hds⟩ := id hs
  have hTs : s.TypeIs (.ref sl) "slice" := ⟨os, hos, hcs⟩
  unfold getItem
  try with_reducible refine wpAny_holding ?_
  first | refine wpAny_bind (wpAny_pure ?_) | skip
  refine wpAny_bind (wpAny_sequenceKey ht.typeIs (by decide) ?_)
  refine wpAny_bind (wpAny_callSpecial?_slot (name := Str.ofString "__getitem__") ht.typeIs slot_tuple_getitem
    (wpAny_call_entry slot_tuple_getitem ht.typeIs entry_tuple_getitem ?_ (args_tuple_getitem _ _)))
  show wpAny _ _ (Builtin.Tuple.tupleItemsOf (.ref t) >>= _) _ _ s
  refine wpAny_bind (tupleItemsOf_ ht ?_)
  refine wpAny_bind (wpAny_typeOf hTs ?_)
  rw [if_pos (by decide)]
  refine wpAny_bind (applied_back hs hv ?_)
  have hno : ¬ ((((items.size : Int) - 1) == 0 && (-1 : Int) == 1 && items.size == items.size) = true) := by
    rw [show ((-1 : Int) == 1) = false from rfl]; simp
  show wpAny _ _ (if (((items.size : Int) - 1) == 0 && (-1 : Int) == 1 && items.size == items.size) = true then _ else _) _ _ s
  rw [if_neg hno, pick_back items]
  first
    | exact wpAny_bind (m := Builtin.Tuple.tupleExact _) (wpAny_newObj_type (wpAny_pure ⟨_, rfl, wpAny_pure h⟩) hdrop)
    | exact wpAny_bind (m := Builtin.Tuple.tupleExact _) (wpAny_newObj_type (wpAny_bind (wpAny_pure (wpAny_pure ⟨_, rfl, wpAny_pure h⟩))) hdrop)
    | exact wpAny_bind (wpAny_bind (m := Builtin.Tuple.tupleExact _) (wpAny_newObj_type (wpAny_pure (wpAny_pure ⟨_, rfl, wpAny_pure h⟩)) hdrop))
    | exact wpAny_bind (wpAny_bind (m := Builtin.Tuple.tupleExact _) (wpAny_newObj_type (wpAny_pure ⟨_, rfl, wpAny_pure h⟩) hdrop))
end
section
variable {X : Cx}
def tRevT (K : PySem.W.Frag) (te : TE) : TE := fun σ H Q => te σ H fun x H1 => ∃ a xs, x = .ref a ∧ SqT K H1 a xs ∧ ∀ p, H1 p = none → Q (.ref p) (upd H1 p (.tup xs.reverse))
theorem pe_revT {e : Expr} {te : TE} {k : Nat} {p1 p2 p3 pos : Pos} (he : PE X e te) : PE X (.Subscript e (.Slice none none (some (.UnaryOp .USub (.Constant (.int 1) k p1) p2)) p3) pos) (tRevT X.K te) := by
  refine ⟨fun pins s σ H Q I h => ?_⟩
  refine Subscript_ (thn (he.run pins s σ H _ I h) fun v s1 ⟨x, H1, I1, r1, q1⟩ => ?_)
  obtain ⟨a, xs, ex, hx, q⟩ := q1
  subst ex
  cases r1
  have hst : PO X (some (.UnaryOp .USub (.Constant (.int 1) k p1) p2)) (tPart (tUn (rU fun i => .int (-i)) (tC (.int 1)))) := po_some (pe_un un_neg pe_int)
  refine wpAny_Slice (thn (po_none.run pins s1 σ H1 (fun o H2 => o = none ∧ H2 = H1) I1 ⟨rfl, rfl⟩) fun vl s2 ⟨l, H2, I2, pl, el, e2⟩ => ?_)
  subst el e2
  refine thn (po_none.run pins s2 σ H2 (fun o H3 => o = none ∧ H3 = H2) I2 ⟨rfl, rfl⟩) fun vu s3 ⟨u, H3, I3, pu, eu, e3⟩ => ?_
  subst eu e3
  refine thn (hst.run pins s3 σ H3 (fun o H4 => o = some (-1) ∧ H4 = H3) I3 ⟨1, rfl, -1, rfl, rfl, rfl⟩) fun vs s4 ⟨o, H4, I4, ps, eo, e4⟩ => ?_
  subst eo e4
  have I5 : Inv X pins σ H4 { s4 with heap := s4.heap.push { cls := .type "slice", data := .fields #[vl, vu, vs] } } := I4.kept (t' := s4.toks) fun b ob q => Heap.get?_push_of_some _ q
  obtain ⟨its, r, ht, hz⟩ := I5.tuple hx
  have hlen := r.length
  cases pl
  cases pu
  show wpAny (model X.prog X.w) X.A (subscriptTail e (.Slice none none (some (.UnaryOp .USub (.Constant (.int 1) k p1) p2)) p3) (.ref a) (.ref s4.heap.objs.size)) (EP X pins σ Q) X.xe { s4 with heap := s4.heap.push { cls := .type "slice", data := .fields #[.none, .none, vs] } }
  refine tail_any (ops := [.ref a, .ref s4.heap.objs.size]) ht.typeIs slot_tuple_getitem.lookup ?_ (by with_unfolding_all rfl)
  refine getItem_tuple_back ht (Heap.IsSliceOf.new _ .none .none vs) ps ?_ (by rw [List.size_toArray]; omega)
  refine ⟨.ref _, _, I5.laid (t' := s4.toks) (o := .tup xs.reverse) (fun b ob q => Heap.get?_push_of_some _ q) (Nat.le_refl _) ?_, rfl, q _ (I5.hok.fresh (Nat.le_refl _))⟩
  exact ⟨by rw [List.length_reverse]; exact hz, _, r.reverse, ⟨_, Heap.get?_push_size _ rfl, rfl, _, rfl⟩⟩
end
end DL
set_option Elab.async false
set_option linter.all false
set_option maxRecDepth 100000
set_option maxHeartbeats 2000000
/-! RD5: slices, in, append, conversions, sums. -/
namespace DL
open PySem PySem.Spec PyProof.Rows L2
section
variable {K : PySem.W.Frag} {τ : Tx} {H : Hp} {o : O}
theorem Rs.drop_ {vs : List V} {ds : List D} (r : Rs K τ H o vs ds) : ∀ n : Nat, Rs K τ H o (vs.drop n) (ds.drop n) := by
  intro n
  induction n generalizing vs ds with
  | zero => exact r
  | succ n ih => cases r with
    | nil => exact .nil
    | cons h r => exact ih r
theorem Rs.take_ {vs : List V} {ds : List D} (r : Rs K τ H o vs ds) : ∀ n : Nat, Rs K τ H o (vs.take n) (ds.take n) := by
  intro n
  induction n generalizing vs ds with
  | zero => exact .nil
  | succ n ih => cases r with
    | nil => exact .nil
    | cons h r => exact .cons h (ih r)
theorem Rs.reverse_ {vs : List V} {ds : List D} (r : Rs K τ H o vs ds) : Rs K τ H o vs.reverse ds.reverse := by
  induction vs generalizing ds with
  | nil => cases r; exact .nil
  | cons v vs ih => cases r with
    | cons h r => rw [List.reverse_cons, List.reverse_cons]; exact (ih r).append (.cons h .nil)
theorem Rs.strs : ∀ {vs : List V} {ns : List Str}, Rs K τ H o vs (ns.map D.str) → vs = ns.map V.str
  | _, [], .nil => rfl
  | _, n :: ns, .cons h r => by cases h; rw [Rs.strs r]; rfl
theorem Rs.bls : ∀ {vs : List V} {ns : List Bool}, Rs K τ H o vs (ns.map D.bl) → vs = ns.map V.bl
  | _, [], .nil => rfl
  | _, n :: ns, .cons h r => by cases h; rw [Rs.bls r]; rfl
end
/-- the items of xs[lo:hi] -/
def cutD (xs : List D) (lo hi : Option Int) : List D := (xs.drop (HT.sIx xs.length 0 lo)).take (HT.sIx xs.length xs.length hi - HT.sIx xs.length 0 lo)
theorem Rs.cut {K : PySem.W.Frag} {τ : Tx} {H : Hp} {o : O} {vs : List V} {ds : List D} (r : Rs K τ H o vs ds) (lo hi : Option Int) : Rs K τ H o (cutV vs lo hi) (cutD ds lo hi) := by
  unfold cutV cutD
  rw [r.length]
  exact (r.drop_ _).take_ _
end DL
namespace RD
open PySem PySem.Spec PyProof.Rows L2 DL
abbrev RO := XW → Δ → O → (Option Int → O → Prop) → Prop
def oR (X : Cx) : Option Expr → TO
  | none => tNoPart
  | some e => tPart (cE X e)
def TrO (X : Cx) (τ : Tx) (k : Nat) (x : Option Expr) (t : RO) : Prop := ∀ Ξ (Γ : Gm X τ k Ξ) δ o Ψ σ H, Okk X.K τ Γ.H0 Γ.o0 σ H δ o → t Ξ δ o Ψ → oR X x σ H fun i H' => ∃ o', Own X.K τ H' o' ∧ Le H o H' o' ∧ Ψ i o'
def rONone : RO := fun _ _ o Ψ => Ψ none o
def rOSome (a : RE) : RO := fun Ξ δ o Ψ => a Ξ δ o fun d o1 => asI d fun i => Ψ (some i) o1
section
variable {X : Cx} {τ : Tx} {k j n : Nat} {e a b c : Expr} {es : List Expr} {pos p p1 p2 p3 apos cpos : Pos} {ta tb tc te : RE} {tas : RA} {x : Str} {lo hi : Option Expr} {tl th : RO}
theorem po_c : ∀ {x : Option Expr}, PO X x (oR X x)
  | none => po_none
  | some _ => po_some pe_c
theorem o_none : TrO X τ k none rONone := fun Ξ Γ δ o Ψ σ H ok h => ⟨o, ok.own, Le.refl, h⟩
theorem o_some (ha : TrE X τ k a ta) : TrO X τ k (some a) (rOSome ta) := fun Ξ Γ δ o Ψ σ H ok h =>
  cE_mono (ha.h _ Γ _ _ _ h σ H ok) fun v H1 ⟨d, o1, w, l, r, h⟩ => by
    cases d <;> first | exact h.elim | skip
    cases r
    exact ⟨_, rfl, o1, w, l, h⟩
/-- x[lo:hi] of a list, of a tuple -/
def rSliceL (a : RE) (lo hi : RO) : RE := fun Ξ δ o Φ => a Ξ δ o fun d o1 => lo Ξ δ o1 fun l o2 => hi Ξ δ o2 fun h o3 => (match d with | .lst ds => Φ (.lst (cutD ds l h)) o3 | _ => False)
theorem t_sliceL (ha : TrE X τ k a ta) (hl : TrO X τ k lo tl) (hh : TrO X τ k hi th) : TrE X τ k (.Subscript a (.Slice lo hi none p2) pos) (rSliceL ta tl th) := .mk fun Ξ Γ δ o Φ q σ H ok => by
  refine cE_of (pe_slice sl_list pe_c po_c po_c) ?_
  refine cE_mono (ha.h _ Γ _ _ _ q σ H ok) fun v H1 ⟨d, o1, w1, l1, r1, q⟩ => ?_
  have z := hl _ Γ _ _ _ σ H1 (ok.step l1 w1) q
  have mono : ∀ {x : Option Expr} {σ H} {P Q : Option Int → Hp → Prop}, oR X x σ H P → (∀ i H', P i H' → Q i H') → oR X x σ H Q := by
    intro x σ H P Q h k
    cases x with
    | none => exact k _ _ h
    | some e => exact cE_mono h fun v H' ⟨i, e, h⟩ => ⟨i, e, k _ _ h⟩
  refine mono z fun i H2 ⟨o2, w2, l2, q⟩ => ?_
  have z := hh _ Γ _ _ _ σ H2 ((ok.step l1 w1).step l2 w2) q
  refine mono z fun i' H3 ⟨o3, w3, l3, q⟩ => ?_
  cases d <;> first | exact q.elim | skip
  have r := r1.mono (l2.trans l3)
  cases r with
  | @lst p vs _ hp hn rs => exact ⟨p, vs, rfl, .of hp, fun q' hq' => (newL w3 hq' (rs.cut i i') q).le ((l1.trans l2).trans l3)⟩
def rRevL (a : RE) : RE := fun Ξ δ o Φ => a Ξ δ o fun d o1 => (match d with | .lst ds => Φ (.lst ds.reverse) o1 | _ => False)
def rRevT (a : RE) : RE := fun Ξ δ o Φ => a Ξ δ o fun d o1 => (match d with | .tup ds => Φ (.tup ds.reverse) o1 | _ => False)
theorem t_revL {kk : Nat} (ha : TrE X τ k a ta) : TrE X τ k (.Subscript a (.Slice none none (some (.UnaryOp .USub (.Constant (.int 1) kk p1) p2)) p3) pos) (rRevL ta) := .mk fun Ξ Γ δ o Φ q σ H ok => by
  refine cE_of (pe_revL pe_c) (cE_mono (ha.h _ Γ _ _ _ q σ H ok) fun v H1 ⟨d, o1, w, l, r, q⟩ => ?_)
  cases d <;> first | exact q.elim | skip
  cases r with
  | @lst p vs _ hp hn rs => exact ⟨p, vs, rfl, .of hp, fun q' hq' => (newL w hq' rs.reverse_ q).le l⟩
theorem t_revT {kk : Nat} (ha : TrE X τ k a ta) : TrE X τ k (.Subscript a (.Slice none none (some (.UnaryOp .USub (.Constant (.int 1) kk p1) p2)) p3) pos) (rRevT ta) := .mk fun Ξ Γ δ o Φ q σ H ok => by
  refine cE_of (pe_revT pe_c) (cE_mono (ha.h _ Γ _ _ _ q σ H ok) fun v H1 ⟨d, o1, w, l, r, q⟩ => ?_)
  cases d <;> first | exact q.elim | skip
  cases r with
  | @tup p vs _ hp rs => exact ⟨p, vs, rfl, hp.to, fun q' hq' => (newT w hq' rs.reverse_ q).le l⟩
/-! ### in -/
/-- a sign in a text -/
def inSignS (d1 d2 : D) (o : O) (Φ : D → O → Prop) : Prop := match d1, d2 with
  | .str x, .str z => ∃ c : Nat, x = ⟨#[c]⟩ ∧ Φ (.bl (decide (c ∈ z.cps.toList))) o
  | _, _ => False
theorem c_inSign (ha : TrE X τ k a ta) (hb : TrE X τ k b tb) : TrC X τ k .In a b (r2 inSignS ta tb) := .mk fun Ξ Γ δ o Φ q =>
  wc_R op_in_sign (fun H o x y d1 d2 Φ Q r1 r2 w s k => by
    unfold inSignS at s
    split at s
    · obtain ⟨c, e, s⟩ := s
      subst e
      cases r1; cases r2; exact ⟨_, _, rfl, rfl, k _ _ (.here w (.bl _) s)⟩
    · exact s.elim) ((ha.h _ _ _ _ _ q).mono fun _ _ q => hb.h _ _ _ _ _ q)
/-- a text in a list, a tuple of texts -/
def inStrsS (neg : Bool) (d1 d2 : D) (o : O) (Φ : D → O → Prop) : Prop := match d1, d2 with
  | .str x, .lst ds => ∃ xs : List Str, ds = xs.map D.str ∧ Φ (.bl (if neg then !decide (x ∈ xs) else decide (x ∈ xs))) o
  | .str x, .tup ds => ∃ xs : List Str, ds = xs.map D.str ∧ Φ (.bl (if neg then !decide (x ∈ xs) else decide (x ∈ xs))) o
  | _, _ => False
theorem inV_strs (x : Str) (xs : List Str) : inV (.str x) (xs.map V.str) = decide (x ∈ xs) := by
  unfold inV
  induction xs with
  | nil => rfl
  | cons y ys ih =>
    rw [List.map_cons, List.any_cons, ih]
    show ((y == x) || decide (x ∈ ys)) = decide (x ∈ y :: ys)
    by_cases h : y = x
    · subst h; simp
    · have h' : ¬ x = y := fun e => h e.symm
      simp [h, h']
theorem flat_strs (xs : List Str) : (xs.map V.str).all flatV = true := by simp [flatV]
theorem op2_inStrs (neg : Bool) : Op2 X τ (rIn X.K neg) (inStrsS neg) := fun H o x y d1 d2 Φ Q r1 r2 w s k => by
  unfold inStrsS at s
  split at s
  · obtain ⟨xs, e, s⟩ := s
    subst e
    cases r1
    cases r2 with
    | @lst p vs _ hp hn rs =>
      rw [rs.strs] at hp
      refine ⟨p, _, rfl, .inl (.of hp), rfl, flat_strs _, ?_⟩
      rw [inV_strs]
      exact k _ _ (.here w (.bl _) s)
  · obtain ⟨xs, e, s⟩ := s
    subst e
    cases r1
    cases r2 with
    | @tup p vs _ hp rs =>
      rw [rs.strs] at hp
      refine ⟨p, _, rfl, .inr hp.to, rfl, flat_strs _, ?_⟩
      rw [inV_strs]
      exact k _ _ (.here w (.bl _) s)
  · exact s.elim
theorem c_in (ha : TrE X τ k a ta) (hb : TrE X τ k b tb) : TrC X τ k .In a b (r2 (inStrsS false) ta tb) := .mk fun Ξ Γ δ o Φ q => wc_R op_in_seq (op2_inStrs false) ((ha.h _ _ _ _ _ q).mono fun _ _ q => hb.h _ _ _ _ _ q)
theorem c_notIn (ha : TrE X τ k a ta) (hb : TrE X τ k b tb) : TrC X τ k .NotIn a b (r2 (inStrsS true) ta tb) := .mk fun Ξ Γ δ o Φ q => wc_R op_notIn_seq (op2_inStrs true) ((ha.h _ _ _ _ _ q).mono fun _ _ q => hb.h _ _ _ _ _ q)
/-! ### x.append(e) -/
/-- the datum is an owned list -/
def onL (d : D) (o : O) (P : Addr → Prop) : Prop := match d with | .ref q => (∃ ds, o q = some (.lst ds)) ∧ P q | _ => False
theorem onL.out {d : D} {o : O} {P : Addr → Prop} (h : onL d o P) : ∃ q, d = .ref q ∧ (∃ ds, o q = some (.lst ds)) ∧ P q := by
  unfold onL at h
  split at h
  · exact ⟨_, rfl, h⟩
  · exact h.elim
def rAppend (a b : RE) : RE := fun Ξ δ o Φ => a Ξ δ o fun d1 o1 => onL d1 o1 fun q => b Ξ δ o1 fun d2 o2 => ∃ ds, o2 q = some (.lst ds) ∧ ds.length < sizeLine ∧ Φ .non (updO o2 q (.lst (ds ++ [d2])))
theorem t_append (ha : TrE X τ k a ta) (hb : TrE X τ k b tb) (hbase : attributeBase a "append" X.env (eval a X.env) = eval a X.env := by rfl)
    (hfew : ((backTo cpos (starEach [b] X.env)).all (fun x => !x.1) && (backToKw cpos (keywordEach [] X.env)).all (fun x => x.1.isSome)
      && decide ([b].length + ([] : List Keyword).length + (if ([] : List Keyword).isEmpty then 0 else 1) < 30)) = true := by rfl)
    (hline : (apos.endLine == cpos.line) = true := by rfl) (hs : starEach [b] X.env = (false, eval b X.env) :: starEach [] X.env := by rfl) (hplain : (backTo cpos (starEach [] X.env)).any (·.1) = false := by rfl) :
    TrE X τ k (.Call (.Attribute a "append" apos) [b] [] cpos) (rAppend ta tb) := .mk fun Ξ Γ δ o Φ q σ H ok => by
  refine cE_of (pe_bm PySem.F.plainAttrs_list PySem.F.slot_list_append PySem.F.type_list_append mt_append pe_c pa_c hbase hfew hline hs hplain) ?_
  refine cE_mono (ha.h _ Γ _ _ _ q σ H ok) fun v H1 ⟨d1, o1, w1, l1, r1, q⟩ => ?_
  obtain ⟨q0, e, ⟨ds0, h0⟩, z⟩ := onL.out q
  clear q
  subst e
  cases r1
  obtain ⟨vs0, g0, _⟩ := w1 _ _ h0
  refine ⟨.inl ⟨rfl, vs0, .of g0⟩, ?_⟩
  let Z : List D → O → Prop := fun ds o2 => ∃ d2, ds = [d2] ∧ ∃ ds, o2 q0 = some (.lst ds) ∧ ds.length < sizeLine ∧ Φ .non (updO o2 q0 (.lst (ds ++ [d2])))
  have za : WA Γ [b] δ o1 Z := wa_cons ((hb.h _ Γ _ _ _ z).mono fun d2 o2 q => wa_nil ⟨d2, rfl, q⟩) hs
  refine cA_mono (za σ H1 (ok.step l1 w1)) fun vs H2 ⟨ds2, o2, w2, l2, rs, d2, e, ds, h1, h2, q⟩ => ?_
  subst e
  obtain ⟨ws, g1, g2⟩ := w2 _ _ h1
  cases rs with
  | @cons y _ _ _ ry rs =>
    cases rs
    have lw : Le H2 o2 (upd H2 q0 (.lst (ws ++ [y]))) (updO o2 q0 (.lst (ds ++ [d2]))) := Le.write h1
    refine ⟨q0, ws, y, rfl, rfl, g1, by rw [g2.length]; exact h2, .non, updO o2 q0 (.lst (ds ++ [d2])), w2.write h1 ⟨_, upd_same, (g2.append (.cons ry .nil)).mono lw⟩, (l1.trans l2).trans lw, .non, q⟩
/-! ### conversions -/
def listS (d : D) (o : O) (Φ : D → O → Prop) : Prop := match d with | .lst ds => Φ (.lst ds) o | .tup ds => Φ (.lst ds) o | _ => False
def tupleS (d : D) (o : O) (Φ : D → O → Prop) : Prop := match d with | .lst ds => Φ (.tup ds) o | .tup ds => Φ (.tup ds) o | _ => False
def arg1 (S : D → O → (D → O → Prop) → Prop) : List D → O → (D → O → Prop) → Prop
  | [d], o, Φ => S d o Φ
  | _, _, _ => False
section
variable (hm : GloN X.mg x)
theorem callR1 {id : String} {r : List V → Hp → VK → Prop} {S : D → O → (D → O → Prop) → Prop} (hc : CallR X (.builtin id) r)
    (hs : ∀ H o v d Φ (Q : VK), R X.K τ H o v d → Own X.K τ H o → S d o Φ → (∀ v H', PostE X.K τ H o Φ v H' → Q v H') → r [v] H Q) (hm : GloN X.mg x) (ha : TrE X τ k a ta)
    (hg : Gl X x := by rfl) (hv : bootBuiltins x = some (.builtin id) := by decide +kernel) (hn : x ≠ "__name__" := by decide) (hdb : (x == ("__debug__" : Str)) = false := by decide)
    (he : starEach (a :: []) X.env = (false, eval a X.env) :: starEach [] X.env := by rfl) (hpl : (backTo pos (starEach [] X.env)).any (·.1) = false := by rfl) : TrE X τ k (.Call (.Name x p) [a] [] pos) (r1 S ta) := .mk fun Ξ Γ δ o Φ q =>
  we_callB (T := arg1 S) hc (fun H o vs ds Φ Q rs w t k => by
    match ds, rs, t with
    | [d], .cons r1 .nil, t => exact hs H o _ d Φ Q r1 w t k) hm (wa_cons ((ha.h _ _ _ _ _ q).mono fun d o1 q => wa_nil q) he) hg (hv := hv) (hn := hn) (hdb := hdb) (he := he) (hpl := hpl)
theorem callR1T {id : String} {r : List V → Hp → VK → Prop} {S : D → O → (D → O → Prop) → Prop} (hc : CallR X (.type id) r)
    (hs : ∀ H o v d Φ (Q : VK), R X.K τ H o v d → Own X.K τ H o → S d o Φ → (∀ v H', PostE X.K τ H o Φ v H' → Q v H') → r [v] H Q) (hm : GloN X.mg x) (ha : TrE X τ k a ta)
    (hg : Gl X x := by rfl) (hv : bootBuiltins x = some (.type id) := by decide +kernel) (hn : x ≠ "__name__" := by decide) (hdb : (x == ("__debug__" : Str)) = false := by decide)
    (he : starEach (a :: []) X.env = (false, eval a X.env) :: starEach [] X.env := by rfl) (hpl : (backTo pos (starEach [] X.env)).any (·.1) = false := by rfl) : TrE X τ k (.Call (.Name x p) [a] [] pos) (r1 S ta) := .mk fun Ξ Γ δ o Φ q =>
  we_callTy (T := arg1 S) hc (fun H o vs ds Φ Q rs w t k => by
    match ds, rs, t with
    | [d], .cons r1 .nil, t => exact hs H o _ d Φ Q r1 w t k) hm (wa_cons ((ha.h _ _ _ _ _ q).mono fun d o1 q => wa_nil q) he) hg (hv := hv) (hn := hn) (hdb := hdb) (he := he) (hpl := hpl)
end
variable {he0 : starEach (a :: []) X.env = (false, eval a X.env) :: starEach [] X.env}
theorem t_list (hm : GloN X.mg "list") (ha : TrE X τ k a ta) (hg : Gl X "list" := by rfl) (he : starEach (a :: []) X.env = (false, eval a X.env) :: starEach [] X.env := by rfl) (hpl : (backTo pos (starEach [] X.env)).any (·.1) = false := by rfl) : TrE X τ k (.Call (.Name "list" p) [a] [] pos) (r1 listS ta) :=
  callR1T call_list_of (fun H o v d Φ Q r w s k => by
    unfold listS at s
    split at s
    · cases r with
      | @lst q vs _ hq hn rs => exact ⟨q, vs, rfl, .inl (.of hq), fun l hl => k _ _ (newL w hl rs s)⟩
    · cases r with
      | @tup q vs _ hq rs => exact ⟨q, vs, rfl, .inr hq.to, fun l hl => k _ _ (newL w hl rs s)⟩
    · exact s.elim) hm ha hg (he := he) (hpl := hpl)
theorem t_tuple (hm : GloN X.mg "tuple") (ha : TrE X τ k a ta) (hg : Gl X "tuple" := by rfl) (he : starEach (a :: []) X.env = (false, eval a X.env) :: starEach [] X.env := by rfl) (hpl : (backTo pos (starEach [] X.env)).any (·.1) = false := by rfl) : TrE X τ k (.Call (.Name "tuple" p) [a] [] pos) (r1 tupleS ta) :=
  callR1T call_tuple_of (fun H o v d Φ Q r w s k => by
    unfold tupleS at s
    split at s
    · cases r with
      | @lst q vs _ hq hn rs => exact ⟨q, vs, rfl, .inl ⟨.of hq, fun l hl => k _ _ (newT w hl rs s)⟩⟩
    · cases r with
      | @tup q vs _ hq rs => exact ⟨q, vs, rfl, .inr ⟨hq.to, k _ _ (.here w (.tup hq rs) s)⟩⟩
    · exact s.elim) hm ha hg (he := he) (hpl := hpl)
/-- all, any of a list of truth values -/
def allS (d : D) (o : O) (Φ : D → O → Prop) : Prop := match d with | .lst ds => ∃ bs : List Bool, ds = bs.map D.bl ∧ Φ (.bl (bs.all id)) o | _ => False
theorem t_all (hm : GloN X.mg "all") (ha : TrE X τ k a ta) (hc : X.calm = true := by rfl) (hg : Gl X "all" := by rfl) (he : starEach (a :: []) X.env = (false, eval a X.env) :: starEach [] X.env := by rfl) (hpl : (backTo pos (starEach [] X.env)).any (·.1) = false := by rfl) : TrE X τ k (.Call (.Name "all" p) [a] [] pos) (r1 allS ta) :=
  callR1 (cr_all hc) (fun H o v d Φ Q r w s k => by
    unfold allS at s
    split at s
    · obtain ⟨ns, e, s⟩ := s
      subst e
      cases r with
      | @lst q vs _ hq hn rs => rw [rs.bls] at hq; exact ⟨q, ns, rfl, .of hq, k _ _ (.here w (.bl _) s)⟩
    · exact s.elim) hm ha hg (he := he) (hpl := hpl)
end
end RD
set_option Elab.async false
set_option linter.all false
set_option maxRecDepth 100000
set_option maxHeartbeats 2000000
/-! DL22: what is walked, over data: texts, dicts, enumerate, zip. -/
namespace DL
open PySem PySem.Spec PyProof.Rows L2
/-- the walk J gives these data -/
def ItD (K : PySem.W.Frag) (τ : Tx) (J : It) (ds : List D) (H1 : Hp) (o1 : O) : Prop :=
  ∃ (Gd : Hp → Prop) (Y : Nat → Hp → V → Hp → Prop), Walk J ds.length Gd Y ∧ (∀ H o, Le H1 o1 H o → Gd H) ∧
    ∀ i x H o H', i < ds.length → Le H1 o1 H o → Own K τ H o → Y i H x H' → ∃ d, ds[i]? = some d ∧ Own K τ H' o ∧ Le H o H' o ∧ R K τ H' o x d
section
variable {X : Cx} {τ : Tx} {k : Nat} {Ξ : DX → Δ → O → Prop} {Γ : Gm X τ k Ξ} {δ : Δ} {o o1 : O} {E : DE} {tg : Expr} {body : List Stmt} {ds : List D} {J : It}
theorem for_ItD {σ : L2.St} {H H1 : Hp} (ok : Okk X.K τ Γ.H0 Γ.o0 σ H1 δ o1) (l : Le H o H1 o1) (it : ItD X.K τ J ds H1 o1) (q : forD Γ tg body E ds δ o1) :
    ∃ W : Nat → Nat → L2.St → Hp → Prop, (∃ m, W 0 m σ H1) ∧ ∀ i m σ H', W i m σ H' →
      (J.stop i H' ∧ (toE X.K τ Γ.H0 Γ.o0 H o E).nx σ H') ∨ (J.go i H' ∧ ∃ N : L2.St → Hp → Prop, (∀ σ' H', N σ' H' → ∃ m', m' < m ∧ W (i + 1) m' σ' H') ∧ ∀ x H'', J.yld i H' x H'' →
        cG X tg x σ H'' fun σ2 H2 => cSs X body { toE X.K τ Γ.H0 Γ.o0 H o E with nx := N, ct := N, bk := (toE X.K τ Γ.H0 Γ.o0 H o E).nx } σ2 H2) := by
  obtain ⟨Gd, Y, w, hg, hy⟩ := it
  refine for_it w (g := cG X tg) (tb := cSs X body) (D := toE X.K τ Γ.H0 Γ.o0 H o E) (FW Γ tg body E ds H1 o1) ⟨δ, o1, ok, Le.refl, q⟩ (fun i σ' H' _ ⟨_, o', _, l', _⟩ => hg H' o' l') (fun i x σ' H' H'' hi hw y => ?_) (fun σ' H' hw => fw_end l hw)
  obtain ⟨δ', o', k', l', q'⟩ := hw
  obtain ⟨d, e, w2, l2, r⟩ := hy i x H' o' H'' hi l' k'.own y
  rw [List.drop_eq_getElem_cons (List.getElem?_eq_some_iff.mp e).1] at q'
  have hd : ds[i]'(List.getElem?_eq_some_iff.mp e).1 = d := (List.getElem?_eq_some_iff.mp e).2
  rw [hd] at q'
  refine cG_mono (q' σ' H'' x (k'.step l2 w2) r) fun σ2 H2 ⟨δ2, o2, k2, l3, q2⟩ => ?_
  refine cSs_mono (q2 σ2 H2 k2) (fun σ3 H3 ⟨δ3, o3, k3, l4, q3⟩ => ⟨δ3, o3, k3, ((l'.trans l2).trans l3).trans l4, q3⟩) (fun _ _ q => q) (fun σ3 H3 ⟨δ3, o3, k3, l4, q3⟩ => ⟨δ3, o3, k3, (((l.trans l').trans l2).trans l3).trans l4, q3⟩) fun σ3 H3 ⟨δ3, o3, k3, l4, q3⟩ => ⟨δ3, o3, k3, ((l'.trans l2).trans l3).trans l4, q3⟩
theorem lc_ItD {scope : Scope} {is vs : List Nat} {ifs : List Expr} {elt : Expr} {Φ : D → O → Prop} {σ : L2.St} {H1 : Hp} {D0 : Addr} {Q : VK} (hs : ∀ i ∈ is, i ∈ vs) (ok : Okk X.K τ Γ.H0 Γ.o0 σ H1 δ o1) (it : ItD X.K τ J ds H1 o1) (hD : H1 D0 = none)
    (h : lcD Γ scope is ifs elt (wipeD δ vs) D0 (lcEnd D0 Φ) ds (updO o1 D0 (.lst []))) (hQ : ∀ v H', PostE X.K τ H1 o1 Φ v H' → Q v H') :
    ∃ W : Nat → Nat → Hp → Prop, (∃ m, W 0 m (upd H1 D0 (.lst []))) ∧ ∀ i m H, W i m H →
      (J.stop i H ∧ Q (.ref D0) H) ∨ (J.go i H ∧ ∃ Nx : Hp → Prop, (∀ H', Nx H' → ∃ m', m' < m ∧ W (i + 1) m' H') ∧ ∀ x H', J.yld i H x H' → gPut X.K is x (wipe σ vs) H' fun σ2 H2 => wipe σ2 vs = wipe σ vs ∧ ttB X scope ifs σ2 H2 fun b H3 =>
        if b = true then tB X scope elt σ2 H3 fun y H4 => ∃ acc, H4 D0 = some (.lst acc) ∧ acc.length < sizeLine ∧ Nx (upd H4 D0 (.lst (acc ++ [y]))) else Nx H3) := by
  obtain ⟨Gd, Y, w, hg, hy⟩ := it
  refine lc_it w (g := gPut X.K is) (tt := ttB X scope ifs) (te := tB X scope elt) (Pv Γ scope is ifs elt (wipeD δ vs) D0 Φ ds H1 o1) (lc_first ok.own hD h) (fun i H _ ⟨o, l, _, _⟩ => hg H o l) (fun i x H H' hi hp y => ?_) (fun H hp => hQ _ _ (lc_post hp (ok.own.free hD)))
  obtain ⟨o, l, w1, hl⟩ := hp
  obtain ⟨d, e, w2, l2, r⟩ := hy i x H o H' hi l w1 y
  rw [List.drop_eq_getElem_cons (List.getElem?_eq_some_iff.mp e).1] at hl
  have hd : ds[i]'(List.getElem?_eq_some_iff.mp e).1 = d := (List.getElem?_eq_some_iff.mp e).2
  rw [hd] at hl
  obtain ⟨δ1, hp, h⟩ := hl
  have l := l.trans l2
  refine put_ok hs (okk_wipe (ok.step l w2) vs) r hp fun σ1 ok1 hw => ⟨hw.trans wipe_wipe, ?_⟩
  refine tts_of ok1 h fun b H3 ⟨o3, w3, l3, h⟩ => ?_
  have ok3 := ok1.step l3 w3
  cases b with
  | false =>
    rw [if_neg Bool.false_ne_true] at h ⊢
    exact ⟨o3, l.trans l3, w3, h⟩
  | true =>
    rw [if_pos rfl] at h ⊢
    refine fun s H' C cl fp => cE_mono (h s H' C cl fp σ1 H3 ok3) fun y H4 ⟨d', o4, w4, l4, r4, acc, hq, hlen, h⟩ => ?_
    obtain ⟨ws, hw1, hw2⟩ := w4 D0 _ hq
    have lw : Le H4 o4 (upd H4 D0 (.lst (ws ++ [y]))) (updO o4 D0 (.lst (acc ++ [d']))) := Le.write hq
    refine ⟨ws, hw1, by rw [hw2.length]; exact hlen, _, ((l.trans l3).trans l4).trans lw, ?_, h⟩
    refine w4.write hq ⟨_, upd_same, ?_⟩
    exact (hw2.append (.cons r4 .nil)).mono lw
end
/-! ### what is walked -/
section
variable {K : PySem.W.Frag} {τ : Tx} {H1 : Hp} {o1 : O}
def signsD (z : Str) : List D := z.cps.toList.map fun c => .str ⟨#[c]⟩
theorem it_str {z : Str} : ItD K τ (Its z) (signsD z) H1 o1 := by
  have e : (signsD z).length = z.cps.size := by unfold signsD; rw [List.length_map, Array.length_toList]
  refine ⟨_, _, by rw [e]; exact walk_str, fun _ _ _ => trivial, fun i x H o H' hi l w y => ?_⟩
  obtain ⟨rfl, c, hc, rfl⟩ := y
  refine ⟨_, ?_, w, Le.refl, .str _⟩
  unfold signsD
  rw [List.getElem?_map, Array.getElem?_toList, hc] <;> rfl
theorem own_new {H : Hp} {o : O} {p : Addr} {u : HO} (w : Own K τ H o) (hp : H p = none) : Own K τ (upd H p u) o := fun a x e => by
  have hw := w a x e
  have l : Le H o (upd H p u) o := Le.new hp
  have ne : ∀ {z : HO}, H a = some z → a ≠ p := fun z => ne_of_none z hp
  cases x with
  | lst ds => obtain ⟨vs, h1, h2⟩ := hw; exact ⟨vs, by rw [upd_ne (ne h1)]; exact h1, h2.mono l⟩
  | ins C fs => obtain ⟨dx, gs, h1, h2⟩ := hw; exact ⟨dx, gs, by rw [upd_ne (ne h1)]; exact h1, h2.mono l⟩
  | dct kvs => obtain ⟨gs, h1, h2⟩ := hw; exact ⟨gs, by rw [upd_ne (ne h1)]; exact h1, h2.mono l⟩
  | xd gs fs => obtain ⟨h1, h2⟩ := hw; exact ⟨by rw [upd_ne (ne h1)]; exact h1, h2.mono l⟩
  | lam u c qn => obtain ⟨h1, e2, e3⟩ := hw; exact ⟨by rw [upd_ne (ne h1)]; exact h1, (l.ex e3 e2 rfl).1, (l.ex e3 e2 rfl).2⟩
  | tbl qn => obtain ⟨ps, h1, h2, h3⟩ := hw; exact ⟨ps, by rw [upd_ne (ne h1)]; exact h1, h2, fun p cv e => let ⟨c, e1, e2, e3⟩ := h3 p cv e; ⟨c, e1, (l.ex e3 e2 rfl).1, (l.ex e3 e2 rfl).2⟩⟩
theorem own_lock {H : Hp} {o : O} {p : Addr} {ob : Obj} {kvs : List (Key × V)} (w : Own K τ H o) (hp : H p = some (.dK kvs)) (ho : o p = none) (l : Le H o (upd H p (.frz ob (.dK kvs))) o) : Own K τ (upd H p (.frz ob (.dK kvs))) o := fun a x e => by
  have hw := w a x e
  have ne : a ≠ p := fun z => by rw [z, ho] at e; cases e
  cases x with
  | lst ds => obtain ⟨vs, h1, h2⟩ := hw; exact ⟨vs, by rw [upd_ne ne]; exact h1, h2.mono l⟩
  | ins C fs => obtain ⟨dx, gs, h1, h2⟩ := hw; exact ⟨dx, gs, by rw [upd_ne ne]; exact h1, h2.mono l⟩
  | dct kvs => obtain ⟨gs, h1, h2⟩ := hw; exact ⟨gs, by rw [upd_ne ne]; exact h1, h2.mono l⟩
  | xd gs fs => obtain ⟨h1, h2⟩ := hw; exact ⟨by rw [upd_ne ne]; exact h1, h2.mono l⟩
  | lam u c qn => obtain ⟨h1, e2, e3⟩ := hw; exact ⟨by rw [upd_ne ne]; exact h1, (l.ex e3 e2 rfl).1, (l.ex e3 e2 rfl).2⟩
  | tbl qn => obtain ⟨ps, h1, h2, h3⟩ := hw; exact ⟨ps, by rw [upd_ne ne]; exact h1, h2, fun p cv e => let ⟨c, e1, e2, e3⟩ := h3 p cv e; ⟨c, e1, (l.ex e3 e2 rfl).1, (l.ex e3 e2 rfl).2⟩⟩
theorem Le.lock {H : Hp} {o : O} {p : Addr} {ob : Obj} {kvs : List (Key × V)} (hp : H p = some (.dK kvs)) (ho : o p = none) : Le H o (upd H p (.frz ob (.dK kvs))) o := fun a x n e => by
  by_cases h : a = p
  · subst h
    rw [hp] at e
    cases e
    exact ⟨⟨_, upd_same, .inr ⟨kvs, ob, rfl, rfl⟩⟩, n⟩
  · exact ⟨⟨x, by rw [upd_ne h]; exact e, .inl rfl⟩, n⟩
/-- a new pair that is given -/
theorem it_pair {J : It} {n : Nat} {Gd : Hp → Prop} {xs ys : Nat → Option V} {ds : List D} (hn : n = ds.length) (w : Walk J n Gd (YPair xs ys)) (hg : ∀ H o, Le H1 o1 H o → Gd H)
    (hr : ∀ i x y H o, Le H1 o1 H o → xs i = some x → ys i = some y → ∃ d1 d2, ds[i]? = some (.tup [d1, d2]) ∧ R K τ H o x d1 ∧ R K τ H o y d2) : ItD K τ J ds H1 o1 := by
  subst hn
  refine ⟨_, _, w, hg, fun i v H o H' hi l wn y => ?_⟩
  obtain ⟨T, x, y, rfl, hT, rfl, hx, hy⟩ := y
  obtain ⟨d1, d2, e, r1, r2⟩ := hr i x y H o l hx hy
  have l2 : Le H o (upd H T (.tup [x, y])) o := Le.new hT
  exact ⟨_, e, own_new wn hT, l2, .tup (.inl ⟨.inl upd_same, wn.free hT⟩) (.cons (r1.mono l2) (.cons (r2.mono l2) .nil))⟩
def enumD (ds : List D) : List D := ds.zipIdx.map fun p => .tup [.int (p.2 : Nat), p.1]
theorem enumD_get {ds : List D} {i : Nat} {d : D} (h : ds[i]? = some d) : (enumD ds)[i]? = some (.tup [.int (i : Nat), d]) := by
  unfold enumD
  rw [List.getElem?_map, List.getElem?_zipIdx, h] <;> simp
theorem enumD_length {ds : List D} : (enumD ds).length = ds.length := by unfold enumD; rw [List.length_map, List.length_zipIdx]
theorem it_enum {a : Addr} {vs : List V} {ds : List D} (ha : ∀ H o, Le H1 o1 H o → SqL K H a vs) (rs : Rs K τ H1 o1 vs ds) : ItD K τ (Ite K a) (enumD ds) H1 o1 :=
  it_pair (by rw [enumD_length, rs.length]) walk_enum ha fun i x y H o l hx hy => by
    cases hx
    obtain ⟨d, e, r⟩ := rs.of_get hy
    exact ⟨_, _, enumD_get e, .int _, r.mono l⟩
def keyDat : Key → D
  | .inl i => .int i
  | .inr x => .str x
theorem r_key {H : Hp} {o : O} (k : Key) : R K τ H o (kV k) (keyDat k) := by
  cases k with
  | inl i => exact .int i
  | inr x => exact .str x
theorem Rk.of_get {H : Hp} {o : O} : ∀ {vs : List (Key × V)} {ds : List (Key × D)} {i : Nat} {k : Key} {v : V}, Rk K τ H o vs ds → vs[i]? = some (k, v) → ∃ d, ds[i]? = some (k, d) ∧ R K τ H o v d
  | _, _, _, _, _, .nil, h => by simp at h
  | _, _, 0, k, v, .cons h _, e => by simp at e; obtain ⟨rfl, rfl⟩ := e; exact ⟨_, rfl, h⟩
  | _, _, i + 1, k, v, .cons _ r, e => by
    obtain ⟨d, h1, h2⟩ := Rk.of_get (i := i) r (by simpa using e)
    exact ⟨d, by simpa using h1, h2⟩
def itemsD (kds : List (Key × D)) : List D := kds.map fun p => .tup [keyDat p.1, p.2]
theorem it_items {d : Addr} {ob : Obj} {kvs : List (Key × V)} {kds : List (Key × D)} (hd : H1 d = some (.frz ob (.dK kvs))) (ho : o1 d = none) (r : Rk K τ H1 o1 kvs kds) : ItD K τ (Iti d ob kvs) (itemsD kds) H1 o1 :=
  it_pair (by unfold itemsD; rw [List.length_map, r.length]) walk_items (fun H o l => l.frz ho hd) fun i x y H o l hx hy => by
    cases e : kvs[i]? with
    | none => rw [e] at hx; cases hx
    | some kv =>
      rw [e] at hx hy
      cases hx
      cases hy
      obtain ⟨d', e', r'⟩ := r.of_get (k := kv.1) (v := kv.2) e
      exact ⟨_, _, by unfold itemsD; rw [List.getElem?_map, e'] <;> rfl, r_key _, r'.mono l⟩
theorem it_values {d : Addr} {ob : Obj} {kvs : List (Key × V)} {kds : List (Key × D)} (hd : H1 d = some (.frz ob (.dK kvs))) (ho : o1 d = none) (r : Rk K τ H1 o1 kvs kds) : ItD K τ (Itd d ob kvs) (kds.map (·.2)) H1 o1 := by
  refine ⟨_, _, by rw [List.length_map, ← r.length]; exact walk_values, fun H o l => l.frz ho hd, fun i x H o H' hi l w y => ?_⟩
  obtain ⟨rfl, k, e⟩ := y
  obtain ⟨d', e', r'⟩ := r.of_get e
  exact ⟨_, by rw [List.getElem?_map, e'] <;> rfl, w, Le.refl, r'.mono l⟩
theorem it_range {lo : Int} {n : Nat} : ItD K τ (Itr lo n) (rangeD lo n) H1 o1 := by
  refine ⟨_, _, by rw [rangeD_length]; exact walk_range, fun _ _ _ => trivial, fun i x H o H' hi l w y => ?_⟩
  obtain ⟨rfl, rfl⟩ := y
  rw [rangeD_length] at hi
  exact ⟨_, rangeD_get hi, w, Le.refl, .int _⟩
end
/-- a dict is locked once it stands -/
theorem cE_lock {X : Cx} {e : Expr} {σ : L2.St} {H : Hp} {Q : VK} (h : cE X e σ H fun x H1 => ∃ d kvs, x = .ref d ∧ Rd H1 d (.dK kvs) ∧ ∀ ob H', H' d = some (.frz ob (.dK kvs)) → (H' = H1 ∨ (H1 d = some (.dK kvs) ∧ H' = upd H1 d (.frz ob (.dK kvs)))) → Q x H') : cE X e σ H Q := fun pins s I =>
  thn (h pins s I) fun u s1 ⟨x, H1, I1, r, d, kvs, e1, rd, q⟩ => by
    rcases rd with hd | ⟨ob, hd⟩
    · obtain ⟨od, I2⟩ := I1.lock hd trivial
      exact ⟨x, _, I2, r, q od _ upd_same (.inr ⟨hd, rfl⟩)⟩
    · exact ⟨x, H1, I1, r, q ob H1 hd (.inl rfl)⟩
end DL
set_option Elab.async false
set_option linter.all false
set_option maxRecDepth 100000
set_option maxHeartbeats 2000000
/-! DL23: enumerate over a tuple. -/
namespace DL
open PySem PySem.Spec PyProof.Rows L2
section
variable {prog : Program} {w : World} {A : Around} {E : Value → Shared → Prop} {s : Shared}
theorem nextOf_tuple_item {it t : Addr} {i : Nat} {items : Array Value} {x : Value} {Q : Value → Shared → Prop} (hit : s.heap.IsTupleIter it t i) (ht : s.heap.IsTuple t items) (hx : items[i]? = some x)
    (hQ : ∀ h', h'.IsTupleIter it t (i + 1) → Heap.SameBut it s.heap h' → Q x { s with heap := h' }) : wpAny (model prog w) A (Builtin.SmallTypes.nextOf (.ref it)) Q E s := by
  obtain ⟨o, ho, hc, hd⟩ := id hit
  obtain ⟨ol, hol, _, nl, hdl⟩ := ht
  unfold Builtin.SmallTypes.nextOf
  refine wpAny_bind (wpAny_callSpecial?_slot (name := Str.ofString "__next__") hit.typeIs PySem.F.slot_tuple_iterator_next
    (wpAny_call_entry PySem.F.slot_tuple_iterator_next hit.typeIs PySem.F.entry_tuple_iterator_next ?_ (PySem.F.args_tuple_iterator_next_1 _)))
  show wpAny _ _ (field (.ref it) 0 >>= _) _ _ s
  refine wpAny_bind (wpAny_field ho hd (x := .ref t) rfl ?_)
  show wpAny _ _ (if (Value.ref t == Value.none) = true then _ else _) _ _ s
  rw [if_neg (show ¬ ((Value.ref t == Value.none) = true) from Bool.false_ne_true)]
  show wpAny _ _ (field (.ref it) 1 >>= _) _ _ s
  refine wpAny_bind (wpAny_field ho hd (x := .int i 0) rfl ?_)
  show wpAny _ _ (seqItems? (.ref t) >>= _) _ _ s
  refine wpAny_bind (wpAny_seqItems hol hdl ?_)
  simp only [Int.toNat_natCast, hx]
  refine wpAny_bind (wpAny_setField ho hd (by simp) (wpAny_pure ⟨x, rfl, wpAny_pure (hQ _ ?_ (Heap.SameBut.update ..))⟩))
  exact ⟨_, Heap.get?_update_self _ ho (Obj.isFreed_of_fields (Obj.data_mapFields hd _)), (Obj.cls_mapFields ..).trans hc, by
    rw [Obj.data_mapFields hd]; simp [rawInt]⟩
theorem nextOf_tuple_end {it t : Addr} {i : Nat} {items : Array Value} {Q : Value → Shared → Prop} (hh : A.handled = none) (hit : s.heap.IsTupleIter it t i) (ht : s.heap.IsTuple t items) (hx : items[i]? = none)
    (hE : ∀ h' e, Heap.ExtBut it s.heap h' → (∃ o, h'.get? e = some o ∧ o.cls = .type "StopIteration") → E (.ref e) { s with heap := h' }) : wpAny (model prog w) A (Builtin.SmallTypes.nextOf (.ref it)) Q E s := by
  obtain ⟨o, ho, hc, hd⟩ := id hit
  obtain ⟨ol, hol, _, nl, hdl⟩ := ht
  unfold Builtin.SmallTypes.nextOf
  refine wpAny_bind (wpAny_callSpecial?_slot (name := Str.ofString "__next__") hit.typeIs PySem.F.slot_tuple_iterator_next
    (wpAny_call_entry PySem.F.slot_tuple_iterator_next hit.typeIs PySem.F.entry_tuple_iterator_next ?_ (PySem.F.args_tuple_iterator_next_1 _)))
  show wpAny _ _ (field (.ref it) 0 >>= _) _ _ s
  refine wpAny_bind (wpAny_field ho hd (x := .ref t) rfl ?_)
  show wpAny _ _ (if (Value.ref t == Value.none) = true then _ else _) _ _ s
  rw [if_neg (show ¬ ((Value.ref t == Value.none) = true) from Bool.false_ne_true)]
  show wpAny _ _ (field (.ref it) 1 >>= _) _ _ s
  refine wpAny_bind (wpAny_field ho hd (x := .int i 0) rfl ?_)
  show wpAny _ _ (seqItems? (.ref t) >>= _) _ _ s
  refine wpAny_bind (wpAny_seqItems hol hdl ?_)
  simp only [Int.toNat_natCast, hx]
  refine wpAny_bind (wpAny_rule (wpAny_bind (wpAny_setField ho hd (by simp) ?_)))
  show wpAny _ _ (newExc (.type "StopIteration") [] >>= _) _ _ _
  refine wpAny_bind ?_
  simp only [newExc, newTuple]
  refine wpAny_bind (wpAny_newObj_type ?_ (by size_fits))
  refine wpAny_bind (m := firstArgMember _ _) (wpAny_of_eq (a := Value.none) (by first | rfl | (simp only [firstArgMember]; rfl)) ?_)
  refine wpAny_newObj_type ?_ (by size_fits)
  simp only [raiseNew]
  refine wpAny_bind (wpAny_handled ?_)
  first | rw [show A.in1.handled = none from hh] | rw [hh]
  refine wpAny_bind (wpAny_pure (wpAny_throw ?_))
  exact hE _ _ (((Heap.SameBut.update ..).extBut.push _).push _) ⟨_, Heap.get?_push_size _ rfl, rfl⟩
end
theorem drawsTuple {prog : Program} {w : World} {A : Around} (hh : A.handled = none) (it t : Addr) (hne : t ≠ it) (items : Array Value) :
    Draws prog w A it [it, t] items.size (fun i v => items[i]? = some v) (fun i h => h.IsTupleIter it t i ∧ h.IsTuple t items) where
  live := fun _ _ st => let ⟨o, ho, _⟩ := st.1; ⟨o, ho⟩
  frame := fun _ _ _ st hk => ⟨let ⟨o, ho, r⟩ := st.1; ⟨o, hk it (by simp) o ho, r⟩, let ⟨o, ho, r⟩ := st.2; ⟨o, hk t (by simp) o ho, r⟩⟩
  item := fun i s Q E hi st hQ => by
    refine nextOf_tuple_item st.1 st.2 (x := items[i]) (by simp [hi]) fun h' hit' hs' => ?_
    exact hQ _ h' s.toks (by simp [hi]) ⟨hit', st.2.extBut hs'.extBut hne⟩ hs'
  done := fun s Q E st hE => nextOf_tuple_end hh st.1 st.2 (by simp) hE
theorem meets_enum_newT (l : Addr) (items : Array Value) (n : Nat) (dct : Option Addr) (sl : Array (Option Value)) :
    Meets (Builtin.«enumerate.__new__» ⟨[.type "enumerate", .ref l], []⟩) (fun _ R s => s.heap.get? l = some { cls := .type "tuple", dict := dct, data := .seq items n, slots := sl } ∧
      R (.ok (.ret (.ref (s.heap.push { cls := .type "tuple_iterator", data := .fields #[.ref l, .int 0 0] }).objs.size)))
        { s with heap := (s.heap.push { cls := .type "tuple_iterator", data := .fields #[.ref l, .int 0 0] }).push { cls := .type "enumerate", data := .fields #[.none, .bool false, .ref s.heap.objs.size, rawInt 0, .none, .none] } }) :=
  .of_wp fun prog w A R s h => by
    obtain ⟨hp, g, d, tk, os⟩ := s; obtain ⟨hl, h⟩ := h
    have hsub := sub_enumerate
    have hL : Heap.IsTuple (Shared.heap ⟨hp, g, d, tk, os⟩) l items := ⟨_, hl, rfl, n, rfl⟩
    wp_walk using AutoSeq1.wpAny_loadPart' hl
    refine wpAny_stack_any fun st => wpAny_pure ?_
    split
    · rename_i c _ _ _ _ _
      cases (c == Value.type "enumerate")
      · wp_walk using AutoSeq1.wpAny_loadPart' hl, wpAny_pyIter_tuple hL
        exact ⟨_, rfl, h⟩
      · wp_walk using AutoSeq1.wpAny_loadPart' hl, wpAny_pyIter_tuple hL
        exact ⟨_, rfl, h⟩
    · wp_walk using AutoSeq1.wpAny_loadPart' hl, wpAny_pyIter_tuple hL
      exact ⟨_, rfl, h⟩
section
variable {prog : Program} {w : World} {A : Around} {E : Value → Shared → Prop} {s : Shared}
theorem call_enum_tuple {l : Addr} {items : Array Value} {Q : Value → Shared → Prop} (hL : s.heap.IsTuple l items)
    (h : ∀ h', IsEnum h' (s.heap.objs.size + 1) s.heap.objs.size 0 .none → h'.IsTupleIter s.heap.objs.size l 0 → h'.objs.size = s.heap.objs.size + 2 →
      (∀ b o, s.heap.get? b = some o → h'.get? b = some o) → Q (.ref (s.heap.objs.size + 1)) { s with heap := h' }) : wpAny (model prog w) A (call (.type "enumerate") [.ref l]) Q E s := by
  obtain ⟨⟨c, dct, dt, sl⟩, hl, hc, n, hd⟩ := hL
  replace hc : c = .type "tuple" := hc
  replace hd : dt = .seq items n := hd
  subst hc hd
  refine callType_new PySem.F.called_enumerate (by decide) (PySem.F.typeCall_enumerate_1 _) (PySem.F.newCall_enumerate_1 _) (fun obj => PySem.F.args_object_init_2 obj _) PySem.F.entry_enumerate_new
    (meets_enum_newT l items n dct sl) ⟨hl, ?_⟩
  have hz : (s.heap.push { cls := .type "tuple_iterator", data := .fields #[.ref l, .int 0 0] }).objs.size = s.heap.objs.size + 1 := Heap.size_push ..
  show _ ∧ _
  rw [hz]
  have he : IsEnum ((s.heap.push { cls := .type "tuple_iterator", data := .fields #[.ref l, .int 0 0] }).push
      { cls := .type "enumerate", data := .fields #[.none, .bool false, .ref s.heap.objs.size, rawInt 0, .none, .none] }) (s.heap.objs.size + 1) s.heap.objs.size 0 .none := by
    have := Heap.get?_push_size (s.heap.push { cls := .type "tuple_iterator", data := .fields #[.ref l, .int 0 0] })
      (o := { cls := .type "enumerate", data := .fields #[.none, .bool false, .ref s.heap.objs.size, rawInt 0, .none, .none] }) rfl
    rw [hz] at this; exact this
  refine ⟨⟨_, he, rfl⟩, h _ he ⟨_, Heap.get?_push_of_some _ (Heap.get?_push_size _ rfl), rfl, rfl⟩ (by rw [Heap.size_push, hz]) fun b o x => Heap.get?_push_of_some _ (Heap.get?_push_of_some _ x)⟩
end
theorem enum_end_tuple {prog : Program} {w : World} {A : Around} {E : Value → Shared → Prop} {s : Shared} {e it t : Addr} {i : Nat} {j : Int} {items : Array Value} {old : Value} {Q : Option Value → Shared → Prop} (hh : A.handled = none) (he : IsEnum s.heap e it j old)
    (hit : s.heap.IsTupleIter it t i) (ht : s.heap.IsTuple t items) (hx : items[i]? = none) (hQ : ∀ h', Heap.ExtBut it s.heap h' → Q none { s with heap := h' }) : wpAny (model prog w) A (pyNext (.ref e)) Q E s := by
  have hT : s.TypeIs (.ref e) "enumerate" := ⟨_, he, rfl⟩
  unfold pyNext
  refine wpAny_bind (wpAny_attempt (wpAny_callSpecial?_slot (name := Str.ofString "__next__") hT PySem.F.slot_enumerate_next
    (wpAny_call_entry PySem.F.slot_enumerate_next hT PySem.F.entry_enumerate_next ?_ (PySem.F.args_enumerate_next_1 _))))
  show wpAny _ _ (field (.ref e) 2 >>= _) _ _ _
  refine wpAny_bind (wpAny_field he rfl (x := .ref it) rfl ?_)
  refine wpAny_bind (nextOf_tuple_end hh hit ht hx fun h' x he' hx' => ?_)
  obtain ⟨o, ho, hc⟩ := hx'
  refine wpAny_bind (wpAny_isInstance (T := "StopIteration") (b := true) ⟨o, ho, hc⟩ isSubtype_stop ?_)
  exact wpAny_pure (hQ _ he')
/-- the tuple at a, each item in a new pair -/
def IteT (K : PySem.W.Frag) (a : Addr) : It :=
  ⟨fun i H => ∃ (xs : List V) (x : V), SqT K H a xs ∧ xs[i]? = some x, fun i H v H' => ∃ T x, v = .ref T ∧ H T = none ∧ H' = upd H T (.tup [.int (i : Nat), x]) ∧ ∀ xs, SqT K H a xs → xs[i]? = some x, fun i H => ∃ xs : List V, SqT K H a xs ∧ xs.length ≤ i⟩
theorem turn_enumT {P : Program} {w : World} {K : PySem.W.Frag} {elts : List Expr} {kk : Nat} {tpos : Pos} (a e it : Addr) (hae : a ≠ e) (hai : a ≠ it) :
    Turn P w K (.Tuple elts kk tpos) (IteT K a) [e, it] e (fun i h => (∃ old, IsEnum h e it ((i : Nat) : Int) old) ∧ h.IsTupleIter it a i ∧ e ≠ it) where
  mem := by simp
  obj := fun i h st b hb => by
    obtain ⟨⟨old, he⟩, ⟨o, ho, hc, hd⟩, _⟩ := st
    have e' : b = e ∨ b = it := by simpa using hb
    rcases e' with z | z
    · rw [z]; exact ⟨_, he, fun v q => nomatch q⟩
    · rw [z]; exact ⟨o, ho, fun v q => by rw [hd] at q; cases q⟩
  keep := fun i h h' st k => let ⟨⟨old, he⟩, ⟨o, ho, r⟩, hne⟩ := st; ⟨⟨old, k e (by simp) _ he⟩, ⟨o, k it (by simp) o ho, r⟩, hne⟩
  item := by
    intro X hP hw hK hc i pins s σ H E I hf st hg
    subst hP hw hK
    obtain ⟨⟨old, he⟩, hit, hne⟩ := st
    obtain ⟨xs, x, hq, hx⟩ := hg
    obtain ⟨its, rv, p, hz⟩ := I.tuple hq
    obtain ⟨u, hu, ru⟩ := rv.get hx
    have hel : e < s.heap.objs.size := Heap.lt_size he
    have hil : it < s.heap.objs.size := by obtain ⟨_, q, _⟩ := hit; exact Heap.lt_size q
    have hcd : X.A.in1.handled = none := I.ok.hd hc
    have hlt : i < its.toArray.size := by
      have := (List.getElem?_eq_some_iff.mp hu).1
      simpa using this
    refine wpAny_pyNext_enum_itemD (drawsTuple hcd it a hai its.toArray) he ⟨hit, show s.heap.IsTuple a its.toArray from p⟩ hlt hne (by simp [hne, Ne.symm hae]) fun y h' tk hP ho hit' hT hsz hk => ?_
    have ey : y = u := by
      have h1 : its.toArray[i]? = some y := hP
      have h2 : its.toArray[i]? = some u := by simpa using hu
      rw [h1] at h2
      exact Option.some.inj h2
    subst ey
    refine ⟨_, rfl, wpAny_letOwnedTupleGo_enum (s := { s with heap := h', toks := tk + 1 }) ho fun h'' he' sb => ?_⟩
    have hT2 : h''.get? s.heap.objs.size = some { cls := .type "tuple", data := .seq #[.int i tk, y] } := (sb.2 _ (Nat.ne_of_gt hel)).trans hT
    have new : ObjOk X.prog X.w (upd H s.heap.objs.size (.tup [.int (i : Nat), x])) h'' s.heap.objs.size (.tup [.int (i : Nat), x]) :=
      ⟨by show 2 ≤ sizeLine; decide, [.int i tk, y], .cons ⟨_, rfl⟩ (.cons ru .nil), ⟨_, hT2, rfl, _, rfl⟩⟩
    have I1 : Inv X pins σ (upd H s.heap.objs.size (.tup [.int (i : Nat), x])) { s with heap := h'', toks := tk + 1 } :=
      I.turnedNew (ch := [e, it]) (fun b ob hb q => (sb.2 b (fun z => hb (by simp [z]))).trans (hk b ob (fun z => hb (by simp [z])) (fun z => hb (by simp [z])) q)) hf (Nat.le_refl _) new
    refine ⟨.ref s.heap.objs.size, _, I1, rfl, ⟨_, x, rfl, I.hok.fresh (Nat.le_refl _), rfl, fun ys hy => by rw [I.tuple_inj hy hq]; exact hx⟩, ⟨⟨y, ?_⟩, ?_, hne⟩, fun b hb => ?_⟩
    · have e1 : ((i + 1 : Nat) : Int) = (i : Int) + 1 := by omega
      rw [e1]; exact he'
    · obtain ⟨o, q, r⟩ := hit'.1
      exact ⟨o, (sb.2 it (Ne.symm hne)).trans q, r⟩
    · have hb' : b < s.heap.objs.size := by
        have e' : b = e ∨ b = it := by simpa using hb
        rcases e' with z | z
        · rw [z]; exact hel
        · rw [z]; exact hil
      rw [upd_ne (Nat.ne_of_lt hb')]
      exact (hf b hb).1
  done := by
    intro X hP hw hK hc i pins s σ H E I hf st hg
    subst hP hw hK
    obtain ⟨⟨old, he⟩, hit, hne⟩ := st
    obtain ⟨xs, hq, hx⟩ := hg
    obtain ⟨its, rv, p, hz⟩ := I.tuple hq
    obtain ⟨f0, f1, f2, f3, f4, f5⟩ := hf it (by simp)
    have hl := rv.length
    exact enum_end_tuple (I.ok.hd hc) he hit (show s.heap.IsTuple a its.toArray from p) (by simp; omega) fun h' eb => ⟨rfl, I.turned (t' := s.toks) (fun b o hb q => eb b o hb q) f0 f1 f3 f4 f5⟩
  self := fun A i s Q E st h => let ⟨⟨_, he⟩, _⟩ := st; wpAny_pyIter_enum he h
def iEnumT (K : PySem.W.Frag) (ta : TA) : TI := fun σ H R => ta σ H fun vs H1 => ∃ a xs, vs = [.ref a] ∧ SqT K H1 a xs ∧ R (IteT K a) H1
theorem pi_enumT {X : Cx} {e : Expr} {ta : TA} {p pos tpos : Pos} {elts : List Expr} {kk : Nat} (hg : Gl X "enumerate") (hm : X.mg "enumerate" = none) (ha : PA X [e] ta) (hs : starEach [e] X.env = [(false, eval e X.env)] := by rfl) :
    PI X (.Tuple elts kk tpos) (.Call (.Name "enumerate" p) [e] [] pos) (iEnumT X.K ta) := by
  refine ⟨fun pins s σ H R I h => ?_⟩
  refine Call_ (ld_blt I hg hm boot_enumerate (PyProof.Rows.callWith_type1 (thn (ha.run pos pins s σ H _ I h) fun us s1 ⟨vs, H1, I1, r1, q1⟩ => ?_) hs rfl))
  obtain ⟨a, xs, ex, hq, q⟩ := q1
  subst ex
  cases r1 with
  | cons r rr =>
    cases rr
    cases r
    obtain ⟨its, rv, p', hz⟩ := I1.tuple hq
    have hla : a < s1.heap.objs.size := by obtain ⟨o, ho, _⟩ := p'; exact Heap.lt_size ho
    refine call_enum_tuple (show s1.heap.IsTuple a its.toArray from p') fun h' he hit hsz hk => wpAny_pyIter_enum he ?_
    have I2 : Inv X pins σ H1 { s1 with heap := h' } := I1.kept (t' := s1.toks) hk
    refine ⟨s1.heap.objs.size + 1, [s1.heap.objs.size + 1, s1.heap.objs.size], _, _, H1, rfl, I2, turn_enumT a (s1.heap.objs.size + 1) s1.heap.objs.size (Nat.ne_of_lt (Nat.lt_succ_of_lt hla)) (Nat.ne_of_lt hla), ⟨⟨.none, he⟩, hit, Nat.succ_ne_self _⟩, fun b hb => ?_, q⟩
    have e' : b = s1.heap.objs.size + 1 ∨ b = s1.heap.objs.size := by simpa using hb
    have hle : s1.heap.objs.size ≤ b := by
      rcases e' with z | z
      · rw [z]; exact Nat.le_add_right _ _
      · rw [z]; exact Nat.le_refl _
    exact I1.fpOk hle (I1.hok.fresh hle)
theorem walk_enumT {K : PySem.W.Frag} {a : Addr} {xs : List V} : Walk (IteT K a) xs.length (fun H => SqT K H a xs) (YPair (fun i => some (.int (i : Nat))) (fun i => xs[i]?)) := by
  refine ⟨fun i _ hi q => ⟨xs, xs[i], q, by simp [hi]⟩, fun _ q => ⟨xs, q, Nat.le_refl _⟩, fun i H v H' _ q y => ?_⟩
  obtain ⟨T, x, h1, h2, h3, h4⟩ := y
  exact ⟨T, .int (i : Nat), x, h1, h2, h3, rfl, h4 xs q⟩
theorem it_enumT {K : PySem.W.Frag} {τ : Tx} {H1 : Hp} {o1 : O} {a : Addr} {vs : List V} {ds : List D} (ha : ∀ H o, Le H1 o1 H o → SqT K H a vs) (rs : Rs K τ H1 o1 vs ds) : ItD K τ (IteT K a) (enumD ds) H1 o1 :=
  it_pair (by rw [enumD_length, rs.length]) walk_enumT ha fun i x y H o l hx hy => by
    cases hx
    obtain ⟨d, e, r⟩ := rs.of_get hy
    exact ⟨_, _, enumD_get e, .int _, r.mono l⟩
end DL
set_option Elab.async false
set_option linter.all false
set_option maxRecDepth 100000
set_option maxHeartbeats 2000000
/-! DL24: a class whose __init__ has one starred parameter; dict of a plain tuple. -/
namespace DL
open PySem PySem.Spec PyProof.Rows L2
section
variable {P : Program} {w : World} {K : PySem.W.Frag} {mg : Str → Option Value} {base : Heap} {CX : CXT} {qual : Str} {N ps : List Str} {scope : Scope} {body : List Stmt} {f : Addr} {k : Nat} {sp : Sp} {oc cdv : Value} {od : Option Addr} {osl : Array (Option Value)} {name : Str} {params : Arguments} {dV kV doc pm ct : Value} {an : Option Addr}
open StX in
/-- def f(a, .., *v): what is left over is a new tuple, its object told -/
theorem fn_starF {pv : Str} (lk : K.lookup f = some ⟨oc, od, .func (PySem.W.fnOf name qual params body scope dV kV doc pm an cdv ct), osl⟩) (hcd : PySem.W.codeIn K cdv qual = true) (S : FnScope N (ps ++ [pv]) scope) (hCX : CXUp CX)
    (hb : ∀ us rest : List Value, us.length = ps.length → bindArgs (PySem.W.fnOf name qual params body scope dV kV doc pm an cdv ct) ⟨us ++ rest, []⟩ = (newTuple rest >>= fun t => pure (ps.zip us ++ [(pv, t)])))
    (hbody : ∀ (A : Around) (outer : List Env) (s : Shared) (H : Hp) (vs : List V) (Q : VK) (E : XK), Room k (A.deeper (envOfC qual scope s.heap.objs.size f cdv)) → sp vs H Q E →
      ∃ t, PSs (cxOf CX P w K mg base N qual scope f cdv A outer s H E) body t ∧ t { nx := fun _ H' => Q .non H', rt := Q } (start N vs) H) :
    FnR P w K mg base CX (k + 1) f (fun vs H Q E => ∃ ws rest, vs = ws ++ rest ∧ ws.length = ps.length ∧ rest.length ≤ sizeLine ∧ ∀ p ob, H p = Option.none → Plain ob → sp (ws ++ [V.ref p]) (upd H p (.frz ob (.tup rest))) Q E) := by
  intro A outer s H us vs Q E hr e0 r hsp
  obtain ⟨ws, rest, ev, hl, hz, hq⟩ := hsp
  subst ev
  obtain ⟨u1, u2, eu, r1, r2⟩ := vals_split r
  subst eu
  have hn : H s.heap.objs.size = Option.none := e0.hok.fresh (Nat.le_refl _)
  have hl1 : u1.length = ps.length := by rw [← r1.length]; exact hl
  have hl2 : u2.length ≤ sizeLine := by rw [← r2.length]; exact hz
  refine run_bnd lk hcd S hr e0 (G := fun xs H2 => ∃ p ob, H p = Option.none ∧ Plain ob ∧ xs = ws ++ [V.ref p] ∧ H2 = upd H p (.frz ob (.tup rest))) (fun A' Ex Q' h => ?_) fun s2 H2 xs ⟨p, ob, hp, hpl, ex, eH⟩ hr' => ?_
  · rw [hb u1 u2 hl1]
    refine wpAny_bind (wpAny_newTuple (wpAny_pure ?_) hl2)
    have new : ObjOk P w (upd H s.heap.objs.size (.frz ({ cls := .type "tuple", data := .seq u2.toArray } : Obj) (.tup rest))) (s.heap.push ({ cls := .type "tuple", data := .seq u2.toArray } : Obj)) s.heap.objs.size (.frz ({ cls := .type "tuple", data := .seq u2.toArray } : Obj) (.tup rest)) := ⟨Heap.get?_push_size _ rfl, hz, u2, r2, ⟨_, Heap.get?_push_size _ rfl, rfl, _, rfl⟩⟩
    have un := un_laid (fs := frs outer) (s := s) (o := ({ cls := .type "tuple", data := .seq u2.toArray } : Obj)) (u := .frz ({ cls := .type "tuple", data := .seq u2.toArray } : Obj) (.tup rest)) hn
    have z := h _ _ (ws ++ [V.ref s.heap.objs.size]) (u1 ++ [Value.ref s.heap.objs.size]) (env0_laid e0 new) un rfl (fun e s' => hCX outer s H _ _ E e s' un (fun b o q => Heap.get?_push_of_some _ q) rfl) (r1.append (.cons rfl .nil))
      (by rw [List.length_append, List.length_append, hl] <;> rfl) ⟨_, _, hn, ⟨rfl, rfl⟩, rfl, rfl⟩
    rw [List.zip_append hl1.symm] at z
    exact z
  · subst ex eH
    exact hbody A outer s2 _ _ Q E hr' (hq p ob hp hpl)
end
def starP (n : Nat) (S : DSp) : DSp := fun ds o Φ Ξ => ∃ ds1 rest, ds = ds1 ++ rest ∧ ds1.length = n ∧ S (ds1 ++ [.ptup rest]) o Φ Ξ
section
variable {P : Program} {w : World} {K : PySem.W.Frag} {mg : Str → Option Value} {base : Heap} {τ : Tx}
theorem fnDP {x qual : Str} {st : Stmt} {f : Addr} {fd : FuncData} {N ps : List Str} {pv : Str} {k : Nat} {S : DSp} (F : Fun K x qual st f fd) (sc : FnScope N (ps ++ [pv]) (defScope st))
    (hb : ∀ (kV doc pm : Value) (an : Option Addr) (cdv ct : Value) (us rest : List Value), us.length = ps.length → bindArgs (PySem.W.fnOf x qual (defArgs st) (defBody st) (defScope st) .none kV doc pm an cdv ct) ⟨us ++ rest, []⟩ = (newTuple rest >>= fun t => pure (ps.zip us ++ [(pv, t)])))
    (body : ∀ (cdv : Value) (A : Around) (outer : List Env) (s : Shared) (H : Hp) (E : XK) (Ξ : DX → O → Prop) (Γ : Gm (cxOf (L2N.CX P w) P w K mg base N qual (defScope st) f cdv A outer s H E) τ k fun x _ o' => Ξ x o') (ds : List D) (o : O) (Φ : D → O → Prop),
      ds.length = ps.length + 1 → S ds o Φ Ξ → WSs Γ (defBody st) (ds.map some ++ List.replicate (N.length - ds.length) none) o { nx := fun _ o' => Φ .non o', rt := Φ }) (m : Nat) (hm : m ≤ sizeLine) : FnD P w K mg base τ (k + 1) f (ps.length + m) (starP ps.length S) := by
  refine ⟨?_, F.kp⟩
  obtain ⟨oc, od, kV, doc, pm, an, cdv, ct, osl, rfl, lk, hcd⟩ := F.ex
  have z : FnR P w K mg base (L2N.CX P w) (k + 1) f (fun vs H Q E => ∃ ws rest, vs = ws ++ rest ∧ ws.length = ps.length ∧ rest.length ≤ sizeLine ∧ ∀ p ob, H p = Option.none → Plain ob → spD K τ (ps.length + 1) S (ws ++ [V.ref p]) (upd H p (.frz ob (.tup rest))) Q E) := by
    refine fn_starF lk hcd sc cxUpN (hb kV doc pm an cdv ct) fun A outer s H vs Q E hr h => ?_
    obtain ⟨ds, o, Φ, Ξ, r, ow, hl, hS, hQ, hE⟩ := h
    refine ⟨cSs _ _, pss_c, ?_⟩
    let Γ : Gm (cxOf (L2N.CX P w) P w K mg base N qual (defScope st) f cdv A outer s H E) τ k fun x _ o' => Ξ x o' :=
      { H0 := H, o0 := o, W := fun cls d _ H' => E cls d H', tk := L2N.takes_of rfl rfl rfl rfl, po := passes_of rfl, rm := fun _ => hr, un := hr.un, nd := sc.nd,
        hW := fun cls d σ H' x δ o' ok rx hx => hE cls d H' x o' ok.own ok.le rx hx }
    have hn : (L2.start N vs).length = (ds.map some ++ List.replicate (N.length - ds.length) none).length := by
      unfold L2.start
      rw [List.length_append, List.length_append, List.length_map, List.length_map, List.length_replicate, List.length_replicate, r.length]
    have z := body cdv A outer s H E Ξ Γ ds o Φ hl hS (L2.start N vs) H ⟨Le.refl, ow, hn, fun i d h => r.start N i d h⟩
    refine cSs_mono z (fun σ H' ⟨δ, o', ok, _, h⟩ => ?_) (fun v H' ⟨d, o', l, ow', rv, h⟩ => ?_) (fun _ _ ⟨_, _, _, _, h⟩ => h.elim) (fun _ _ ⟨_, _, _, _, h⟩ => h.elim)
    · exact hQ _ _ ⟨.non, o', ok.own, ok.le, .non, h⟩
    · exact hQ _ _ ⟨d, o', ow', l, rv, h⟩
  refine z.imp fun vs H Q E ⟨ds, o, Φ, Ξ, r, ow, hl, ⟨ds1, rest, e, hl1, hS⟩, hQ, hE⟩ => ?_
  subst e
  obtain ⟨v1, v2, e, r1, r2⟩ := r.split
  subst e
  have hl2 : v2.length = m := by
    rw [r2.length]
    rw [List.length_append, hl1] at hl
    omega
  refine ⟨v1, v2, rfl, by rw [r1.length, hl1], by rw [hl2]; exact hm, fun p ob hp hpl => ?_⟩
  have l : Le H o (upd H p (.frz ob (.tup v2))) o := Le.new hp
  have hop : o p = none := ow.free hp
  exact ⟨_, o, Φ, Ξ, (r1.mono l).append (.cons (.ptup upd_same hpl hop (r2.mono l)) .nil), own_new ow hp, by rw [List.length_append, hl1] <;> rfl, hS, fun v H' q => hQ v H' (postE_le l q), fun cls dx H' x o' w' l' rx hx => hE cls dx H' x o' w' (l.trans l') rx hx⟩
/-- a class made by such an __init__(self, *rest): what comes of C(..), as data -/
structure MkS (P : Program) (w : World) (K : PySem.W.Frag) (mg : Str → Option Value) (base : Heap) (τ : Tx) (x : Str) (C : Addr) (j : Nat) (SM : DSp) : Prop where
  g : mg x = some (.ref C)
  ex : ∃ f S, Mk K C f ∧ (∀ m, m ≤ sizeLine → FnD P w K mg base τ j f (1 + m) (starP 1 S)) ∧
    ∀ (ds : List D) (o : O) (Φ : D → O → Prop) (Ξ : DX → Δ → O → Prop) (δ : Δ) (q : Addr), o q = none → SM ds o Φ (fun x o' => Ξ x δ o') → S [.ref q, .ptup ds] (updO o q (.ins C [])) (MkEnd τ C q Φ) (MkExc Ξ δ)
end
section
variable {X : Cx} {τ : Tx} {k j n : Nat} {Ξ : DX → Δ → O → Prop} {Γ : Gm X τ k Ξ} {e : Expr} {es : List Expr} {δ : Δ} {o : O} {pos p p2 : Pos} {Φ : D → O → Prop} {S : DSp} {x : Str} {C : Addr}
theorem mk_same {C q : Addr} : (fun d o2 => d = D.non ∧ MkEnd τ C q Φ d o2) = MkEnd τ C q Φ := by
  funext d o2
  exact propext ⟨fun z => z.2, fun z => ⟨z.1, z⟩⟩
/-- C(e, ..) -/
theorem wp_make [Calm X] (F : MkS X.prog X.w X.K X.mg X.base τ x C j S) (h : WA Γ (e :: es) δ o fun ds o1 => ds.length = (e :: es).length ∧ S ds o1 Φ fun x o' => Ξ x δ o') (hl : (e :: es).length ≤ 1000 := by decide) (hj : j + 1 ≤ k := by decide)
    (hg : Gl X x := by rfl) (hdb : (x == ("__debug__" : Str)) = false := by decide) (he : starEach (e :: es) X.env = (false, eval e X.env) :: starEach es X.env := by rfl) (hpl : (backTo pos (starEach es X.env)).any (·.1) = false := by rfl) : WE Γ (.Call (.Name x p) (e :: es) [] pos) δ o Φ := by
  obtain ⟨f, S0, M, F', hS⟩ := F.ex
  refine we_make M (F' (e :: es).length (Nat.le_trans hl (by decide))) F.g (fun σ H ok => cA_mono (h σ H ok) fun vs H1 ⟨ds, o1, w1, l1, r1, h1, h2⟩ => ⟨ds, o1, w1, l1, r1, by omega, fun q hq => ⟨[.ref q], ds, rfl, rfl, hS ds o1 Φ Ξ δ q hq h2⟩⟩) hj hg hdb he hpl
/-- C() -/
theorem wp_make0 [Calm X] (F : MkS X.prog X.w X.K X.mg X.base τ x C j S) (h : S [] o Φ fun x o' => Ξ x δ o') (hj : j + 1 ≤ k := by decide)
    (hg : Gl X x := by rfl) (hdb : (x == ("__debug__" : Str)) = false := by decide) : WE Γ (.Call (.Name x p) [] [] pos) δ o Φ := by
  obtain ⟨f, S0, M, F', hS⟩ := F.ex
  intro σ H ok pins s I
  refine wpAny_Call_Name_kw (ld_glob I hg F.g ?_ hdb)
  refine PySem.W.callWith_K0 (first := []) I.kIn M.kp ?_
  refine thn (runMk (Γ := Γ) (δ := δ) (Post := fun q d o2 => MkEnd τ C q Φ d o2) M (F' 0 (Nat.zero_le _)) hj (I.tok _) ok .nil .nil (by decide) (Q := PostE X.K τ H o Φ) ?_ ?_) fun u s2 z => z
  · intro q0 h0
    rw [mk_same]
    exact ⟨[.ref q0], [], rfl, rfl, hS [] o Φ Ξ δ q0 h0 h⟩
  · exact fun q d o2 H2 h0 w2 l2 hp => mkEnd_ok w2 l2 hp
/-- the end of C(*e), C known by its address -/
theorem star_end [Calm X] {f : Addr} {S0 : DSp} {σ : L2.St} {H : Hp} {pins : List (Addr × Obj)} {s1 : Shared} {v : Value} (M : Mk X.K C f) (F' : ∀ m, m ≤ sizeLine → FnD X.prog X.w X.K X.mg X.base τ j f (1 + m) (starP 1 S0)) (hj : j + 1 ≤ k) {H1 : Hp} {o1 : O} {y : V} {d : D}
    (I1 : Inv X pins σ H1 s1) (ok : Okk X.K τ Γ.H0 Γ.o0 σ H δ o) (ry : RelV y v) (w1 : Own X.K τ H1 o1) (l1 : Le H o H1 o1) (r1 : R X.K τ H1 o1 y d) {ds : List D} (hd : d = .tup ds ∨ d = .lst ds) (hl : ds.length ≤ sizeLine)
    (q : ∀ q, o1 q = none → S0 [.ref q, .ptup ds] (updO o1 q (.ins C [])) (MkEnd τ C q Φ) (MkExc Ξ δ)) :
    ∃ a xs, y = V.ref a ∧ v = .ref a ∧ (SqT X.K H1 a xs ∨ SqL X.K H1 a xs) ∧ ∀ us s2, Inv X pins σ H1 s2 → Vals xs us → wpAny (model X.prog X.w) X.A (call (.ref C) us) (EP X pins σ (PostE X.K τ H o Φ)) X.xe s2 := by
  have z : ∃ a xs, y = V.ref a ∧ (SqT X.K H1 a xs ∨ SqL X.K H1 a xs) ∧ Rs X.K τ H1 o1 xs ds := by
    rcases hd with e | e
    · subst e
      cases r1 with
      | tup ha rs => exact ⟨_, _, rfl, .inl ha.to, rs⟩
    · subst e
      cases r1 with
      | lst ha _ rs => exact ⟨_, _, rfl, .inr (.of ha), rs⟩
  obtain ⟨a, xs, ey, hxs, rs⟩ := z
  subst ey
  obtain rfl : v = Value.ref a := ry
  refine ⟨a, xs, rfl, rfl, hxs, fun us s2 I2 rv => ?_⟩
  refine thn (runMk (Γ := Γ) (δ := δ) (Post := fun q d o2 => MkEnd τ C q Φ d o2) M (F' ds.length hl) hj I2 (ok.step l1 w1) rv rs (by omega) (Q := PostE X.K τ H1 o1 Φ) ?_ ?_) fun u s2 z => EP.imp z fun v H' p => PostE.le l1 p
  · intro q0 h0
    rw [mk_same]
    exact ⟨[.ref q0], ds, rfl, rfl, q q0 h0⟩
  · exact fun q d o2 H2 h0 w2 l2 hp => mkEnd_ok w2 l2 hp
/-- C(*e) -/
theorem wp_makeStar [Calm X] (F : MkS X.prog X.w X.K X.mg X.base τ x C j S) (h : WE Γ e δ o fun d o1 => ∃ ds, (d = .tup ds ∨ d = .lst ds) ∧ ds.length ≤ sizeLine ∧ S ds o1 Φ fun x o' => Ξ x δ o') (hj : j + 1 ≤ k := by decide)
    (hg : Gl X x := by rfl) (hdb : (x == ("__debug__" : Str)) = false := by decide) (hst : starEach [.Starred e p2] X.env = [(true, eval e X.env)] := by rfl) : WE Γ (.Call (.Name x p) [.Starred e p2] [] pos) δ o Φ := by
  obtain ⟨f, S0, M, F', hS⟩ := F.ex
  intro σ H ok pins s I
  refine wpAny_Call_Name_kw (ld_glob I hg F.g ?_ hdb)
  refine PySem.W.callWith_S (h₀ := X.base) I.ok.mod.kin M.kp (thn (h σ H ok pins s I) fun v s1 ⟨y, H1, I1, ry, d, o1, w1, l1, r1, ds, hd, hl, q⟩ => ?_) hst
  obtain ⟨a, xs, ey, ev, hxs, z⟩ := star_end M F' hj I1 ok ry w1 l1 r1 hd hl fun q0 h0 => hS ds o1 Φ Ξ δ q0 h0 q
  subst ev
  exact StX.star_any I1 hxs fun us s2 I2 rv => ⟨I2.kIn, z us s2 I2 rv⟩
end
/-! ### dict of a plain tuple of pairs -/
section
variable {X : Cx} {τ : Tx} {o : O}
theorem pairs_ofT {pins : List (Addr × Obj)} {σ : L2.St} {H : Hp} {s : Shared} (I : Inv X pins σ H s) : ∀ {ps : List Addr} {kvs : List (Key × V)}, Paired (fun p kv => SqT X.K H p [kV kv.1, kv.2]) ps kvs →
    ∃ (prs : List (Key × Value)) (qs : List (Value × Value)), KV kvs prs ∧ prs.length = ps.length ∧ qs.length = ps.length ∧ ∀ (j : Nat) (q : Value × Value), qs[j]? = some q → ∃ (b : Addr) (k : Key), ps[j]? = some b ∧ IsTup s.heap b #[q.1, q.2] ∧ prs[j]? = some (k, q.2) ∧ keyIs k q.1 = true
  | _, _, .nil => ⟨[], [], .nil, rfl, rfl, fun j q e => by simp at e⟩
  | _, _, .cons (a := p) (b := kv) h t => by
    obtain ⟨prs, qs, r, hl, hl2, hp⟩ := pairs_ofT I t
    obtain ⟨its, rv, ht, _⟩ := I.tuple h
    obtain ⟨u, y, ei, ru, ry⟩ := vals2 rv
    subst ei
    refine ⟨(kv.1, y) :: prs, (u, y) :: qs, .cons ⟨rfl, ry⟩ r, by rw [List.length_cons, List.length_cons, hl], by rw [List.length_cons, List.length_cons, hl2], fun j q e => ?_⟩
    cases j with
    | zero =>
      have e' : (u, y) = q := Option.some.inj e
      subst e'
      exact ⟨p, kv.1, rfl, ht, rfl, kV_is (P := X.prog) (w := X.w) ru⟩
    | succ j =>
      obtain ⟨b, k, e1, e2, e3, e4⟩ := hp j q (by simpa using e)
      exact ⟨b, k, by simpa using e1, e2, by simpa using e3, e4⟩
theorem call_dictT (hcalm : X.calm = true) : CallR X (.type "dict") (fun xs H Q => ∃ (a : Addr) (ps : List Addr) (kvs : List (Key × V)) (ob : Obj), xs = [.ref a] ∧ H a = some (.frz ob (.tup (ps.map V.ref))) ∧ Plain ob ∧ Paired (fun p kv => SqT X.K H p [kV kv.1, kv.2]) ps kvs ∧
    ∀ p, H p = none → Q (.ref p) (upd H p (.dK (mergeK [] kvs)))) := by
  intro pins s σ H xs us Q I r q
  obtain ⟨a, ps, kvs, ob, ex, hq, hpl, hp, q⟩ := q
  subst ex
  obtain ⟨u, eu, rx⟩ := vals1 r
  subst eu
  cases rx
  obtain ⟨hob, hz, its, rv, ob', ho', hc', n, hdat⟩ := I.hok _ _ hq
  rw [hob] at ho'
  cases ho'
  have ei := refs_at rv
  subst ei
  rw [List.length_map] at hz
  obtain ⟨prs, qs, rel, hl, hl2, hpr⟩ := pairs_ofT I hp
  have hlen : (mergeK [] kvs).length ≤ sizeLine := by
    refine Nat.le_trans (length_mergeK kvs []) ?_
    rw [List.length_nil, Nat.zero_add, rel.length, hl]
    exact hz
  have hm : (s.heap.objs.size == sysModules) = false := beq_eq_false_iff_ne.mpr (Nat.ne_of_gt I.big)
  refine PySem.call_dict_pairs (knd := mixKind X.prog X.w) (kvs := prs) (PairArg.tuple (prog := X.prog) (w := X.w) _ (ps.map Value.ref).toArray (fun j => ps.getD j 0) qs) (I.ok.hd hcalm) ⟨⟨_, n, hob, hpl.1, hpl.2, hdat⟩, by simp [hl2], fun j k v e => ?_⟩ ⟨by rw [hl, hl2], fun i key v e => ?_⟩ (by rw [hl2]; exact hz) fun h' tk hd' k => ?_
  · obtain ⟨b, k', e1, e2, e3, e4⟩ := hpr j (k, v) e
    have eg : ps.getD j 0 = b := by rw [List.getD_eq_getElem?_getD, e1]; rfl
    show (List.map Value.ref ps).toArray[j]? = some (Value.ref (ps.getD j 0)) ∧ PairAt s.heap (ps.getD j 0) k v
    rw [eg]
    exact ⟨by simp [e1], .inl e2⟩
  · obtain ⟨b, k', e1, e2, e3, e4⟩ := hpr i (key, v) e
    exact ⟨k', e3, e4⟩
  · exact ⟨.ref s.heap.objs.size, upd H s.heap.objs.size (.dK (mergeK [] kvs)), I.laid (t' := tk) (fun b o e => k b o (by simp) e) (Nat.le_refl _) (show ObjOk X.prog X.w _ _ _ (.dK (mergeK [] kvs)) from ⟨hlen, hm, merged [] prs, KV.merge rel .nil, hd'⟩), rfl, q _ (I.hok.fresh (Nat.le_refl _))⟩
/-- a song as a pair of a dict -/
def songK (p : Str × Int) : Key × D := (.inr p.1, .int p.2)
def songV (p : Str × Int) : Key × V := (.inr p.1, .int p.2)
theorem songs_of {K : PySem.W.Frag} {H : Hp} : ∀ {vs : List V} {ss : List (Str × Int)}, Rs K τ H o vs (ss.map songD) → ∃ ps : List Addr, vs = ps.map V.ref ∧ Paired (fun p kv => SqT K H p [kV kv.1, kv.2]) ps (ss.map songV)
  | _, [], .nil => ⟨[], rfl, .nil⟩
  | _, p :: ss, .cons h r => by
    obtain ⟨ps, e, q⟩ := songs_of r
    subst e
    unfold songD at h
    cases h with
    | tup ha rs =>
      cases rs with
      | cons r1 rs => cases rs with
        | cons r2 rs =>
          cases rs
          cases r1
          cases r2
          exact ⟨_ :: ps, rfl, .cons ha.to q⟩
theorem merge_nodup : ∀ (ss : List (Str × Int)) (acc : List (Key × V)), (∀ p ∈ ss, ∀ q ∈ acc, q.1 ≠ .inr p.1) → (ss.map (·.1)).Nodup → mergeK acc (ss.map songV) = acc ++ ss.map songV
  | [], acc, _, _ => by simp [mergeK]
  | p :: ss, acc, h, hn => by
    rw [List.map_cons, List.nodup_cons] at hn
    have hput : putK acc (.inr p.1) (.int p.2) = acc ++ [songV p] := by
      unfold putK
      rw [if_neg]
      · rfl
      · rw [Bool.not_eq_true, List.any_eq_false]
        intro q hq e
        exact h p (by simp) q hq (of_decide_eq_true e)
    show mergeK (putK acc (.inr p.1) (.int p.2)) (ss.map songV) = _
    rw [hput, merge_nodup ss (acc ++ [songV p]) (fun p' hp' q hq e => ?_) hn.2, List.append_assoc]
    · rfl
    · rcases List.mem_append.mp hq with hq | hq
      · exact h p' (List.mem_cons_of_mem _ hp') q hq e
      · rw [List.mem_singleton] at hq
        subst hq
        have e' : p.1 = p'.1 := Sum.inr.inj e
        exact hn.1 (List.mem_map.mpr ⟨p', hp', e'.symm⟩)
theorem rk_songs {K : PySem.W.Frag} {H : Hp} : ∀ ss : List (Str × Int), Rk K τ H o (ss.map songV) (ss.map songK)
  | [] => .nil
  | p :: ss => .cons (.int p.2) (rk_songs ss)
end
section
variable {X : Cx} {τ : Tx} {k : Nat} {Ξ : DX → Δ → O → Prop} {Γ : Gm X τ k Ξ} {a : Expr} {δ : Δ} {o : O} {pos p : Pos} {Φ : D → O → Prop}
/-- dict(e.listed), e a tape -/
theorem we_dictListed (hc : ClsX X.K τ.tape ["listed", "begins", "total"]) (hm : X.mg "dict" = none) (h : WE Γ a δ o fun d o1 => ∃ ss : List (Str × Int), d = .tape ss ∧ (ss.map (·.1)).Nodup ∧ Φ (.dct (ss.map songK)) o1) (hb : attributeBase a "listed" X.env (eval a X.env) = eval a X.env := by rfl)
    (hcm : X.calm = true := by rfl) (hg : Gl X "dict" := by rfl) (he : starEach (.Attribute a "listed" p :: []) X.env = (false, eval (.Attribute a "listed" p) X.env) :: starEach [] X.env := by rfl) (hpl : (backTo pos (starEach [] X.env)).any (·.1) = false := by rfl) {pn : Pos} :
    WE Γ (.Call (.Name "dict" pn) [.Attribute a "listed" p] [] pos) δ o Φ := fun σ H ok => by
  refine cE_of (pe_callTy (call_dictT hcm) hg hm (by decide +kernel) (pa_cons (pe_fld pe_c hb) pa_nil he) (he := he) (hpl := hpl)) ?_
  refine cE_mono (h σ H ok) fun v H1 ⟨d, o1, w, l, r, ss, e, hn, q⟩ => ?_
  subst e
  cases r with
  | tape hp hno rt hb nb =>
    refine ⟨_, _, _, _, _, rfl, hp, hc.cl, hc.no _ (by decide +kernel), fTape_listed, ?_⟩
    cases rt with
    | ptup ht hpl hto rs =>
      obtain ⟨ps, e, hpr⟩ := songs_of rs
      subst e
      refine ⟨_, ps, _, _, rfl, ht, hpl, hpr, fun p hp0 => ?_⟩
      rw [merge_nodup ss [] (fun _ _ _ h => by simp at h) hn, List.nil_append]
      exact (newE w hp0 (.dct (.inl upd_same) (w.free hp0) (rk_songs ss)) q).le l
end
end DL
set_option Elab.async false
set_option linter.all false
set_option maxRecDepth 100000
set_option maxHeartbeats 2000000
/-! DL25: for and comprehensions over anything that is walked. -/
namespace DL
open PySem PySem.Spec PyProof.Rows L2
section
variable {X : Cx} {τ : Tx} {k j n : Nat} {Ξ : DX → Δ → O → Prop} {Γ : Gm X τ k Ξ} {e a b c : Expr} {es : List Expr} {δ : Δ} {o : O} {pos p apos spos py cpos : Pos} {Φ : D → O → Prop} {x y : Str} {st : Stmt} {sts : List Stmt} {E : DE} {scope : Scope} {ifs : List Expr} {elt : Expr} {tg iter : Expr} {body : List Stmt} {Ψ : List D → O → Prop}
/-- what the walked gives -/
def WI (Γ : Gm X τ k Ξ) (tg iter : Expr) (δ : Δ) (o : O) (Ψ : List D → O → Prop) : Prop := ∀ σ H, Okk X.K τ Γ.H0 Γ.o0 σ H δ o → ∀ R : It → Hp → Prop,
  (∀ J H1 ds o1, Own X.K τ H1 o1 → Le H o H1 o1 → ItD X.K τ J ds H1 o1 → Ψ ds o1 → R J H1) → ∃ ti, PI X tg iter ti ∧ ti σ H R
theorem WI.mono {Ψ' : List D → O → Prop} (h : WI Γ tg iter δ o Ψ) (hm : ∀ ds o1, Ψ ds o1 → Ψ' ds o1) : WI Γ tg iter δ o Ψ' := fun σ H ok R hR =>
  h σ H ok R fun J H1 ds o1 w l it q => hR J H1 ds o1 w l it (hm ds o1 q)
theorem ws_forI (h : WI Γ tg iter δ o fun ds o1 => forD Γ tg body E ds δ o1) (hc : X.calm = true := by rfl) (hs : ∀ x, foldedSetIterable iter X.env x = pure x := by intro _; rfl) : WS Γ (.For tg iter body [] pos) δ o E := fun σ H ok => by
  obtain ⟨ti, hi, z⟩ := h σ H ok _ fun J H1 ds o1 w l it q => for_ItD (ok.step l w) l it q
  exact cS_of (ps_for Γ.po hc hi pg_c pss_c hs) z
theorem we_lcI1 (i : Nat) {x : Str} {tp : Pos} (ok0 : BlkOk X.N X.env.scope scope [(x, i)]) (h : WI Γ (.Name x tp) iter δ o fun ds o1 => ∀ q, o1 q = none → lcD Γ scope [i] ifs elt (wipeD δ [i]) q (lcEnd q Φ) ds (updO o1 q (.lst []))) (hi : X.N[i]? = some x := by rfl) (hx : scope.names.lookup x = some .local := by rfl) (hif : ifs.length ≤ 1 := by decide) (hc : X.calm = true := by rfl) (hs : ∀ x, foldedSetIterable iter X.env x = pure x := by intro _; rfl) : WE Γ (.ListComp elt [⟨.Name x tp, iter, ifs, 0⟩] scope pos) δ o Φ := fun σ H ok => by
  obtain ⟨ti, hti, z⟩ := h σ H ok _ fun J H1 ds o1 w l it q D0 hD => lc_ItD (Φ := Φ) (is := [i]) (vs := [i]) (fun i h => h) (ok.step l w) it hD (q D0 (w.free hD)) fun v H' p => p.le l
  exact cE_of (pe_lc (own := [(x, i)]) (g := gPut X.K [i]) (tt := ttB X scope ifs) (te := tB X scope elt) hc Γ.nd hti ok0 (fun _ _ _ _ _ => pg_name (X := X.blk _ _ _ _ _) Γ.nd hi (loc_blk hx).1 (.inr (loc_blk hx).2)) (fun _ _ _ _ _ => pts_b _ _ _ _ _ ifs hif) (fun _ _ _ _ _ => pe_b _ _ _ _ _) hs) z
/-! ### what is walked -/
theorem wi_str (h : WE Γ iter δ o fun d o1 => ∃ z, d = .str z ∧ Ψ (signsD z) o1) : WI Γ tg iter δ o Ψ := fun σ H ok R hR =>
  ⟨_, pi_str pe_c, cE_mono (h σ H ok) fun v H1 ⟨d, o1, w, l, r, z, e, q⟩ => by
    subst e
    cases r with
    | str => exact ⟨z, rfl, hR _ _ _ _ w l it_str q⟩⟩
theorem lock_of {σ : L2.St} {H : Hp} {f : List (Key × D) → Prop} (ok : Okk X.K τ Γ.H0 Γ.o0 σ H δ o) (h : WE Γ e δ o fun d o1 => ∃ kvs, d = .dct kvs ∧ Ψ (kvs.map fun p => .tup [keyDat p.1, p.2]) o1) {Q : VK}
    (hQ : ∀ v H1 o1 d ob gs kvs, Own X.K τ H1 o1 → Le H o H1 o1 → v = .ref d → H1 d = some (.frz ob (.dK gs)) → o1 d = none → Rk X.K τ H1 o1 gs kvs → Ψ (kvs.map fun p => .tup [keyDat p.1, p.2]) o1 → Q v H1) : cE X e σ H Q := by
  refine cE_lock (cE_mono (h σ H ok) fun v H1 ⟨d, o1, w, l, r, kvs, e1, q⟩ => ?_)
  subst e1
  cases r with
  | @dct a gs _ hd no rk =>
    refine ⟨a, gs, rfl, hd, fun ob H' h' h2 => ?_⟩
    rcases h2 with rfl | ⟨h3, rfl⟩
    · exact hQ _ _ _ _ _ _ _ w l rfl h' no rk q
    · have l2 : Le H1 o1 (upd H1 a (.frz ob (.dK gs))) o1 := Le.lock h3 no
      exact hQ _ _ _ _ _ _ _ (own_lock w h3 no l2) (l.trans l2) rfl h' no (rk.mono l2) q
theorem wi_items {elts : List Expr} {kk : Nat} {tpos : Pos} (h : WE Γ e δ o fun d o1 => ∃ kvs, d = .dct kvs ∧ Ψ (itemsD kvs) o1) (hbase : attributeBase e "items" X.env (eval e X.env) = eval e X.env := by rfl) (hline : (apos.endLine == cpos.line) = true := by rfl) : WI Γ (.Tuple elts kk tpos) (.Call (.Attribute e "items" apos) [] [] cpos) δ o Ψ := fun σ H ok R hR =>
  ⟨_, pi_items pe_c hbase hline, lock_of (Ψ := Ψ) (f := fun _ => True) ok h fun v H1 o1 d ob gs kvs w l ev hd no rk q => ⟨d, ob, gs, ev, hd, hR _ _ _ _ w l (it_items hd no rk) q⟩⟩
theorem wi_values (h : WE Γ e δ o fun d o1 => ∃ kvs, d = .dct kvs ∧ Ψ (kvs.map (·.2)) o1) (hbase : attributeBase e "values" X.env (eval e X.env) = eval e X.env := by rfl) (hline : (apos.endLine == cpos.line) = true := by rfl) : WI Γ tg (.Call (.Attribute e "values" apos) [] [] cpos) δ o Ψ := fun σ H ok R hR =>
  ⟨_, pi_values pe_c hbase hline, lock_of (Ψ := fun ds o1 => ∃ kvs, ds = itemsD kvs ∧ Ψ (kvs.map (·.2)) o1) (f := fun _ => True) ok (WE.mono h fun d o1 ⟨kvs, e1, q⟩ => ⟨kvs, e1, kvs, rfl, q⟩) fun v H1 o1 d ob gs kvs w l ev hd no rk ⟨kvs', e1, q⟩ => by
    have e2 : kvs.map (·.2) = kvs'.map (·.2) := by
      have z : (itemsD kvs).map (fun d => match d with | .tup [_, x] => x | d => d) = (itemsD kvs').map (fun d => match d with | .tup [_, x] => x | d => d) := by rw [← e1] <;> rfl
      unfold itemsD at z
      rw [List.map_map, List.map_map] at z
      exact z
    exact ⟨d, ob, gs, ev, hd, hR _ _ _ _ w l (it_values hd no rk) (by rw [e2]; exact q)⟩⟩
theorem wi_enumL {elts : List Expr} {kk : Nat} {tpos : Pos} (hm : X.mg "enumerate" = none) (h : WA Γ [e] δ o fun ds o1 => ∃ xs, ds = [.lst xs] ∧ Ψ (enumD xs) o1) (hg : Gl X "enumerate" := by rfl) (hs : starEach [e] X.env = [(false, eval e X.env)] := by rfl) : WI Γ (.Tuple elts kk tpos) (.Call (.Name "enumerate" p) [e] [] pos) δ o Ψ := fun σ H ok R hR =>
  ⟨_, pi_enum hg hm pa_c hs, cA_mono (h σ H ok) fun vs H1 ⟨ds, o1, w, l, rs, xs, e1, q⟩ => by
    subst e1
    cases rs with
    | cons r rs =>
      cases rs
      cases r with
      | lst ha no rs => exact ⟨_, _, rfl, .of ha, hR _ _ _ _ w l (it_enum (fun H o l => .of (l.ex no ha rfl).1) rs) q⟩⟩
theorem wi_enumT {elts : List Expr} {kk : Nat} {tpos : Pos} (hm : X.mg "enumerate" = none) (h : WA Γ [e] δ o fun ds o1 => ∃ xs, (ds = [.tup xs] ∨ ds = [.ptup xs]) ∧ Ψ (enumD xs) o1) (hg : Gl X "enumerate" := by rfl) (hs : starEach [e] X.env = [(false, eval e X.env)] := by rfl) : WI Γ (.Tuple elts kk tpos) (.Call (.Name "enumerate" p) [e] [] pos) δ o Ψ := fun σ H ok R hR =>
  ⟨_, pi_enumT hg hm pa_c hs, cA_mono (h σ H ok) fun vs H1 ⟨ds, o1, w, l, rs, xs, e1, q⟩ => by
    have z : Rs X.K τ H1 o1 vs [.tup xs] := by
      rcases e1 with e1 | e1
      · rw [← e1]; exact rs
      · subst e1
        cases rs with
        | cons r rs => cases rs; exact .cons r.ptup_ .nil
    cases z with
    | cons r rs =>
      cases rs
      cases r with
      | tup ha rs => exact ⟨_, _, rfl, ha.to, hR _ _ _ _ w l (it_enumT (fun H o l => (ha.mono l).to) rs) q⟩⟩
end
end DL
set_option Elab.async false
set_option linter.all false
set_option maxRecDepth 100000
set_option maxHeartbeats 2000000
/-! DL26: comprehensions over an owned list, dict comprehensions, len(set(..)), setdefault. -/
namespace DL
open PySem PySem.Spec PyProof.Rows L2
section
variable {X : Cx} {τ : Tx} {k j n : Nat} {Ξ : DX → Δ → O → Prop} {Γ : Gm X τ k Ξ} {e a b c : Expr} {es : List Expr} {δ : Δ} {o : O} {pos p p2 apos spos py cpos : Pos} {Φ : D → O → Prop} {x y : Str} {st : Stmt} {sts : List Stmt} {E : DE} {scope : Scope} {ifs : List Expr} {elt : Expr} {tg iter : Expr} {body : List Stmt} {Ψ : List D → O → Prop}
/-! ### an owned list is walked by a comprehension -/
def lcDO (Γ : Gm X τ k Ξ) (scope : Scope) (is : List Nat) (ifs : List Expr) (elt : Expr) (δ0 : Δ) (q : Addr) (Φ : O → Prop) (src : Addr) (xs : List D) : List D → O → Prop
  | [], o => o src = some (.lst xs) ∧ Φ o
  | d :: ds, o => o src = some (.lst xs) ∧ ∃ δ1, putB is d δ0 = some δ1 ∧ BTs Γ scope ifs δ1 o fun b o1 => if b = true then BE Γ scope elt δ1 o1 fun d' o2 => ∃ acc, o2 q = some (.lst acc) ∧ acc.length < sizeLine ∧ lcDO Γ scope is ifs elt δ0 q Φ src xs ds (updO o2 q (.lst (acc ++ [d']))) else lcDO Γ scope is ifs elt δ0 q Φ src xs ds o1
theorem lcDO.src {is : List Nat} {δ0 : Δ} {q : Addr} {Φ : O → Prop} {src : Addr} {xs ds : List D} (h : lcDO Γ scope is ifs elt δ0 q Φ src xs ds o) : o src = some (.lst xs) := by
  cases ds with
  | nil => exact h.1
  | cons d ds => exact h.1
theorem walk_lenL {K : PySem.W.Frag} {a : Addr} {n : Nat} : Walk (Itl K a) n (fun H => ∃ vs, SqL K H a vs ∧ vs.length = n) (fun i H x H' => H' = H ∧ ∀ vs, SqL K H a vs → vs[i]? = some x) :=
  ⟨fun i H hi ⟨vs, q, e⟩ => ⟨vs, vs[i]'(by omega), q, by simp [show i < vs.length by omega]⟩, fun H ⟨vs, q, e⟩ => ⟨vs, q, by omega⟩, fun i H x H' _ _ y => y⟩
theorem lc_readO {σ : L2.St} {src D0 : Addr} {Q : VK} {is vs : List Nat} {xs : List D} {H1 : Hp} {o1 : O} (hs : ∀ i ∈ is, i ∈ vs) (ok : Okk X.K τ Γ.H0 Γ.o0 σ H1 δ o1) (hD : H1 D0 = none)
    (h : lcDO Γ scope is ifs elt (wipeD δ vs) D0 (lcEnd D0 Φ) src xs xs (updO o1 D0 (.lst []))) (hQ : ∀ v H', PostE X.K τ H1 o1 Φ v H' → Q v H') :
    ∃ W : Nat → Nat → Hp → Prop, (∃ m, W 0 m (upd H1 D0 (.lst []))) ∧ ∀ i m H, W i m H →
      ((Itl X.K src).stop i H ∧ Q (.ref D0) H) ∨ ((Itl X.K src).go i H ∧ ∃ Nx : Hp → Prop, (∀ H', Nx H' → ∃ m', m' < m ∧ W (i + 1) m' H') ∧ ∀ x H', (Itl X.K src).yld i H x H' → gPut X.K is x (wipe σ vs) H' fun σ2 H2 => wipe σ2 vs = wipe σ vs ∧ ttB X scope ifs σ2 H2 fun b H3 =>
        if b = true then tB X scope elt σ2 H3 fun y H4 => ∃ acc, H4 D0 = some (.lst acc) ∧ acc.length < sizeLine ∧ Nx (upd H4 D0 (.lst (acc ++ [y]))) else Nx H3) := by
  have l0 : Le H1 o1 (upd H1 D0 (.lst [])) (updO o1 D0 (.lst [])) := Le.newO hD
  have w0 : Own X.K τ (upd H1 D0 (.lst [])) (updO o1 D0 (.lst [])) := fun a y e => by
    by_cases ha : a = D0
    · subst ha
      rw [updO_same] at e
      cases e
      exact ⟨[], upd_same, .nil⟩
    · rw [updO_ne ha] at e
      have := ok.own a y e
      cases y with
      | lst ds => obtain ⟨vs, h1, h2⟩ := this; exact ⟨vs, by rw [upd_ne ha]; exact h1, h2.mono l0⟩
      | ins C fs => obtain ⟨dx, gs, h1, h2⟩ := this; exact ⟨dx, gs, by rw [upd_ne ha]; exact h1, h2.mono l0⟩
      | dct kvs => obtain ⟨gs, h1, h2⟩ := this; exact ⟨gs, by rw [upd_ne ha]; exact h1, h2.mono l0⟩
      | xd gs fs => obtain ⟨h1, h2⟩ := this; exact ⟨by rw [upd_ne ha]; exact h1, h2.mono l0⟩
      | lam u c qn => obtain ⟨h1, e2, e3⟩ := this; exact ⟨by rw [upd_ne ha]; exact h1, (l0.ex e3 e2 rfl).1, (l0.ex e3 e2 rfl).2⟩
      | tbl qn => obtain ⟨ps, h1, h2, h3⟩ := this; exact ⟨ps, by rw [upd_ne ha]; exact h1, h2, fun p cv e => let ⟨c, e1, e2, e3⟩ := h3 p cv e; ⟨c, e1, (l0.ex e3 e2 rfl).1, (l0.ex e3 e2 rfl).2⟩⟩
  refine lc_it (walk_lenL (K := X.K) (a := src) (n := xs.length)) (g := gPut X.K is) (tt := ttB X scope ifs) (te := tB X scope elt) (fun i H => ∃ o, Le H1 o1 H o ∧ Own X.K τ H o ∧ lcDO Γ scope is ifs elt (wipeD δ vs) D0 (lcEnd D0 Φ) src xs (xs.drop i) o) ⟨_, l0, w0, h⟩ (fun i H hi ⟨o, l, w, q⟩ => ?_) (fun i x H H' hi hp y => ?_) (fun H hp => ?_)
  · obtain ⟨vs', h1, h2⟩ := w src _ q.src
    exact ⟨vs', .of h1, h2.length⟩
  · obtain ⟨rfl, hy⟩ := y
    obtain ⟨o, l, w1, hl⟩ := hp
    obtain ⟨vs', h1, h2⟩ := w1 src _ hl.src
    obtain ⟨d, e, r⟩ := h2.of_get (hy vs' (.of h1))
    rw [List.drop_eq_getElem_cons hi] at hl
    have hd : xs[i] = d := (List.getElem?_eq_some_iff.mp e).2
    rw [hd] at hl
    obtain ⟨-, δ1, hp, h⟩ := hl
    refine put_ok hs (okk_wipe (ok.step l w1) vs) r hp fun σ1 ok1 hw => ⟨hw.trans wipe_wipe, ?_⟩
    refine tts_of ok1 h fun b H3 ⟨o3, w3, l3, h⟩ => ?_
    have ok3 := ok1.step l3 w3
    cases b with
    | false =>
      rw [if_neg Bool.false_ne_true] at h ⊢
      exact ⟨o3, l.trans l3, w3, h⟩
    | true =>
      rw [if_pos rfl] at h ⊢
      refine fun s H' C cl fp => cE_mono (h s H' C cl fp σ1 H3 ok3) fun y H4 ⟨d', o4, w4, l4, r4, acc, hq, hlen, h⟩ => ?_
      obtain ⟨ws, hw1, hw2⟩ := w4 D0 _ hq
      have lw : Le H4 o4 (upd H4 D0 (.lst (ws ++ [y]))) (updO o4 D0 (.lst (acc ++ [d']))) := Le.write hq
      refine ⟨ws, hw1, by rw [hw2.length]; exact hlen, _, ((l.trans l3).trans l4).trans lw, ?_, h⟩
      refine w4.write hq ⟨_, upd_same, ?_⟩
      exact (hw2.append (.cons r4 .nil)).mono lw
  · obtain ⟨o, l, w, h⟩ := hp
    rw [List.drop_length] at h
    obtain ⟨-, h⟩ := h
    rcases h with ⟨oo, acc, rfl, hoq, h⟩ | h
    · obtain ⟨w2, l2⟩ := w.less (updO_less hoq)
      obtain ⟨ws, hw1, hw2⟩ := w D0 _ updO_same
      exact hQ _ _ ⟨.lst acc, oo, w2, l.trans l2, .lst hw1 hoq (hw2.mono l2), h⟩
    · exact hQ _ _ ⟨.ref D0, o, w, l, .ref D0, h⟩
theorem we_lcO1 (i : Nat) {x : Str} {tp : Pos} (ok0 : BlkOk X.N X.env.scope scope [(x, i)]) (h : WE Γ iter δ o fun d o1 => ∃ src xs, d = .ref src ∧ o1 src = some (.lst xs) ∧ ∀ q, o1 q = none → lcDO Γ scope [i] ifs elt (wipeD δ [i]) q (lcEnd q Φ) src xs xs (updO o1 q (.lst []))) (hi : X.N[i]? = some x := by rfl) (hx : scope.names.lookup x = some .local := by rfl) (hif : ifs.length ≤ 1 := by decide) (hc : X.calm = true := by rfl) (hs : ∀ x, foldedSetIterable iter X.env x = pure x := by intro _; rfl) : WE Γ (.ListComp elt [⟨.Name x tp, iter, ifs, 0⟩] scope pos) δ o Φ := fun σ H ok => by
  refine cE_of (pe_lc (own := [(x, i)]) (g := gPut X.K [i]) (tt := ttB X scope ifs) (te := tB X scope elt) hc Γ.nd (pi_list pe_c) ok0 (fun _ _ _ _ _ => pg_name (X := X.blk _ _ _ _ _) Γ.nd hi (loc_blk hx).1 (.inr (loc_blk hx).2)) (fun _ _ _ _ _ => pts_b _ _ _ _ _ ifs hif) (fun _ _ _ _ _ => pe_b _ _ _ _ _) hs) ?_
  refine cE_mono (h σ H ok) fun v H1 ⟨d, o1, w, l, r, src, xs, e1, e2, q⟩ => ?_
  subst e1
  cases r
  obtain ⟨vs', h1, h2⟩ := w src _ e2
  exact ⟨src, rfl, ⟨vs', .of h1⟩, fun D0 hD => lc_readO (Φ := Φ) (fun i h => h) (ok.step l w) hD (q D0 (w.free hD)) fun v H' p => p.le l⟩
/-! ### dict comprehensions -/
def dcD (Γ : Gm X τ k Ξ) (scope : Scope) (is : List Nat) (ifs : List Expr) (kx vx : Expr) (δ0 : Δ) (q : Addr) (Φ : O → Prop) : List D → O → Prop
  | [], o => Φ o
  | d :: ds, o => ∃ δ1, putB is d δ0 = some δ1 ∧ BTs Γ scope ifs δ1 o fun b o1 => if b = true then BE Γ scope kx δ1 o1 fun dk o2 => BE Γ scope vx δ1 o2 fun d' o3 => ∃ acc kk, keyD dk = some kk ∧ o3 q = some (.dct acc) ∧ acc.length < sizeLine ∧ dcD Γ scope is ifs kx vx δ0 q Φ ds (updO o3 q (.dct (storeD acc kk d'))) else dcD Γ scope is ifs kx vx δ0 q Φ ds o1
def dcEnd (q : Addr) (Φ : D → O → Prop) (o : O) : Prop := (∃ oo acc, o = updO oo q (.dct acc) ∧ oo q = none ∧ Φ (.dct acc) oo) ∨ Φ (.ref q) o
theorem dc_ItD {is vs : List Nat} {kx vx : Expr} {σ : L2.St} {H1 : Hp} {o1 : O} {D0 : Addr} {Q : VK} {J : It} {ds : List D} (hs : ∀ i ∈ is, i ∈ vs) (ok : Okk X.K τ Γ.H0 Γ.o0 σ H1 δ o1) (it : ItD X.K τ J ds H1 o1) (hD : H1 D0 = none)
    (h : dcD Γ scope is ifs kx vx (wipeD δ vs) D0 (dcEnd D0 Φ) ds (updO o1 D0 (.dct []))) (hQ : ∀ v H', PostE X.K τ H1 o1 Φ v H' → Q v H') :
    ∃ W : Nat → Nat → Hp → Prop, (∃ m, W 0 m (upd H1 D0 (.dK []))) ∧ ∀ i m H, W i m H →
      (J.stop i H ∧ Q (.ref D0) H) ∨ (J.go i H ∧ ∃ Nx : Hp → Prop, (∀ H', Nx H' → ∃ m', m' < m ∧ W (i + 1) m' H') ∧ ∀ x H', J.yld i H x H' → gPut X.K is x (wipe σ vs) H' fun σ2 H2 => wipe σ2 vs = wipe σ vs ∧ ttB X scope ifs σ2 H2 fun b H3 =>
        if b = true then tB X scope kx σ2 H3 fun y H4 => tB X scope vx σ2 H4 fun z H5 => ∃ kvs k, y = kV k ∧ H5 D0 = some (.dK kvs) ∧ kvs.length < sizeLine ∧ Nx (upd H5 D0 (.dK (putK kvs k z))) else Nx H3) := by
  have l0 : Le H1 o1 (upd H1 D0 (.dK [])) (updO o1 D0 (.dct [])) := Le.newO hD
  have w0 : Own X.K τ (upd H1 D0 (.dK [])) (updO o1 D0 (.dct [])) := fun a y e => by
    by_cases ha : a = D0
    · subst ha
      rw [updO_same] at e
      cases e
      exact ⟨[], upd_same, .nil⟩
    · rw [updO_ne ha] at e
      have := ok.own a y e
      cases y with
      | lst ds => obtain ⟨vs, h1, h2⟩ := this; exact ⟨vs, by rw [upd_ne ha]; exact h1, h2.mono l0⟩
      | ins C fs => obtain ⟨dx, gs, h1, h2⟩ := this; exact ⟨dx, gs, by rw [upd_ne ha]; exact h1, h2.mono l0⟩
      | dct kvs => obtain ⟨gs, h1, h2⟩ := this; exact ⟨gs, by rw [upd_ne ha]; exact h1, h2.mono l0⟩
      | xd gs fs => obtain ⟨h1, h2⟩ := this; exact ⟨by rw [upd_ne ha]; exact h1, h2.mono l0⟩
      | lam u c qn => obtain ⟨h1, e2, e3⟩ := this; exact ⟨by rw [upd_ne ha]; exact h1, (l0.ex e3 e2 rfl).1, (l0.ex e3 e2 rfl).2⟩
      | tbl qn => obtain ⟨ps, h1, h2, h3⟩ := this; exact ⟨ps, by rw [upd_ne ha]; exact h1, h2, fun p cv e => let ⟨c, e1, e2, e3⟩ := h3 p cv e; ⟨c, e1, (l0.ex e3 e2 rfl).1, (l0.ex e3 e2 rfl).2⟩⟩
  obtain ⟨Gd, Y, w, hg, hy⟩ := it
  let Pv : Nat → Hp → Prop := fun i H => ∃ o, Le H1 o1 H o ∧ Own X.K τ H o ∧ dcD Γ scope is ifs kx vx (wipeD δ vs) D0 (dcEnd D0 Φ) (ds.drop i) o
  refine ⟨fun i m H => m = ds.length - i ∧ i ≤ ds.length ∧ Pv i H, ⟨ds.length, by simp, Nat.zero_le _, _, l0, w0, h⟩, ?_⟩
  rintro i m H ⟨rfl, hi, o, l, w1, hl⟩
  have q := hg H o (l)
  by_cases hlt : i < ds.length
  · refine .inr ⟨w.goes i H hlt q, Pv (i + 1), fun H' p' => ⟨ds.length - (i + 1), by omega, rfl, hlt, p'⟩, fun x H' y => ?_⟩
    obtain ⟨d, e, w2, l2, r⟩ := hy i x H o H' hlt l w1 (w.yields i H x H' hlt q y)
    rw [List.drop_eq_getElem_cons hlt] at hl
    have hd : ds[i] = d := (List.getElem?_eq_some_iff.mp e).2
    rw [hd] at hl
    obtain ⟨δ1, hp, h⟩ := hl
    have l := l.trans l2
    refine put_ok hs (okk_wipe (ok.step l w2) vs) r hp fun σ1 ok1 hw => ⟨hw.trans wipe_wipe, ?_⟩
    refine tts_of ok1 h fun b H3 ⟨o3, w3, l3, h⟩ => ?_
    have ok3 := ok1.step l3 w3
    cases b with
    | false =>
      rw [if_neg Bool.false_ne_true] at h ⊢
      exact ⟨o3, l.trans l3, w3, h⟩
    | true =>
      rw [if_pos rfl] at h ⊢
      refine fun s H' C cl fp => cE_mono (h s H' C cl fp σ1 H3 ok3) fun y H4 ⟨dk, o4, w4, l4, r4, h⟩ => ?_
      refine fun s H' C cl fp => cE_mono (h s H' C cl fp σ1 H4 (ok3.step l4 w4)) fun z H5 ⟨d', o5, w5, l5, r5, acc, kk, hk, hq, hlen, h⟩ => ?_
      obtain ⟨ws, hw1, hw2⟩ := w5 D0 _ hq
      have lw : Le H5 o5 (upd H5 D0 (.dK (putK ws kk z))) (updO o5 D0 (.dct (storeD acc kk d'))) := Le.write hq
      refine ⟨ws, kk, r4.key hk, hw1, by rw [hw2.length]; exact hlen, _, (((l.trans l3).trans l4).trans l5).trans lw, ?_, h⟩
      refine w5.write hq ⟨_, upd_same, ?_⟩
      exact (hw2.put r5).mono lw
  · have e : i = ds.length := by omega
    subst e
    refine .inl ⟨w.stops H q, ?_⟩
    rw [List.drop_length] at hl
    rcases hl with ⟨oo, acc, rfl, hoq, h⟩ | h
    · obtain ⟨w2, l2⟩ := w1.less (updO_less hoq)
      obtain ⟨ws, hw1, hw2⟩ := w1 D0 _ updO_same
      exact hQ _ _ ⟨.dct acc, oo, w2, l.trans l2, .dct (.inl hw1) hoq (hw2.mono l2), h⟩
    · exact hQ _ _ ⟨.ref D0, _, w1, l, .ref D0, h⟩
theorem we_dcI2 (i j : Nat) {kx vx : Expr} {x x2 : Str} {tp tp2 tpt : Pos} {kt : Nat} (ok0 : BlkOk X.N X.env.scope scope [(x, i), (x2, j)]) (h : WI Γ (.Tuple [.Name x tp, .Name x2 tp2] kt tpt) iter δ o fun ds o1 => ∀ q, o1 q = none → dcD Γ scope [i, j] ifs kx vx (wipeD δ [i, j]) q (dcEnd q Φ) ds (updO o1 q (.dct []))) (hi : X.N[i]? = some x := by rfl) (hx : scope.names.lookup x = some .local := by rfl) (hi2 : X.N[j]? = some x2 := by rfl) (hx2 : scope.names.lookup x2 = some .local := by rfl) (hc2 : ∀ env : Env, (assignEach [.Name x tp, .Name x2 tp2] env).length = 2 := by intro _; rfl) (hif : ifs.length ≤ 1 := by decide) (hc : X.calm = true := by rfl) (hs : ∀ x, foldedSetIterable iter X.env x = pure x := by intro _; rfl) : WE Γ (.DictComp kx vx [⟨.Tuple [.Name x tp, .Name x2 tp2] kt tpt, iter, ifs, 0⟩] scope pos) δ o Φ := fun σ H ok => by
  obtain ⟨ti, hti, z⟩ := h σ H ok _ fun J H1 ds o1 w l it q D0 hD => dc_ItD (Φ := Φ) (kx := kx) (vx := vx) (is := [i, j]) (vs := [i, j]) (fun i h => h) (ok.step l w) it hD (q D0 (w.free hD)) fun v H' p => p.le l
  exact cE_of (pe_dc (own := [(x, i), (x2, j)]) (g := gPut X.K [i, j]) (tt := ttB X scope ifs) (tk := tB X scope kx) (tv := tB X scope vx) hc Γ.nd hti ok0 (fun _ _ _ _ _ => pg_tup (X := X.blk _ _ _ _ _) hc (pgs_cons (pg_name (X := X.blk _ _ _ _ _) Γ.nd hi (loc_blk hx).1 (.inr (loc_blk hx).2)) (pgs_cons (pg_name (X := X.blk _ _ _ _ _) Γ.nd hi2 (loc_blk hx2).1 (.inr (loc_blk hx2).2)) pgs_nil rfl) rfl) (hc2 _) rfl) (fun _ _ _ _ _ => pts_b _ _ _ _ _ ifs hif) (fun _ _ _ _ _ => pe_b _ _ _ _ _) (fun _ _ _ _ _ => pe_b _ _ _ _ _) hs) z
/-! ### len(set(xs)), xs a list of ints -/
/-! ### d.setdefault(k, []): d an owned dict of owned lists -/
theorem we_setd {ep : Pos} (h : WE Γ a δ o fun d1 o1 => (∃ q kvs, d1 = .ref q ∧ o1 q = some (.dct kvs)) ∧ WE Γ b δ o1 fun d2 o2 => ∃ q kvs kk, d1 = .ref q ∧ o2 q = some (.dct kvs) ∧ keyD d2 = some kk ∧ kvs.length < sizeLine ∧
      (∀ d, valD kvs kk = some d → Φ d o2) ∧ (valD kvs kk = none → ∀ p, o2 p = none → Φ (.ref p) (updO (updO o2 p (.lst [])) q (.dct (storeD kvs kk (.ref p))))))
    (m : M2 X a "setdefault" apos b (.List [] ep) cpos := by exact ⟨rfl, rfl, rfl, rfl⟩) : WE Γ (.Call (.Attribute a "setdefault" apos) [b, .List [] ep] [] cpos) δ o Φ := fun σ H ok => by
  refine cE_of (pe_dsetd pe_c pe_c pe_c m) ?_
  refine cE_mono (h σ H ok) fun x H1 ⟨d1, o1, w1, l1, r1, ⟨q0, kvs0, e0, h0⟩, h1⟩ => ?_
  subst e0
  cases r1
  obtain ⟨gs0, g0, _⟩ := w1 q0 _ h0
  refine ⟨q0, rfl, .inl ⟨gs0, .inl g0⟩, ?_⟩
  have ok1 := ok.step l1 w1
  refine cE_mono (h1 σ H1 ok1) fun y H2 ⟨d2, o2, w2, l2, r2, q, kvs, kk, e1, e2, e3, e4, h2, h3⟩ => ?_
  cases e1
  have ok2 := ok1.step l2 w2
  obtain ⟨gs, g1, g2⟩ := w2 q0 _ e2
  have ek := r2.key e3
  subst ek
  cases ev : valD kvs kk with
  | some d =>
    have z : WE Γ (.List [] ep) δ o2 fun d3 o3 => d3 = .lst [] ∧ o3 = o2 := we_lst (wa_nil ⟨Nat.zero_le _, rfl, rfl⟩)
    refine cE_mono (z σ H2 ok2) fun f H3 ⟨d3, o3, w3, l3, r3, e5, e6⟩ => ?_
    subst e6
    obtain ⟨gs', g1', g2'⟩ := w3 q0 _ e2
    rcases g2'.val (k := kk) with ⟨z1, z2⟩ | ⟨v, d', z1, z2, z3⟩
    · rw [ev] at z2; cases z2
    · rw [ev] at z2
      cases z2
      refine ⟨gs', kk, g1', rfl, by rw [g2'.length]; exact e4, fun v' hv => ?_, fun hn => ?_⟩
      · rw [z1] at hv
        cases hv
        exact ⟨d, _, w3, (l1.trans l2).trans l3, z3, h2 d ev⟩
      · rw [z1] at hn; cases hn
  | none =>
    have z : WE Γ (.List [] ep) δ o2 fun d3 o3 => ∃ p, o2 p = none ∧ d3 = .ref p ∧ o3 = updO o2 p (.lst []) := we_lstO (wa_nil ⟨Nat.zero_le _, fun p hp => ⟨p, hp, rfl, rfl⟩⟩)
    refine cE_mono (z σ H2 ok2) fun f H3 ⟨d3, o3, w3, l3, r3, p, hp, e5, e6⟩ => ?_
    subst e5 e6
    have hpq : q0 ≠ p := fun z => by rw [z, hp] at e2; cases e2
    have e2' : updO o2 p (.lst []) q0 = some (.dct kvs) := by rw [updO_ne hpq]; exact e2
    obtain ⟨gs', g1', g2'⟩ := w3 q0 _ e2'
    rcases g2'.val (k := kk) with ⟨z1, z2⟩ | ⟨v, d', z1, z2, z3⟩
    · refine ⟨gs', kk, g1', rfl, by rw [g2'.length]; exact e4, fun v' hv => ?_, fun hn => ?_⟩
      · rw [z1] at hv; cases hv
      · have lw : Le H3 (updO o2 p (.lst [])) (upd H3 q0 (.dK (putK gs' kk f))) (updO (updO o2 p (.lst [])) q0 (.dct (storeD kvs kk (.ref p)))) := Le.write e2'
        have w4 := w3.write e2' (u := .dK (putK gs' kk f)) (y := .dct (storeD kvs kk (.ref p))) ⟨_, upd_same, (g2'.put r3).mono lw⟩
        exact ⟨_, _, w4, ((l1.trans l2).trans l3).trans lw, r3.mono lw, h3 ev p hp⟩
    · rw [ev] at z2; cases z2
end
end DL
set_option Elab.async false
set_option linter.all false
set_option maxRecDepth 100000
set_option maxHeartbeats 2000000
/-! RD6: anything walked, isinstance, makers with stars, dict comprehensions, owned lists walked, setdefault, len(set(..)), own == and in. -/
namespace RD
open PySem PySem.Spec PyProof.Rows L2 DL
section
variable {X : Cx} {τ : Tx} {k j n : Nat} {e a b c iter elt tg : Expr} {es ifs : List Expr} {pos p p2 apos spos py cpos : Pos} {ta tb tc te : RE} {tas : RA} {x y z : Str} {S : DSp} {C : Addr} {m : Str} {st : Stmt} {sts body : List Stmt} {ts tu : RS} {tt : RT} {g : RG} {scope : Scope}
/-! ### anything walked -/
abbrev RI := XW → Δ → O → (List D → O → Prop) → Prop
structure TrI (X : Cx) (τ : Tx) (k : Nat) (tg e : Expr) (t : RI) : Prop where
  h : ∀ Ξ (Γ : Gm X τ k Ξ) δ o Ψ, t Ξ δ o Ψ → WI Γ tg e δ o Ψ
variable {ti : RI}
def onS (d : D) (f : Str → Prop) : Prop := match d with | .str z => f z | _ => False
theorem onS.out {d : D} {f : Str → Prop} (h : onS d f) : ∃ z, d = .str z ∧ f z := by
  unfold onS at h
  split at h
  · exact ⟨_, rfl, h⟩
  · exact h.elim
def onK (d : D) (f : List (Key × D) → Prop) : Prop := match d with | .dct z => f z | _ => False
theorem onK.out {d : D} {f : List (Key × D) → Prop} (h : onK d f) : ∃ z, d = .dct z ∧ f z := by
  unfold onK at h
  split at h
  · exact ⟨_, rfl, h⟩
  · exact h.elim
def onQ (d : D) (f : List D → Prop) : Prop := match d with | .tup z => f z | .ptup z => f z | _ => False
theorem onQ.out {d : D} {f : List D → Prop} (h : onQ d f) : ∃ z, (d = .tup z ∨ d = .ptup z) ∧ f z := by
  unfold onQ at h
  split at h
  · exact ⟨_, .inl rfl, h⟩
  · exact ⟨_, .inr rfl, h⟩
  · exact h.elim
theorem seqL.out {d : D} {f : List D → Prop} (h : seqL d f) : ∃ z, d = .lst z ∧ f z := by
  unfold seqL at h
  split at h
  · exact ⟨_, rfl, h⟩
  · exact h.elim
def iStr (a : RE) : RI := fun Ξ δ o Ψ => a Ξ δ o fun d o1 => onS d fun z => Ψ (signsD z) o1
def iItems (a : RE) : RI := fun Ξ δ o Ψ => a Ξ δ o fun d o1 => onK d fun z => Ψ (itemsD z) o1
def iVals (a : RE) : RI := fun Ξ δ o Ψ => a Ξ δ o fun d o1 => onK d fun z => Ψ (z.map (·.2)) o1
def iEnumL (a : RE) : RI := fun Ξ δ o Ψ => a Ξ δ o fun d o1 => seqL d fun z => Ψ (enumD z) o1
def iEnumT (a : RE) : RI := fun Ξ δ o Ψ => a Ξ δ o fun d o1 => onQ d fun z => Ψ (enumD z) o1
theorem i_str (h : TrE X τ k e ta) : TrI X τ k tg e (iStr ta) := .mk fun Ξ Γ δ o Ψ q => wi_str ((h.h _ _ _ _ _ q).mono fun d o1 q => onS.out q)
theorem i_items {elts : List Expr} {kk : Nat} {tpos : Pos} (h : TrE X τ k e ta) (hbase : attributeBase e "items" X.env (eval e X.env) = eval e X.env := by rfl) (hline : (apos.endLine == cpos.line) = true := by rfl) : TrI X τ k (.Tuple elts kk tpos) (.Call (.Attribute e "items" apos) [] [] cpos) (iItems ta) :=
  .mk fun Ξ Γ δ o Ψ q => wi_items ((h.h _ _ _ _ _ q).mono fun d o1 q => onK.out q) hbase hline
theorem i_values (h : TrE X τ k e ta) (hbase : attributeBase e "values" X.env (eval e X.env) = eval e X.env := by rfl) (hline : (apos.endLine == cpos.line) = true := by rfl) : TrI X τ k tg (.Call (.Attribute e "values" apos) [] [] cpos) (iVals ta) :=
  .mk fun Ξ Γ δ o Ψ q => wi_values ((h.h _ _ _ _ _ q).mono fun d o1 q => onK.out q) hbase hline
theorem i_enumL {elts : List Expr} {kk : Nat} {tpos : Pos} (hm : GloN X.mg "enumerate") (h : TrE X τ k e ta) (hg : Gl X "enumerate" := by rfl) (hs : starEach [e] X.env = [(false, eval e X.env)] := by rfl) : TrI X τ k (.Tuple elts kk tpos) (.Call (.Name "enumerate" p) [e] [] pos) (iEnumL ta) :=
  .mk fun Ξ Γ δ o Ψ q => wi_enumL hm (wa_cons ((h.h _ _ _ _ _ q).mono fun d o1 q => wa_nil (by obtain ⟨z, e, q⟩ := seqL.out q; exact ⟨z, by rw [e], q⟩)) hs) hg hs
theorem i_enumT {elts : List Expr} {kk : Nat} {tpos : Pos} (hm : GloN X.mg "enumerate") (h : TrE X τ k e ta) (hg : Gl X "enumerate" := by rfl) (hs : starEach [e] X.env = [(false, eval e X.env)] := by rfl) : TrI X τ k (.Tuple elts kk tpos) (.Call (.Name "enumerate" p) [e] [] pos) (iEnumT ta) :=
  .mk fun Ξ Γ δ o Ψ q => wi_enumT hm (wa_cons ((h.h _ _ _ _ _ q).mono fun d o1 q => wa_nil (by
    obtain ⟨z, e, q⟩ := onQ.out q
    exact ⟨z, e.imp (fun e => by rw [e]) (fun e => by rw [e]), q⟩)) hs) hg hs
def sForI (ms cs : List Nat) (g : RG) (a : RI) (body : RS) : RS := fun Ξ δ o E => a Ξ δ o fun ds o1 => FOR ms cs g body ds Ξ δ o1 E
theorem s_forI (ms cs : List Nat) (h : TrI X τ k tg iter ti) (hg : TrG X τ k tg g) (hb : TrSs X τ k body ts) (hc : X.calm = true := by rfl) (hs : ∀ x, foldedSetIterable iter X.env x = pure x := by intro _; rfl) : TrS X τ k (.For tg iter body [] pos) (sForI ms cs g ti ts) := .mk fun Ξ Γ δ o E q =>
  WS.wk (ws_forI ((h.h _ _ _ _ _ q).mono fun ds o1 q => forD_of hg hb q) hc hs)
def rLcI (vs : List Nat) (turn : Δ → D → O → (Option D → O → Prop) → Prop) (a : RI) : RE := fun Ξ δ o Φ => a Ξ δ o fun ds o1 => force (swipe δ vs) fun δ0 => LC (turn δ0) ds o1 Φ
theorem t_lcI1 (i : Nat) {x : Str} {tp : Pos} (ok0 : BlkOk X.N X.env.scope scope [(x, i)]) (h : TrI X τ k (.Name x tp) iter ti) {turn : Δ → D → O → (Option D → O → Prop) → Prop} (hl : TrLc X τ k scope [i] ifs elt turn) (hi : X.N[i]? = some x := by rfl) (hx : scope.names.lookup x = some .local := by rfl) (hif : ifs.length ≤ 1 := by decide) (hc : X.calm = true := by rfl) (hs : ∀ x, foldedSetIterable iter X.env x = pure x := by intro _; rfl) : TrE X τ k (.ListComp elt [⟨.Name x tp, iter, ifs, 0⟩] scope pos) (rLcI [i] turn ti) := .mk fun Ξ Γ δ o Φ q =>
  we_lcI1 i ok0 ((h.h _ _ _ _ _ q).mono fun ds o1 q q0 h0 => lcOut hl q q0 h0) hi hx hif hc hs
/-! ### an owned list walked by a comprehension -/
def lcQO (turn : D → O → (Option D → O → Prop) → Prop) (src : Addr) (xs : List D) (q : Addr) (Φ : O → Prop) : List D → O → Prop
  | [], o => o src = some (.lst xs) ∧ Φ o
  | d :: ds, o => o src = some (.lst xs) ∧ turn d o fun r o1 => match r with
    | some d' => ∃ acc, o1 q = some (.lst acc) ∧ acc.length < sizeLine ∧ lcQO turn src xs q Φ ds (updO o1 q (.lst (acc ++ [d'])))
    | none => lcQO turn src xs q Φ ds o1
@[irreducible] def LCO (turn : D → O → (Option D → O → Prop) → Prop) (src : Addr) (ds : List D) (o : O) (Φ : D → O → Prop) : Prop := ∀ q, o q = none → lcQO turn src ds q (lcEnd q Φ) ds (updO o q (.lst []))
theorem lco_by {turn : D → O → (Option D → O → Prop) → Prop} {src : Addr} {ds : List D} {o : O} {Φ : D → O → Prop} (h : ∀ q, o q = none → lcQO turn src ds q (lcEnd q Φ) ds (updO o q (.lst []))) : LCO turn src ds o Φ := by unfold LCO; exact h
theorem LCO.out {turn : D → O → (Option D → O → Prop) → Prop} {src : Addr} {ds : List D} {o : O} {Φ : D → O → Prop} (h : LCO turn src ds o Φ) : ∀ q, o q = none → lcQO turn src ds q (lcEnd q Φ) ds (updO o q (.lst [])) := by unfold LCO at h; exact h
def onLs (d : D) (o : O) (f : Addr → List D → Prop) : Prop := match d with | .ref q => ∃ ds, o q = some (.lst ds) ∧ f q ds | _ => False
def rLcO (vs : List Nat) (turn : Δ → D → O → (Option D → O → Prop) → Prop) (a : RE) : RE := fun Ξ δ o Φ => a Ξ δ o fun d o1 => onLs d o1 fun src ds => force (swipe δ vs) fun δ0 => LCO (turn δ0) src ds o1 Φ
def TrLcO (X : Cx) (τ : Tx) (k : Nat) (scope : Scope) (is : List Nat) (ifs : List Expr) (elt : Expr) (turn : Δ → D → O → (Option D → O → Prop) → Prop) : Prop :=
  ∀ Ξ (Γ : Gm X τ k Ξ) δ0 q Φ src xs ds o, lcQO (turn δ0) src xs q Φ ds o → lcDO Γ scope is ifs elt δ0 q Φ src xs ds o
theorem lco_1 {i : Nat} (he : TrB X τ k scope elt te) : TrLcO X τ k scope [i] [] elt (turn1 (gName i) te) := fun Ξ Γ δ0 q Φ src xs ds o h => by
  induction ds generalizing o with
  | nil => exact h
  | cons d ds ih =>
    obtain ⟨h0, h⟩ := h
    refine ⟨h0, _, rfl, ?_⟩
    unfold BTs
    dsimp only
    rw [if_pos rfl]
    intro s H C cl fp
    have h := force_out h
    rw [sset_eq] at h
    have h : te XN (δ0.set i (some d)) o fun d' o1 => ∃ acc, o1 q = some (.lst acc) ∧ acc.length < sizeLine ∧ lcQO (turn1 (gName i) te δ0) src xs q Φ ds (updO o1 q (.lst (acc ++ [d']))) := h
    exact ((he s H C cl fp).h _ _ _ _ _ h).mono fun d' o2 ⟨acc, h1, h2, h3⟩ => ⟨acc, h1, h2, ih _ h3⟩
theorem t_lcO1 (i : Nat) {x : Str} {tp : Pos} (ok0 : BlkOk X.N X.env.scope scope [(x, i)]) (h : TrE X τ k iter ta) {turn : Δ → D → O → (Option D → O → Prop) → Prop} (hl : TrLcO X τ k scope [i] ifs elt turn) (hi : X.N[i]? = some x := by rfl) (hx : scope.names.lookup x = some .local := by rfl) (hif : ifs.length ≤ 1 := by decide) (hc : X.calm = true := by rfl) (hs : ∀ x, foldedSetIterable iter X.env x = pure x := by intro _; rfl) : TrE X τ k (.ListComp elt [⟨.Name x tp, iter, ifs, 0⟩] scope pos) (rLcO [i] turn ta) := .mk fun Ξ Γ δ o Φ q =>
  we_lcO1 i ok0 ((h.h _ _ _ _ _ q).mono fun d o1 q => by
    unfold onLs at q
    split at q
    · obtain ⟨ds, h1, q⟩ := q
      have q := force_out q
      rw [swipe_eq] at q
      exact ⟨_, _, rfl, h1, fun q0 h0 => hl _ Γ _ _ _ _ _ _ _ (LCO.out q q0 h0)⟩
    · exact q.elim) hi hx hif hc hs
/-! ### dict comprehensions -/
def dcQ (turn : D → O → (D → D → O → Prop) → Prop) (q : Addr) (Φ : O → Prop) : List D → O → Prop
  | [], o => Φ o
  | d :: ds, o => turn d o fun dk d' o1 => ∃ acc kk, keyD dk = some kk ∧ o1 q = some (.dct acc) ∧ acc.length < sizeLine ∧ dcQ turn q Φ ds (updO o1 q (.dct (storeD acc kk d')))
@[irreducible] def DC (turn : D → O → (D → D → O → Prop) → Prop) (ds : List D) (o : O) (Φ : D → O → Prop) : Prop := ∀ q, o q = none → dcQ turn q (dcEnd q Φ) ds (updO o q (.dct []))
theorem dc_by {turn : D → O → (D → D → O → Prop) → Prop} {ds : List D} {o : O} {Φ : D → O → Prop} (h : ∀ q, o q = none → dcQ turn q (dcEnd q Φ) ds (updO o q (.dct []))) : DC turn ds o Φ := by unfold DC; exact h
theorem DC.out {turn : D → O → (D → D → O → Prop) → Prop} {ds : List D} {o : O} {Φ : D → O → Prop} (h : DC turn ds o Φ) : ∀ q, o q = none → dcQ turn q (dcEnd q Φ) ds (updO o q (.dct [])) := by unfold DC at h; exact h
def turnD (g : RG) (kx vx : RE) (δ : Δ) (d : D) (o : O) (Ψ : D → D → O → Prop) : Prop := g d δ o fun δ1 o1 => kx XN δ1 o1 fun dk o2 => vx XN δ1 o2 fun dv o3 => Ψ dk dv o3
def rDcI (vs : List Nat) (turn : Δ → D → O → (D → D → O → Prop) → Prop) (a : RI) : RE := fun Ξ δ o Φ => a Ξ δ o fun ds o1 => force (swipe δ vs) fun δ0 => DC (turn δ0) ds o1 Φ
theorem dcq_dcd {i j' : Nat} {kx vx : Expr} {tk tv : RE} {Ξ : XW} {Γ : Gm X τ k Ξ} (hk : TrB X τ k scope kx tk) (hv : TrB X τ k scope vx tv) {δ0 : Δ} {q0 : Addr} {Φ : O → Prop} : ∀ (ds : List D) (o2 : O), dcQ (turnD (gTup [i, j']) tk tv δ0) q0 Φ ds o2 → dcD Γ scope [i, j'] [] kx vx δ0 q0 Φ ds o2
  | [], o2, q => q
  | d :: ds, o2, q => by
    have h : gTup [i, j'] d δ0 o2 fun δ1 o => tk XN δ1 o fun dk o2 => tv XN δ1 o2 fun dv o3 => ∃ acc kk, keyD dk = some kk ∧ o3 q0 = some (.dct acc) ∧ acc.length < sizeLine ∧ dcQ (turnD (gTup [i, j']) tk tv δ0) q0 Φ ds (updO o3 q0 (.dct (storeD acc kk dv))) := q
    obtain ⟨δ1, e1, h⟩ := set2 h
    refine ⟨_, e1, ?_⟩
    unfold BTs
    dsimp only
    rw [if_pos rfl]
    intro s H C cl fp
    refine ((hk s H C cl fp).h _ _ _ _ _ h).mono fun dk o3 h s H C cl fp => ?_
    exact ((hv s H C cl fp).h _ _ _ _ _ h).mono fun d' o4 ⟨acc, kk, h1, h2, h3, h4⟩ => ⟨acc, kk, h1, h2, h3, dcq_dcd hk hv ds _ h4⟩
theorem t_dcI2 (i j : Nat) {kx vx : Expr} {tk tv : RE} {x x2 : Str} {tp tp2 tpt : Pos} {kt : Nat} (ok0 : BlkOk X.N X.env.scope scope [(x, i), (x2, j)]) (h : TrI X τ k (.Tuple [.Name x tp, .Name x2 tp2] kt tpt) iter ti) (hk : TrB X τ k scope kx tk) (hv : TrB X τ k scope vx tv) (hi : X.N[i]? = some x := by rfl) (hx : scope.names.lookup x = some .local := by rfl) (hi2 : X.N[j]? = some x2 := by rfl) (hx2 : scope.names.lookup x2 = some .local := by rfl) (hc2 : ∀ env : Env, (assignEach [.Name x tp, .Name x2 tp2] env).length = 2 := by intro _; rfl) (hc : X.calm = true := by rfl) (hs : ∀ x, foldedSetIterable iter X.env x = pure x := by intro _; rfl) : TrE X τ k (.DictComp kx vx [⟨.Tuple [.Name x tp, .Name x2 tp2] kt tpt, iter, [], 0⟩] scope pos) (rDcI [i, j] (turnD (gTup [i, j]) tk tv) ti) := .mk fun Ξ Γ δ o Φ q =>
  we_dcI2 i j ok0 ((h.h _ _ _ _ _ q).mono fun ds o1 q q0 h0 => by
    have q := force_out q
    rw [swipe_eq] at q
    exact dcq_dcd hk hv _ _ (DC.out q q0 h0)) hi hx hi2 hx2 hc2 (by decide) hc hs
/-! ### len(set(..)), setdefault, dict(e.listed) -/
def onDc (d : D) (o : O) (f : Addr → Prop) : Prop := match d with | .ref q => (∃ kvs, o q = some (.dct kvs)) ∧ f q | _ => False
def rSetd (a b : RE) : RE := fun Ξ δ o Φ => a Ξ δ o fun d1 o1 => onDc d1 o1 fun q => b Ξ δ o1 fun d2 o2 => ∃ kvs kk, o2 q = some (.dct kvs) ∧ keyD d2 = some kk ∧ kvs.length < sizeLine ∧
  (∀ d, valD kvs kk = some d → Φ d o2) ∧ (valD kvs kk = none → ∀ p, o2 p = none → Φ (.ref p) (updO (updO o2 p (.lst [])) q (.dct (storeD kvs kk (.ref p)))))
theorem t_setd {ep : Pos} (ha : TrE X τ k a ta) (hb : TrE X τ k b tb) (m : M2 X a "setdefault" apos b (.List [] ep) cpos := by exact ⟨rfl, rfl, rfl, rfl⟩) : TrE X τ k (.Call (.Attribute a "setdefault" apos) [b, .List [] ep] [] cpos) (rSetd ta tb) := .mk fun Ξ Γ δ o Φ q =>
  we_setd ((ha.h _ _ _ _ _ q).mono fun d1 o1 q => by
    unfold onDc at q
    split at q
    · obtain ⟨⟨kvs, h0⟩, q⟩ := q
      exact ⟨⟨_, kvs, rfl, h0⟩, (hb.h _ _ _ _ _ q).mono fun d2 o2 ⟨kvs, kk, h1, h2, h3, h4, h5⟩ => ⟨_, kvs, kk, rfl, h1, h2, h3, h4, h5⟩⟩
    · exact q.elim) m
def rDictListed (a : RE) : RE := fun Ξ δ o Φ => a Ξ δ o fun d o1 => (match d with | .tape ss => (ss.map (·.1)).Nodup ∧ Φ (.dct (ss.map songK)) o1 | _ => False)
theorem t_dictListed (hc : ClsX X.K τ.tape ["listed", "begins", "total"]) (hm : GloN X.mg "dict") (h : TrE X τ k a ta) (hb : attributeBase a "listed" X.env (eval a X.env) = eval a X.env := by rfl)
    (hcm : X.calm = true := by rfl) (hg : Gl X "dict" := by rfl) (he : starEach (.Attribute a "listed" p :: []) X.env = (false, eval (.Attribute a "listed" p) X.env) :: starEach [] X.env := by rfl) (hpl : (backTo pos (starEach [] X.env)).any (·.1) = false := by rfl) {pn : Pos} :
    TrE X τ k (.Call (.Name "dict" pn) [.Attribute a "listed" p] [] pos) (rDictListed ta) := .mk fun Ξ Γ δ o Φ q =>
  we_dictListed hc hm ((h.h _ _ _ _ _ q).mono fun d o1 q => by
    split at q
    · exact ⟨_, rfl, q.1, q.2⟩
    · exact q.elim) hb hcm hg he hpl
/-! ### the fields of a tape -/
theorem t_listed (T : ClsX X.K τ.tape ["listed", "begins", "total"]) (h : TrE X τ k e ta) (hb : attributeBase e "listed" X.env (eval e X.env) = eval e X.env := by rfl) : TrE X τ k (.Attribute e "listed" pos) (rListed ta) := .mk fun Ξ Γ δ o Φ q =>
  we_fld ((h.h _ _ _ _ _ q).mono fun d o1 q => by
    cases d <;> first | exact q.elim | exact ⟨_, _, .tape _, T, by decide +kernel, .inl ⟨rfl, q⟩⟩) hb
theorem t_total (T : ClsX X.K τ.tape ["listed", "begins", "total"]) (h : TrE X τ k e ta) (hb : attributeBase e "total" X.env (eval e X.env) = eval e X.env := by rfl) : TrE X τ k (.Attribute e "total" pos) (rTotal ta) := .mk fun Ξ Γ δ o Φ q =>
  we_fld ((h.h _ _ _ _ _ q).mono fun d o1 q => by
    cases d <;> first | exact q.elim | exact ⟨_, _, .tape _, T, by decide +kernel, .inr ⟨rfl, q⟩⟩) hb
theorem t_begins (T : ClsX X.K τ.tape ["listed", "begins", "total"]) (h : TrE X τ k e ta) (hb : attributeBase e "begins" X.env (eval e X.env) = eval e X.env := by rfl) : TrE X τ k (.Attribute e "begins" pos) (rBegins ta) := .mk fun Ξ Γ δ o Φ q =>
  we_begins T (by decide +kernel) ((h.h _ _ _ _ _ q).mono fun d o1 q => by
    cases d <;> first | exact q.elim | exact ⟨_, rfl, q⟩) hb
/-! ### makers with a star -/
def seqTL (d : D) (f : List D → Prop) : Prop := match d with | .tup ds => f ds | .lst ds => f ds | _ => False
theorem seqTL.out {d : D} {f : List D → Prop} (h : seqTL d f) : ∃ z, (d = .tup z ∨ d = .lst z) ∧ f z := by
  unfold seqTL at h
  split at h
  · exact ⟨_, .inl rfl, h⟩
  · exact ⟨_, .inr rfl, h⟩
  · exact h.elim
theorem t_makeS [Calm X] (F : MkS X.prog X.w X.K X.mg X.base τ x C j S) (h : TrA X τ k (e :: es) tas) (hl : (e :: es).length ≤ 1000 := by decide) (hj : j + 1 ≤ k := by decide) (hg : Gl X x := by rfl) (hdb : (x == ("__debug__" : Str)) = false := by decide)
    (he : starEach (e :: es) X.env = (false, eval e X.env) :: starEach es X.env := by rfl) (hpl : (backTo pos (starEach es X.env)).any (·.1) = false := by rfl) : TrE X τ k (.Call (.Name x p) (e :: es) [] pos) (rCall S tas) := .mk fun Ξ Γ δ o Φ q =>
  wp_make F ((h.h _ _ _ _ _ q).mono fun ds o1 h1 => ⟨h1.1, h1.2.out⟩) hl hj hg hdb he hpl
theorem t_makeS0 [Calm X] (F : MkS X.prog X.w X.K X.mg X.base τ x C j S) (hj : j + 1 ≤ k := by decide) (hg : Gl X x := by rfl) (hdb : (x == ("__debug__" : Str)) = false := by decide) : TrE X τ k (.Call (.Name x p) [] [] pos) (rCall S rANil) := .mk fun Ξ Γ δ o Φ q =>
  wp_make0 F (CALL.out q) hj hg hdb
def rStar (S : DSp) (a : RE) : RE := fun Ξ δ o Φ => a Ξ δ o fun d o1 => seqTL d fun ds => ds.length ≤ sizeLine ∧ CALL S ds o1 Φ fun x o2 => Ξ x δ o2
theorem t_makeStar [Calm X] (F : MkS X.prog X.w X.K X.mg X.base τ x C j S) (h : TrE X τ k e ta) (hj : j + 1 ≤ k := by decide) (hg : Gl X x := by rfl) (hdb : (x == ("__debug__" : Str)) = false := by decide) (hst : starEach [.Starred e p2] X.env = [(true, eval e X.env)] := by rfl) : TrE X τ k (.Call (.Name x p) [.Starred e p2] [] pos) (rStar S ta) := .mk fun Ξ Γ δ o Φ q =>
  wp_makeStar F ((h.h _ _ _ _ _ q).mono fun d o1 q => by
    obtain ⟨z, e, h1, h2⟩ := seqTL.out q
    exact ⟨z, e, h1, h2.out⟩) hj hg hdb hst
/-! ### isinstance -/
def rIs (f : D → Option Bool) (a : RE) : RE := fun Ξ δ o Φ => a Ξ δ o fun d o1 => optC (f d) fun b => Φ (.bl b) o1
theorem optC.out {α : Type} {x : Option α} {f : α → Prop} (h : optC x f) : ∃ a, x = some a ∧ f a := by
  unfold optC at h
  split at h
  · exact ⟨_, rfl, h⟩
  · exact h.elim
def isBo : D → Option Bool
  | .bl _ => some true | .int _ => some false | .non => some false | .str _ => some false | .byt _ => some false | .tup _ => some false | .lst _ => some false | .scr _ => some false | _ => none
def isS : D → Option Bool
  | .str _ => some true | .bl _ => some false | .int _ => some false | .non => some false | .byt _ => some false | .tup _ => some false | .lst _ => some false | .scr _ => some false | _ => none
def isTu : D → Option Bool
  | .tup _ => some true | .bl _ => some false | .int _ => some false | .non => some false | .byt _ => some false | .str _ => some false | .lst _ => some false | .scr _ => some false | _ => none
def isLi : D → Option Bool
  | .lst _ => some true | .scr _ => some true | .bl _ => some false | .int _ => some false | .non => some false | .byt _ => some false | .str _ => some false | .tup _ => some false | _ => none
theorem t_isiB {T : String} (f : D → Option Bool) (hf : ∀ d b, f d = some b → isB d = true ∧ kitB (tyB d) T = some b) (hm : GloN X.mg "isinstance") (hT : GloN X.mg z) (ha : TrE X τ k a ta) (hv : bootBuiltins z = some (.type T) := by decide +kernel) (hn : z ≠ "__name__" := by decide) (hd : (z == ("__debug__" : Str)) = false := by decide) (hgT : Gl X z := by rfl) (hg : Gl X "isinstance" := by rfl)
    (he : starEach (a :: [.Name z p2]) X.env = (false, eval a X.env) :: starEach [.Name z p2] X.env := by rfl) (he2 : starEach (.Name z p2 :: []) X.env = (false, eval (.Name z p2) X.env) :: starEach [] X.env := by rfl) (hpl : (backTo pos (starEach [.Name z p2] X.env)).any (·.1) = false := by rfl) :
    TrE X τ k (.Call (.Name "isinstance" p) [a, .Name z p2] [] pos) (rIs f ta) := .mk fun Ξ Γ δ o Φ q =>
  we_isi hm (wa_cons ((ha.h _ _ _ _ _ q).mono fun d o1 q => wa_cons (we_bty hT (wa_nil (by
    obtain ⟨b, hb, q⟩ := optC.out q
    obtain ⟨h1, h2⟩ := hf d b hb
    exact ⟨d, T, b, rfl, h1, h2, q⟩)) hgT hv hn hd) he2) he) hg he hpl
theorem t_isBo (hm : GloN X.mg "isinstance") (hT : GloN X.mg "bool") (ha : TrE X τ k a ta) (hgT : Gl X "bool" := by rfl) (hg : Gl X "isinstance" := by rfl)
    (he : starEach (a :: [.Name "bool" p2]) X.env = (false, eval a X.env) :: starEach [.Name "bool" p2] X.env := by rfl) (he2 : starEach (.Name "bool" p2 :: []) X.env = (false, eval (.Name "bool" p2) X.env) :: starEach [] X.env := by rfl) (hpl : (backTo pos (starEach [.Name "bool" p2] X.env)).any (·.1) = false := by rfl) :
    TrE X τ k (.Call (.Name "isinstance" p) [a, .Name "bool" p2] [] pos) (rIs isBo ta) :=
  t_isiB (T := "bool") isBo (fun d b h => by cases d <;> cases h <;> exact ⟨rfl, by simp only [tyB]; decide +kernel⟩) hm hT ha (hgT := hgT) (hg := hg) (he := he) (he2 := he2) (hpl := hpl)
theorem t_isS (hm : GloN X.mg "isinstance") (hT : GloN X.mg "str") (ha : TrE X τ k a ta) (hgT : Gl X "str" := by rfl) (hg : Gl X "isinstance" := by rfl)
    (he : starEach (a :: [.Name "str" p2]) X.env = (false, eval a X.env) :: starEach [.Name "str" p2] X.env := by rfl) (he2 : starEach (.Name "str" p2 :: []) X.env = (false, eval (.Name "str" p2) X.env) :: starEach [] X.env := by rfl) (hpl : (backTo pos (starEach [.Name "str" p2] X.env)).any (·.1) = false := by rfl) :
    TrE X τ k (.Call (.Name "isinstance" p) [a, .Name "str" p2] [] pos) (rIs isS ta) :=
  t_isiB (T := "str") isS (fun d b h => by cases d <;> cases h <;> exact ⟨rfl, by simp only [tyB]; decide +kernel⟩) hm hT ha (hgT := hgT) (hg := hg) (he := he) (he2 := he2) (hpl := hpl)
theorem t_isTu (hm : GloN X.mg "isinstance") (hT : GloN X.mg "tuple") (ha : TrE X τ k a ta) (hgT : Gl X "tuple" := by rfl) (hg : Gl X "isinstance" := by rfl)
    (he : starEach (a :: [.Name "tuple" p2]) X.env = (false, eval a X.env) :: starEach [.Name "tuple" p2] X.env := by rfl) (he2 : starEach (.Name "tuple" p2 :: []) X.env = (false, eval (.Name "tuple" p2) X.env) :: starEach [] X.env := by rfl) (hpl : (backTo pos (starEach [.Name "tuple" p2] X.env)).any (·.1) = false := by rfl) :
    TrE X τ k (.Call (.Name "isinstance" p) [a, .Name "tuple" p2] [] pos) (rIs isTu ta) :=
  t_isiB (T := "tuple") isTu (fun d b h => by cases d <;> cases h <;> exact ⟨rfl, by simp only [tyB]; decide +kernel⟩) hm hT ha (hgT := hgT) (hg := hg) (he := he) (he2 := he2) (hpl := hpl)
theorem t_isLi (hm : GloN X.mg "isinstance") (hT : GloN X.mg "list") (ha : TrE X τ k a ta) (hgT : Gl X "list" := by rfl) (hg : Gl X "isinstance" := by rfl)
    (he : starEach (a :: [.Name "list" p2]) X.env = (false, eval a X.env) :: starEach [.Name "list" p2] X.env := by rfl) (he2 : starEach (.Name "list" p2 :: []) X.env = (false, eval (.Name "list" p2) X.env) :: starEach [] X.env := by rfl) (hpl : (backTo pos (starEach [.Name "list" p2] X.env)).any (·.1) = false := by rfl) :
    TrE X τ k (.Call (.Name "isinstance" p) [a, .Name "list" p2] [] pos) (rIs isLi ta) :=
  t_isiB (T := "list") isLi (fun d b h => by cases d <;> cases h <;> exact ⟨rfl, by simp only [tyB]; decide +kernel⟩) hm hT ha (hgT := hgT) (hg := hg) (he := he) (he2 := he2) (hpl := hpl)
/-! ### == and in of the own classes -/
def rEqD (S : DSp) (a b : RE) : RE := fun Ξ δ o Φ => a Ξ δ o fun d1 o1 => b Ξ δ o1 fun d2 o2 => onD d1 <| onD d2 <| CALL S [d1, d2] o2 Φ fun x o3 => Ξ x δ o3
def rInT (neg : Bool) (S : DSp) (a b : RE) : RE := fun Ξ δ o Φ => a Ξ δ o fun d1 o1 => b Ξ δ o1 fun d2 o2 => onT d2 <| CALL S [d2, d1] o2 (fun d o3 => ∃ q, d = .bl q ∧ Φ (.bl (if neg = true then !q else q)) o3) fun x o3 => Ξ x δ o3
theorem c_notInT [Calm X] (F : ConD X.prog X.w X.K X.mg X.base τ τ.tape j S) (ha : TrE X τ k a ta) (hb : TrE X τ k b tb) (hj : j ≤ k := by decide) : TrC X τ k .NotIn a b (rInT true S ta tb) := .mk fun Ξ Γ δ o Φ q =>
  wcd_notIn F ((ha.h _ _ _ _ _ q).mono fun d1 o1 q => (hb.h _ _ _ _ _ q).mono fun d2 o2 q => by
    cases d2 <;> first | exact q.elim | exact ⟨⟨_, .tape _⟩, CALL.out q⟩) hj
end
end RD
set_option Elab.async false
set_option linter.all false
set_option maxRecDepth 100000
set_option maxHeartbeats 2000000
/-! RD7: plain ways: comprehensions that leave the state alone, equality of plain data. -/
namespace RD
open PySem PySem.Spec PyProof.Rows L2 DL
def Ext (o o' : O) : Prop := ∀ a y, o a = some y → o' a = some y
theorem Ext.refl {o : O} : Ext o o := fun _ _ h => h
theorem Ext.trans {o o1 o2 : O} (h : Ext o o1) (k : Ext o1 o2) : Ext o o2 := fun a y e => k a y (h a y e)
theorem Ext.updO {o : O} {q : Addr} {y : OS} (h : o q = none) : Ext o (updO o q y) := updO_less h
theorem le_size {n : Nat} (h : n ≤ 1000) : n ≤ sizeLine := Nat.le_trans h (by decide)
theorem lt_size {n : Nat} (h : n < 1000) : n < sizeLine := Nat.lt_of_lt_of_le h (by decide)
section
variable {α : Type} {ds : List D} {o : O} {Φ : D → O → Prop}
theorem lcq_gen {turn : D → O → (Option D → O → Prop) → Prop} (f : α → D) (g : α → Option D) (xs : List α) (hg : ∀ x ∈ xs, ∀ o' Ψ, Ext o o' → Ψ (g x) o' → turn (f x) o' Ψ) {q : Addr} (hq : o q = none) :
    ∀ (acc : List D), acc.length + xs.length ≤ 1000 → Φ (.lst (acc ++ xs.filterMap g)) o → lcQ turn q (lcEnd q Φ) (xs.map f) (updO o q (.lst acc)) := by
  induction xs with
  | nil =>
    intro acc _ h
    rw [List.filterMap_nil, List.append_nil] at h
    exact .inl ⟨o, acc, rfl, hq, h⟩
  | cons x xs ih =>
    intro acc hl h
    rw [List.length_cons] at hl
    refine hg x (by simp) _ _ (Ext.updO hq) ?_
    cases e : g x with
    | none =>
      rw [List.filterMap_cons_none e] at h
      exact ih (fun x hx => hg x (List.mem_cons_of_mem _ hx)) acc (by omega) h
    | some d =>
      rw [List.filterMap_cons_some e] at h
      refine ⟨acc, updO_same, lt_size (by omega), ?_⟩
      rw [updO_updO]
      refine ih (fun x hx => hg x (List.mem_cons_of_mem _ hx)) (acc ++ [d]) (by rw [List.length_append, List.length_singleton]; omega) ?_
      rw [List.append_assoc]
      exact h
theorem lc_gen {turn : D → O → (Option D → O → Prop) → Prop} (xs : List α) (f : α → D) (g : α → Option D) (hds : ds = xs.map f) (hl : xs.length ≤ 1000) (hg : ∀ x ∈ xs, ∀ o' Ψ, Ext o o' → Ψ (g x) o' → turn (f x) o' Ψ) (h : Φ (.lst (xs.filterMap g)) o) : LC turn ds o Φ :=
  lc_by fun q hq => by
    subst hds
    exact lcq_gen f g xs hg hq [] (by simpa using hl) h
theorem lc_map {turn : D → O → (Option D → O → Prop) → Prop} (xs : List α) (f g : α → D) (hds : ds = xs.map f) (hl : xs.length ≤ 1000) (hg : ∀ x ∈ xs, ∀ o' Ψ, Ext o o' → Ψ (some (g x)) o' → turn (f x) o' Ψ) (h : Φ (.lst (xs.map g)) o) : LC turn ds o Φ :=
  lc_gen xs f (fun x => some (g x)) hds hl hg (by
    have e : xs.filterMap (fun x => some (g x)) = xs.map g := by rw [← List.filterMap_eq_map]; rfl
    rw [e]; exact h)
theorem lc_filter {turn : D → O → (Option D → O → Prop) → Prop} (xs : List α) (f g : α → D) (c : α → Bool) (hds : ds = xs.map f) (hl : xs.length ≤ 1000) (hg : ∀ x ∈ xs, ∀ o' Ψ, Ext o o' → Ψ (if c x = true then some (g x) else none) o' → turn (f x) o' Ψ) (h : Φ (.lst ((xs.filter c).map g)) o) : LC turn ds o Φ :=
  lc_gen xs f (fun x => if c x = true then some (g x) else none) hds hl hg (by
    have e : xs.filterMap (fun x => if c x = true then some (g x) else none) = (xs.filter c).map g := by
      clear hg h hl hds
      induction xs with
      | nil => rfl
      | cons x xs ih =>
        rw [List.filter_cons]
        by_cases hc : c x = true
        · rw [List.filterMap_cons_some (b := g x) (by rw [if_pos hc]), if_pos hc, List.map_cons, ih]
        · rw [List.filterMap_cons_none (by rw [if_neg hc]), if_neg hc, ih]
    rw [e]; exact h)
theorem lco_map {turn : D → O → (Option D → O → Prop) → Prop} {src : Addr} (xs : List α) (f g : α → D) (hds : ds = xs.map f) (hsrc : o src = some (.lst ds)) (hl : xs.length ≤ 1000) (hg : ∀ x ∈ xs, ∀ o' Ψ, Ext o o' → Ψ (some (g x)) o' → turn (f x) o' Ψ) (h : Φ (.lst (xs.map g)) o) : LCO turn src ds o Φ :=
  lco_by fun q hq => by
    have hne : src ≠ q := fun z => by rw [z, hq] at hsrc; cases hsrc
    have main : ∀ (ys : List α) (acc : List D), (∀ y ∈ ys, y ∈ xs) → acc.length + ys.length ≤ 1000 → Φ (.lst (acc ++ ys.map g)) o → lcQO turn src ds q (lcEnd q Φ) (ys.map f) (updO o q (.lst acc)) := by
      intro ys
      induction ys with
      | nil =>
        intro acc _ _ h
        rw [List.map_nil, List.append_nil] at h
        exact ⟨by rw [updO_ne hne]; exact hsrc, .inl ⟨o, acc, rfl, hq, h⟩⟩
      | cons y ys ih =>
        intro acc hm hl h
        rw [List.length_cons] at hl
        refine ⟨by rw [updO_ne hne]; exact hsrc, hg y (hm y (by simp)) _ _ (Ext.updO hq) ⟨acc, updO_same, lt_size (by omega), ?_⟩⟩
        rw [updO_updO]
        refine ih (acc ++ [g y]) (fun y hy => hm y (List.mem_cons_of_mem _ hy)) (by rw [List.length_append, List.length_singleton]; omega) ?_
        rw [List.append_assoc]
        exact h
    have z := main xs [] (fun _ h => h) (by simpa using hl) h
    rw [← hds] at z
    exact z
theorem storeD_new {kvs : List (Key × D)} {k : Key} {d : D} (h : ∀ p ∈ kvs, p.1 ≠ k) : storeD kvs k d = kvs ++ [(k, d)] := by
  unfold storeD
  rw [if_neg]
  intro e
  obtain ⟨p, hp, e⟩ := List.any_eq_true.mp e
  exact h p hp (of_decide_eq_true e)
theorem dc_map {turn : D → O → (D → D → O → Prop) → Prop} (xs : List α) (f : α → D) (kf : α → Key) (vf : α → D) (hds : ds = xs.map f) (hl : xs.length ≤ 1000) (hn : (xs.map kf).Nodup) (hg : ∀ x ∈ xs, ∀ o' Ψ, Ext o o' → Ψ (keyDat (kf x)) (vf x) o' → turn (f x) o' Ψ) (h : Φ (.dct (xs.map fun x => (kf x, vf x))) o) : DC turn ds o Φ :=
  dc_by fun q hq => by
    subst hds
    have main : ∀ (ys zs : List α), zs ++ ys = xs → dcQ turn q (dcEnd q Φ) (ys.map f) (updO o q (.dct (zs.map fun x => (kf x, vf x)))) := by
      intro ys
      induction ys with
      | nil =>
        intro zs e
        rw [List.append_nil] at e
        subst e
        exact .inl ⟨o, _, rfl, hq, h⟩
      | cons y ys ih =>
        intro zs e
        have hy : y ∈ xs := by rw [← e]; simp
        refine hg y hy _ _ (Ext.updO hq) ⟨_, kf y, by cases kf y <;> rfl, updO_same, ?_, ?_⟩
        · have : xs.length = zs.length + (ys.length + 1) := by rw [← e, List.length_append, List.length_cons]
          rw [List.length_map]
          exact lt_size (by omega)
        · rw [updO_updO, storeD_new]
          · have z := ih (zs ++ [y]) (by rw [List.append_assoc]; exact e)
            rw [List.map_append] at z
            exact z
          · intro p hp e2
            obtain ⟨x, hx, rfl⟩ := List.mem_map.mp hp
            rw [← e, List.map_append, List.map_cons] at hn
            have := (List.nodup_append.mp hn).2.2 (kf x) (List.mem_map.mpr ⟨x, hx, rfl⟩) (kf y) (by simp)
            exact this e2
    exact main xs [] rfl
end
/-! ### plain data -/
mutual
/-- plain data of so few layers -/
inductive Pn : Nat → D → Prop where
  | non {n : Nat} : Pn n .non
  | bl {n : Nat} {b : Bool} : Pn n (.bl b)
  | int {n : Nat} {i : Int} : Pn n (.int i)
  | str {n : Nat} {x : Str} (h : PyData.strOk x = true) : Pn n (.str x)
  | tup {n : Nat} {ds : List D} (h : Pns n ds) : Pn (n + 1) (.tup ds)
  | lst {n : Nat} {ds : List D} (h : Pns n ds) : Pn (n + 1) (.lst ds)
inductive Pns : Nat → List D → Prop where
  | nil {n : Nat} : Pns n []
  | cons {n : Nat} {d : D} {ds : List D} (h : Pn n d) (r : Pns n ds) : Pns n (d :: ds)
end
theorem Pns.of {n : Nat} : ∀ {ds : List D}, (∀ d ∈ ds, Pn n d) → Pns n ds
  | [], _ => .nil
  | d :: ds, h => .cons (h d (by simp)) (Pns.of fun d hd => h d (List.mem_cons_of_mem _ hd))
mutual
theorem Pn.isPy {n : Nat} : ∀ {d : D}, Pn n d → DL.isPy d = true ∧ (py d).canLay0 = true ∧ (py d).depth ≤ n
  | _, .non => ⟨by rw [isPy.eq_def], by rw [py.eq_def]; rfl, by rw [py.eq_def]; exact Nat.zero_le _⟩
  | _, .bl => ⟨by rw [isPy.eq_def], by rw [py.eq_def]; rfl, by rw [py.eq_def]; exact Nat.zero_le _⟩
  | _, .int => ⟨by rw [isPy.eq_def], by rw [py.eq_def]; rfl, by rw [py.eq_def]; exact Nat.zero_le _⟩
  | _, .str h => ⟨by rw [isPy.eq_def], by rw [py.eq_def]; simpa [PyData.canLay0] using h, by rw [py.eq_def]; exact Nat.zero_le _⟩
  | _, .tup h => ⟨by rw [isPy.eq_def]; exact (Pns.isPys h).1, by rw [py.eq_def]; simpa [PyData.canLay0] using (Pns.isPys h).2.1, by rw [py.eq_def]; simpa [PyData.depth] using (Pns.isPys h).2.2⟩
  | _, .lst h => ⟨by rw [isPy.eq_def]; exact (Pns.isPys h).1, by rw [py.eq_def]; simpa [PyData.canLay0] using (Pns.isPys h).2.1, by rw [py.eq_def]; simpa [PyData.depth] using (Pns.isPys h).2.2⟩
theorem Pns.isPys {n : Nat} : ∀ {ds : List D}, Pns n ds → DL.isPys ds = true ∧ PyData.canLayAll0 (pys ds) = true ∧ PyData.depthAll (pys ds) ≤ n
  | _, .nil => ⟨by rw [isPys.eq_def], by rw [pys.eq_def]; rfl, by rw [pys.eq_def]; exact Nat.zero_le _⟩
  | _, .cons h r => ⟨by rw [isPys.eq_def]; simp [(Pn.isPy h).1, (Pns.isPys r).1], by rw [pys.eq_def]; simp [PyData.canLayAll0, (Pn.isPy h).2.1, (Pns.isPys r).2.1], by
      rw [pys.eq_def]
      simp only [PyData.depthAll]
      exact Nat.max_le.mpr ⟨(Pn.isPy h).2.2, (Pns.isPys r).2.2⟩⟩
end
theorem Pn.ok {n : Nat} {d : D} (h : Pn n d) (hn : n ≤ 60 := by decide) : okD d = true := by
  obtain ⟨h1, h2, h3⟩ := h.isPy
  unfold okD SeqAt.shaped
  rw [h1, h2]
  simp
  omega
mutual
theorem eqv_refl : ∀ {n : Nat} {d : D}, Pn n d → PyData.eqv (py d) (py d) = true
  | _, _, .non => by rw [py.eq_def]; rfl
  | _, _, .bl => by rw [py.eq_def]; simp [PyData.eqv]
  | _, _, .int => by rw [py.eq_def]; simp [PyData.eqv]
  | _, _, .str _ => by rw [py.eq_def]; simp [PyData.eqv]
  | _, _, .tup h => by rw [py.eq_def]; simp only [PyData.eqv]; exact eqvs_refl h
  | _, _, .lst h => by rw [py.eq_def]; simp only [PyData.eqv]; exact eqvs_refl h
theorem eqvs_refl : ∀ {n : Nat} {ds : List D}, Pns n ds → PyData.eqvAll (pys ds) (pys ds) = true
  | _, _, .nil => by rw [pys.eq_def]; rfl
  | _, _, .cons h r => by rw [pys.eq_def]; simp only [PyData.eqvAll]; rw [eqv_refl h, eqvs_refl r]; rfl
end
section
variable {o : O} {Φ : D → O → Prop} {d d1 d2 : D}
theorem eqS_refl {n : Nat} (h : Pn n d) (q : Φ (.bl true) o) (hn : n ≤ 60 := by decide) : eqS d d o Φ := ⟨h.ok hn, h.ok hn, by unfold eqD; rw [eqv_refl h]; exact q⟩
theorem neS_refl {n : Nat} (h : Pn n d) (q : Φ (.bl false) o) (hn : n ≤ 60 := by decide) : neS d d o Φ := ⟨h.ok hn, h.ok hn, by unfold eqD; rw [eqv_refl h]; exact q⟩
theorem eqS_same {n : Nat} (e : d1 = d2) (h : Pn n d1) (q : Φ (.bl true) o) (hn : n ≤ 60 := by decide) : eqS d1 d2 o Φ := by subst e; exact eqS_refl h q hn
theorem neS_same {n : Nat} (e : d1 = d2) (h : Pn n d1) (q : Φ (.bl false) o) (hn : n ≤ 60 := by decide) : neS d1 d2 o Φ := by subst e; exact neS_refl h q hn
end
/-! == and != as words of their own -/
@[irreducible] def eqQ (d1 d2 : D) (o : O) (Φ : D → O → Prop) : Prop := eqS d1 d2 o Φ
@[irreducible] def neQ (d1 d2 : D) (o : O) (Φ : D → O → Prop) : Prop := neS d1 d2 o Φ
theorem eqQ_eq : eqQ = eqS := by
  funext d1 d2 o Φ
  unfold eqQ
  rfl
theorem neQ_eq : neQ = neS := by
  funext d1 d2 o Φ
  unfold neQ
  rfl
section
variable {X : Cx} {τ : Tx} {k : Nat} {a b : Expr} {ta tb : RE} {o : O} {Φ : D → O → Prop} {d d1 d2 : D}
theorem c_eqq (ha : TrE X τ k a ta) (hb : TrE X τ k b tb) : TrC X τ k .Eq a b (r2 eqQ ta tb) := by rw [eqQ_eq]; exact c_eq ha hb
theorem c_neq (ha : TrE X τ k a ta) (hb : TrE X τ k b tb) : TrC X τ k .NotEq a b (r2 neQ ta tb) := by rw [neQ_eq]; exact c_ne ha hb
theorem eqq (h : eqS d1 d2 o Φ) : eqQ d1 d2 o Φ := by rw [eqQ_eq]; exact h
theorem neq (h : neS d1 d2 o Φ) : neQ d1 d2 o Φ := by rw [neQ_eq]; exact h
theorem eqq_same {n : Nat} (e : d1 = d2) (h : Pn n d1) (q : Φ (.bl true) o) (hn : n ≤ 60 := by decide) : eqQ d1 d2 o Φ := eqq (eqS_same e h q hn)
theorem neq_same {n : Nat} (e : d1 = d2) (h : Pn n d1) (q : Φ (.bl false) o) (hn : n ≤ 60 := by decide) : neQ d1 d2 o Φ := neq (neS_same e h q hn)
theorem eqq_i {i j : Int} (q : Φ (.bl (decide (i = j))) o) : eqQ (.int i) (.int j) o Φ := eqq (eqS_i q)
end
end RD
set_option Elab.async false
set_option linter.all false
set_option maxRecDepth 100000
set_option maxHeartbeats 2000000
/-! DL27: a dict of lists that is written no more. -/
namespace DL
open PySem PySem.Spec PyProof.Rows L2
abbrev Gs := List (Key × Addr × List D)
theorem rk_groups {K : PySem.W.Frag} {τ : Tx} {H : Hp} {o o' : O} (w : Own K τ H o) (l : Le H o H o') : ∀ {vs : List (Key × V)} (gs : Gs), (∀ p ∈ gs, o p.2.1 = some (.lst p.2.2)) → (∀ p ∈ gs, o' p.2.1 = none) → Rk K τ H o vs (gs.map fun p => (p.1, .ref p.2.1)) → Rk K τ H o' vs (gs.map fun p => (p.1, .lst p.2.2))
  | _, [], _, _, .nil => .nil
  | _, p :: gs, h1, h2, .cons h r => by
    refine .cons ?_ (rk_groups w l gs (fun q hq => h1 q (List.mem_cons_of_mem _ hq)) (fun q hq => h2 q (List.mem_cons_of_mem _ hq)) r)
    cases h
    obtain ⟨vs, e, rs⟩ := w p.2.1 _ (h1 p (by simp))
    exact .lst e (h2 p (by simp)) (rs.mono l)
section
variable {X : Cx} {τ : Tx} {k : Nat} {Ξ : DX → Δ → O → Prop} {Γ : Gm X τ k Ξ} {δ : Δ} {o o' : O} {sts : List Stmt} {E : DE}
theorem wss_freezeG (i : Nat) {q : Addr} (gs : Gs) (hi : δ[i]? = some (some (.ref q))) (hq : o q = some (.dct (gs.map fun p => (p.1, .ref p.2.1)))) (h1 : ∀ p ∈ gs, o p.2.1 = some (.lst p.2.2)) (hl : ∀ a y, o' a = some y → o a = some y) (hq' : o' q = none) (h2 : ∀ p ∈ gs, o' p.2.1 = none)
    (h : WSs Γ sts (δ.set i (some (.dct (gs.map fun p => (p.1, .lst p.2.2))))) o' E) : WSs Γ sts δ o E := fun σ H ok => by
  obtain ⟨w, l⟩ := ok.own.less hl
  obtain ⟨vs, e1, e2⟩ := ok.own q _ hq
  have k1 : Okk X.K τ Γ.H0 Γ.o0 σ H (δ.set i (some (.dct (gs.map fun p => (p.1, .lst p.2.2))))) o' := by
    refine ⟨ok.le.trans l, w, by rw [List.length_set, ok.len], fun i' d e => ?_⟩
    by_cases ei : i = i'
    · subst ei
      have hi' : i < δ.length := (List.getElem?_eq_some_iff.mp hi).1
      rw [List.getElem?_set_self hi'] at e
      cases e
      obtain ⟨v, e3, r⟩ := ok.slot i _ hi
      cases r
      exact ⟨_, e3, .dct (.inl e1) hq' (rk_groups ok.own l gs h1 h2 e2)⟩
    · rw [List.getElem?_set_ne ei] at e
      obtain ⟨v, e3, r⟩ := ok.slot i' d e
      exact ⟨v, e3, r.mono l⟩
  exact toE_cSs l (h σ H k1)
end
end DL
namespace RD
open PySem PySem.Spec PyProof.Rows L2 DL
def sFrzG (i : Nat) (t : RS) : RS := fun Ξ δ o E => ∃ q o' gs, sget δ i = some (.ref q) ∧ o q = some (.dct (List.map (fun p : Key × Addr × List D => (p.1, D.ref p.2.1)) gs)) ∧ (∀ p ∈ gs, o p.2.1 = some (.lst p.2.2)) ∧ (∀ a y, o' a = some y → o a = some y) ∧ o' q = none ∧ (∀ p ∈ gs, o' p.2.1 = none) ∧
  force (sset δ i (some (.dct (gs.map fun p => (p.1, .lst p.2.2))))) fun δ1 => t Ξ δ1 o' E
theorem ss_frzG {X : Cx} {τ : Tx} {k : Nat} {sts : List Stmt} {ts : RS} (i : Nat) (h : TrSs X τ k sts ts) : TrSs X τ k sts (sFrzG i ts) := .mk fun Ξ Γ δ o E ⟨q, o', gs, h1, h2, h3, h4, h5, h6, h7⟩ => by
  have h7 := force_out h7
  rw [sset_eq] at h7
  exact wss_freezeG i gs (sget_some h1) h2 h3 h4 h5 h6 (h.h _ _ _ _ _ h7)
end RD
set_option Elab.async false
set_option linter.all false
set_option maxRecDepth 100000
set_option maxHeartbeats 2000000
/-! DL28: len of a dict. -/
namespace RD
open PySem PySem.Spec PyProof.Rows L2 DL
end RD
set_option Elab.async false
set_option linter.all false
set_option maxRecDepth 100000
set_option maxHeartbeats 2000000
/-! Tp1: tapes: what the defs of tapes.py and playing.py do, and the mathematics. -/
namespace TC
open PySem PySem.Spec PyProof.Rows L2 DL RD
abbrev Songs := List (Str × Int)
def letter (c : Nat) : Bool := decide (97 ≤ c) && decide (c ≤ 122)
def nameOk (n : Str) : Bool := decide (1 ≤ n.cps.size) && decide (n.cps.size ≤ 8) && n.cps.toList.all letter
theorem nameOk_len {n : Str} (h : nameOk n = true) : n.cps.size ≤ 8 := by
  unfold nameOk at h
  simp at h
  exact h.1.2
theorem nameOk_str {n : Str} (h : nameOk n = true) : PyData.strOk n = true := by
  unfold nameOk at h
  rw [Bool.and_eq_true, Bool.and_eq_true] at h
  obtain ⟨_, h⟩ := h
  rw [List.all_eq_true] at h
  unfold PyData.strOk
  rw [← Array.all_toList, List.all_eq_true]
  intro c hc
  have := h c hc
  unfold letter at this
  rw [Bool.and_eq_true] at this
  have := of_decide_eq_true this.2
  exact decide_eq_true (by omega)
structure OkTape (ss : Songs) : Prop where
  few : ss.length ≤ 30
  nm : ∀ p ∈ ss, nameOk p.1 = true
  ln : ∀ p ∈ ss, 1 ≤ p.2
  nd : (ss.map (·.1)).Nodup
  tot : total ss ≤ M18
theorem total_nil : total [] = 0 := rfl
theorem total_cons {p : Str × Int} {ss : Songs} : total (p :: ss) = p.2 + total ss := by unfold total; rw [List.map_cons, List.sum_cons]
theorem total_append {ss ts : Songs} : total (ss ++ ts) = total ss + total ts := by
  induction ss with
  | nil => rw [List.nil_append, total_nil]; omega
  | cons p ss ih => rw [List.cons_append, total_cons, total_cons, ih]; omega
theorem total_rev {ss : Songs} : total ss.reverse = total ss := by
  induction ss with
  | nil => rfl
  | cons p ss ih => rw [List.reverse_cons, total_append, total_cons, total_cons, total_nil, ih]; omega
theorem total_nonneg {ss : Songs} (h : ∀ p ∈ ss, 1 ≤ p.2) : 0 ≤ total ss := by
  induction ss with
  | nil => exact Int.le_refl _
  | cons p ss ih =>
    rw [total_cons]
    have := h p (by simp)
    have := ih fun q hq => h q (List.mem_cons_of_mem _ hq)
    omega
theorem OkTape.tot0 {ss : Songs} (k : OkTape ss) : 0 ≤ total ss := total_nonneg k.ln
theorem OkTape.tot18 {ss : Songs} (k : OkTape ss) : total ss ≤ 1000000000000000000 := k.tot
theorem ok_nil : OkTape [] := ⟨by decide, by simp, by simp, by simp, by rw [total_nil]; decide⟩
theorem OkTape.rev {ss : Songs} (k : OkTape ss) : OkTape ss.reverse :=
  ⟨by rw [List.length_reverse]; exact k.few, fun p hp => k.nm p (List.mem_reverse.mp hp), fun p hp => k.ln p (List.mem_reverse.mp hp), by rw [List.map_reverse]; exact List.pairwise_reverse.mpr (k.nd.imp fun h z => h z.symm), by rw [total_rev]; exact k.tot⟩
/-! ### where songs lie -/
/-- names, first cells, cells behind -/
def spans : Int → Songs → List (Str × Int × Int)
  | _, [] => []
  | b, (n, l) :: r => (n, b, b + l) :: spans (b + l) r
def begL : Int → Songs → List (Str × Int)
  | _, [] => []
  | b, (n, l) :: r => (n, b) :: begL (b + l) r
def spanOf : Int → Songs → Str → Option (Int × Int)
  | _, [], _ => none
  | b, (m, l) :: r, n => if m = n then some (b, b + l) else spanOf (b + l) r n
theorem begL_spans (b : Int) (ss : Songs) : begL b ss = (spans b ss).map fun p => (p.1, p.2.1) := by
  induction ss generalizing b with
  | nil => rfl
  | cons p ss ih => obtain ⟨n, l⟩ := p; show (n, b) :: begL (b + l) ss = _; rw [ih]; rfl
theorem begsD_begL (b : Int) (ss : Songs) : begsD b ss = (begL b ss).map fun p => (.inr p.1, .int p.2) := by
  induction ss generalizing b with
  | nil => rfl
  | cons p ss ih => obtain ⟨n, l⟩ := p; show (_, _) :: begsD (b + l) ss = _; rw [ih]; rfl
theorem spans_names (b : Int) (ss : Songs) : (spans b ss).map (·.1) = ss.map (·.1) := by
  induction ss generalizing b with
  | nil => rfl
  | cons p ss ih => obtain ⟨n, l⟩ := p; show n :: (spans (b + l) ss).map (·.1) = _; rw [ih]; rfl
theorem begL_names (b : Int) (ss : Songs) : (begL b ss).map (·.1) = ss.map (·.1) := by
  rw [begL_spans, List.map_map]
  exact spans_names b ss
theorem begL_length (b : Int) (ss : Songs) : (begL b ss).length = ss.length := by
  have := congrArg List.length (begL_names b ss)
  simpa using this
theorem spans_length (b : Int) (ss : Songs) : (spans b ss).length = ss.length := by
  have := congrArg List.length (spans_names b ss)
  simpa using this
theorem spanOf_mem {b : Int} {ss : Songs} {n : Str} {x y : Int} (hn : (ss.map (·.1)).Nodup) : (n, x, y) ∈ spans b ss ↔ spanOf b ss n = some (x, y) := by
  induction ss generalizing b with
  | nil => simp [spans, spanOf]
  | cons p ss ih =>
    obtain ⟨m, l⟩ := p
    rw [List.map_cons, List.nodup_cons] at hn
    show (n, x, y) ∈ (m, b, b + l) :: spans (b + l) ss ↔ (if m = n then some (b, b + l) else spanOf (b + l) ss n) = some (x, y)
    rw [List.mem_cons]
    by_cases e : m = n
    · subst e
      rw [if_pos rfl]
      constructor
      · rintro (h | h)
        · cases h; rfl
        · have : m ∈ (spans (b + l) ss).map (·.1) := List.mem_map.mpr ⟨_, h, rfl⟩
          rw [spans_names] at this
          exact (hn.1 this).elim
      · intro h; cases h; exact .inl rfl
    · rw [if_neg e, ← ih hn.2]
      constructor
      · rintro (h | h)
        · cases h; exact (e rfl).elim
        · exact h
      · exact .inr
theorem spanOf_none {b : Int} {ss : Songs} {n : Str} : spanOf b ss n = none ↔ n ∉ ss.map (·.1) := by
  induction ss generalizing b with
  | nil => simp [spanOf]
  | cons p ss ih =>
    obtain ⟨m, l⟩ := p
    show (if m = n then some (b, b + l) else spanOf (b + l) ss n) = none ↔ n ∉ m :: ss.map (·.1)
    rw [List.mem_cons, not_or]
    by_cases e : m = n
    · subst e; simp
    · rw [if_neg e, ih]
      exact ⟨fun h => ⟨fun z => e z.symm, h⟩, fun h => h.2⟩
theorem spanOf_le {b : Int} {ss : Songs} {n : Str} {x y : Int} (h : spanOf b ss n = some (x, y)) (hl : ∀ p ∈ ss, 1 ≤ p.2) : b ≤ x ∧ x < y ∧ y ≤ b + total ss := by
  induction ss generalizing b with
  | nil => cases h
  | cons p ss ih =>
    obtain ⟨m, l⟩ := p
    have h1 := hl (m, l) (by simp)
    have h1 : 1 ≤ l := h1
    have h2 := total_nonneg (ss := ss) fun q hq => hl q (List.mem_cons_of_mem _ hq)
    rw [total_cons]
    dsimp only
    have h : (if m = n then some (b, b + l) else spanOf (b + l) ss n) = some (x, y) := h
    split at h
    · cases h; omega
    · have := ih h fun q hq => hl q (List.mem_cons_of_mem _ hq)
      omega
/-! dicts of tapes -/
theorem valD_cons {k k' : Key} {d : D} {r : List (Key × D)} : valD ((k', d) :: r) k = if k' = k then some d else valD r k := by
  unfold valD
  by_cases e : k' = k
  · rw [if_pos e, List.find?_cons_of_pos (by simpa using e)]; rfl
  · rw [if_neg e, List.find?_cons_of_neg (by simpa using e)]
theorem valD_begs {b : Int} {ss : Songs} {n : Str} : valD (begsD b ss) (.inr n) = (spanOf b ss n).map fun p => D.int p.1 := by
  induction ss generalizing b with
  | nil => rfl
  | cons p ss ih =>
    obtain ⟨m, l⟩ := p
    show valD ((.inr m, .int b) :: begsD (b + l) ss) (.inr n) = Option.map _ (if m = n then some (b, b + l) else spanOf (b + l) ss n)
    rw [valD_cons]
    by_cases e : m = n
    · rw [if_pos (by rw [e]), if_pos e]; rfl
    · rw [if_neg (fun z => e (Sum.inr.inj z)), if_neg e, ih]
theorem valD_songs {b : Int} {ss : Songs} {n : Str} : valD (ss.map songK) (.inr n) = (spanOf b ss n).map fun p => D.int (p.2 - p.1) := by
  induction ss generalizing b with
  | nil => rfl
  | cons p ss ih =>
    obtain ⟨m, l⟩ := p
    show valD ((.inr m, .int l) :: ss.map songK) (.inr n) = Option.map _ (if m = n then some (b, b + l) else spanOf (b + l) ss n)
    rw [valD_cons]
    by_cases e : m = n
    · rw [if_pos (by rw [e]), if_pos e]; show some (D.int l) = some (D.int (b + l - b)); rw [show b + l - b = l by omega]
    · rw [if_neg (fun z => e (Sum.inr.inj z)), if_neg e, ih]
/-! ### what the defs do -/
/-- a text as an argument is not too long -/
def anyN : D → Bool
  | .str n => decide (n.cps.size ≤ 1000)
  | d => anyD d
def isName : D → Bool
  | .str n => nameOk n
  | _ => false
def songKind : D → Bool
  | .non => true | .bl _ => true | .int _ => true | .str _ => true
  | .tup [a, b] => anyN a && anyD b
  | .tup ds => decide (ds.length < 1000)
  | .lst [_, _] => true
  | _ => false
def asSong (d : D) (most : Int) : Option (Str × Int) := match d with
  | .tup [.str n, .int l] => if nameOk n = true ∧ 1 ≤ l ∧ l ≤ most then some (n, l) else none
  | _ => none
def tapeTry : Nat → Songs → List D → Nat ⊕ Songs
  | _, acc, [] => .inr acc
  | i, acc, d :: ds => if i = 30 then .inl i else match asSong d (M18 - total acc) with
    | some s => if s.1 ∈ acc.map (·.1) then .inl i else tapeTry (i + 1) (acc ++ [s]) ds
    | none => .inl i
section
variable (ε : Excs) (τ : Tx)
def S_is_name : DSp := fun ds o Φ _ => ∃ d, ds = [d] ∧ anyN d = true ∧ Φ (.bl (isName d)) o
def S_is_song : DSp := fun ds o Φ _ => ∃ d most, ds = [d, .int most] ∧ songKind d = true ∧ Φ (.bl (asSong d most).isSome) o
def tapeMk (ds : List D) (o : O) (Φ : D → O → Prop) (Ξ : DX → O → Prop) : Prop := match tapeTry 0 [] ds with
  | .inr ss => Φ (.tape ss) o
  | .inl i => Ξ ⟨ε.tape, [("index", .int (i : Nat))]⟩ o
def S_Tape : DSp := fun ds o Φ Ξ => ds.length ≤ 1000 ∧ (∀ d ∈ ds, songKind d = true) ∧ tapeMk ε ds o Φ Ξ
def S_tape_init : DSp := fun ds o Φ Ξ => ∃ q ls, ds = [.ref q, .ptup ls] ∧ ls.length ≤ 1000 ∧ (∀ d ∈ ls, songKind d = true) ∧ o q = some (.ins τ.tape []) ∧ (match tapeTry 0 [] ls with
  | .inr ss => Φ .non (updO o q (.ins τ.tape [("listed", .ptup (ss.map songD)), ("begins", .dct (begsD 0 ss)), ("total", .int (total ss))]))
  | .inl i => ∀ o', Ext o o' → Ξ ⟨ε.tape, [("index", .int (i : Nat))]⟩ o')
def S_tape_of : DSp := fun ds o Φ Ξ => ∃ d ls, ds = [d] ∧ (d = .tup ls ∨ d = .lst ls) ∧ ls.length ≤ 1000 ∧ (∀ d ∈ ls, songKind d = true) ∧ tapeMk ε ls o Φ Ξ
def S_songs : DSp := fun ds o Φ _ => ∃ ss, ds = [.tape ss] ∧ Φ (.tup (ss.map songD)) o
def S_names : DSp := fun ds o Φ _ => ∃ ss, ds = [.tape ss] ∧ OkTape ss ∧ Φ (.tup (ss.map fun p => .str p.1)) o
def S_size : DSp := fun ds o Φ _ => ∃ ss, ds = [.tape ss] ∧ Φ (.int (total ss)) o
def S_span_of : DSp := fun ds o Φ _ => ∃ ss n x y, ds = [.tape ss, .str n] ∧ OkTape ss ∧ spanOf 0 ss n = some (x, y) ∧ Φ (.tup [.int x, .int y]) o
def songIn (ss : Songs) : D → Option (Int × Int)
  | .str n => spanOf 0 ss n
  | _ => none
def S_tape_in : DSp := fun ds o Φ _ => ∃ ss d, ds = [.tape ss, d] ∧ anyD d = true ∧ Φ (.bl (songIn ss d).isSome) o
def S_tape_add : DSp := fun ds o Φ Ξ => ∃ ss ts, ds = [.tape ss, .tape ts] ∧ OkTape ss ∧ OkTape ts ∧ tapeMk ε ((ss ++ ts).map songD) o Φ Ξ
def S_tape_inv : DSp := fun ds o Φ _ => ∃ ss, ds = [.tape ss] ∧ OkTape ss ∧ Φ (.tape ss.reverse) o
/-- what lies between two cells -/
def cut (f l : Int) (p : Str × Int × Int) : Option (Str × Int) := let lo := maxI f p.2.1; let hi := minI l p.2.2; if lo < hi then some (p.1, hi - lo) else none
/-! playing -/
def S_counters : DSp := fun ds o Φ Ξ => ∃ c g ss d, ds = [.deck c g, .tape ss, d] ∧ OkDeck c g ∧ OkTape ss ∧ anyD d = true ∧ (if isIn d 0 (total ss) = true then ∃ n, d = .int n ∧ Φ (.tup [.int (turns c g n), .int (turns c g (total ss - n))]) o else Ξ ⟨ε.number, []⟩ o)
noncomputable def readingsD (c g : Int) (ss : Songs) : List (Key × D) := (begL 0 ss).map fun p => (.inr p.1, .int (turns c g p.2))
noncomputable def S_begin_readings : DSp := fun ds o Φ _ => ∃ c g ss, ds = [.deck c g, .tape ss] ∧ OkDeck c g ∧ OkTape ss ∧ Φ (.dct (readingsD c g ss)) o
def songsAt (c g : Int) (ss : Songs) (r : Int) : List Str := ((spans 0 ss).filter fun p => decide (p.2.1 ≤ len c g (r + 1) - 1) && decide (len c g r < p.2.2)).map (·.1)
def S_songs_at : DSp := fun ds o Φ Ξ => ∃ c g ss d, ds = [.deck c g, .tape ss, d] ∧ OkDeck c g ∧ OkTape ss ∧ anyD d = true ∧ (if isIn d 0 M18 = true then ∃ r, d = .int r ∧ Φ (.lst ((songsAt c g ss r).map D.str)) o else Ξ ⟨ε.number, []⟩ o)
/-- a name is put under its reading -/
def putG (gs : List (Int × List Str)) (r : Int) (n : Str) : List (Int × List Str) :=
  if r ∈ gs.map (·.1) then gs.map fun p => if p.1 = r then (p.1, p.2 ++ [n]) else p else gs ++ [(r, [n])]
noncomputable def groups (c g : Int) (ss : Songs) : List (Int × List Str) := (begL 0 ss).foldl (fun gs p => putG gs (turns c g p.2) p.1) []
noncomputable def alike (c g : Int) (ss : Songs) : List (List Str) := ((groups c g ss).map (·.2)).filter fun ns => decide (1 < ns.length)
noncomputable def S_alike : DSp := fun ds o Φ _ => ∃ c g ss, ds = [.deck c g, .tape ss] ∧ OkDeck c g ∧ OkTape ss ∧ Φ (.lst ((alike c g ss).map fun ns => .lst (ns.map D.str))) o
end
/-! ### a tape of valid songs -/
theorem asSong_ok {n : Str} {l most : Int} (h : nameOk n = true) (h1 : 1 ≤ l) (h2 : l ≤ most) : asSong (songD (n, l)) most = some (n, l) := by
  show (if nameOk n = true ∧ 1 ≤ l ∧ l ≤ most then some (n, l) else none) = _
  rw [if_pos ⟨h, h1, h2⟩]
theorem tapeTry_go {ss : Songs} (k : OkTape ss) : ∀ (ts acc : Songs), ss = acc ++ ts → tapeTry acc.length acc (ts.map songD) = .inr ss
  | [], acc, e => by rw [List.append_nil] at e; subst e; rfl
  | (n, l) :: ts, acc, e => by
    have hm : (n, l) ∈ ss := by rw [e]; simp
    have hlen : ss.length = acc.length + (ts.length + 1) := by rw [e, List.length_append, List.length_cons]
    have hfew := k.few
    have htot := k.tot
    have e2 : total ss = total acc + (l + total ts) := by rw [e, total_append, total_cons]
    have h0 : 0 ≤ total ts := total_nonneg fun p hp => k.ln p (by rw [e]; simp [hp])
    show (if acc.length = 30 then (Sum.inl acc.length : Nat ⊕ Songs) else match asSong (songD (n, l)) (M18 - total acc) with
      | some s => if s.1 ∈ acc.map (·.1) then Sum.inl acc.length else tapeTry (acc.length + 1) (acc ++ [s]) (ts.map songD)
      | none => Sum.inl acc.length) = Sum.inr ss
    rw [if_neg (by omega), asSong_ok (k.nm _ hm) (k.ln _ hm) (by omega)]
    dsimp only
    rw [if_neg]
    · have := tapeTry_go k ts (acc ++ [(n, l)]) (by rw [e, List.append_assoc]; rfl)
      rw [List.length_append] at this
      exact this
    · intro h
      have := k.nd
      rw [e, List.map_append, List.map_cons] at this
      exact (List.nodup_append.mp this).2.2 n h n (by simp) rfl
theorem tapeTry_ok {ss : Songs} (k : OkTape ss) : tapeTry 0 [] (ss.map songD) = .inr ss := tapeTry_go k ss [] rfl
theorem kind_songs {ss : Songs} (k : ∀ p ∈ ss, nameOk p.1 = true) : ∀ d ∈ ss.map songD, songKind d = true := fun d hd => by
  obtain ⟨⟨n, l⟩, hp, rfl⟩ := List.mem_map.mp hd
  have : n.cps.size ≤ 8 := nameOk_len (k _ hp)
  show (decide (n.cps.size ≤ 1000) && true) = true
  simp
  omega
section
variable {o : O} {Φ : D → O → Prop} {Ξ : DX → O → Prop} {ε : Excs} {τ : Tx}
theorem mk_ok {ss : Songs} (k : OkTape ss) (h : Φ (.tape ss) o) : tapeMk ε (ss.map songD) o Φ Ξ := by
  unfold tapeMk
  rw [tapeTry_ok k]
  exact h
theorem use_Tape {ss : Songs} (k : OkTape ss) (h : Φ (.tape ss) o) : S_Tape ε (ss.map songD) o Φ Ξ :=
  ⟨by rw [List.length_map]; have := k.few; omega, kind_songs k.nm, mk_ok k h⟩
theorem use_tape_of {ss : Songs} {d : D} (hd : d = .tup (ss.map songD) ∨ d = .lst (ss.map songD)) (k : OkTape ss) (h : Φ (.tape ss) o) : S_tape_of ε [d] o Φ Ξ :=
  ⟨d, _, rfl, hd, by rw [List.length_map]; have := k.few; omega, kind_songs k.nm, mk_ok k h⟩
theorem use_tape_add {ss ts : Songs} (k1 : OkTape ss) (k2 : OkTape ts) (k : OkTape (ss ++ ts)) (h : Φ (.tape (ss ++ ts)) o) : S_tape_add ε [.tape ss, .tape ts] o Φ Ξ := ⟨ss, ts, rfl, k1, k2, mk_ok k h⟩
end
/-! stretches -/
end TC
set_option Elab.async false
set_option linter.all false
set_option maxRecDepth 100000
set_option maxHeartbeats 2000000
/-! Tp2 (printed by gen_tp2.py): readings of the package's defs. -/
namespace TC
open PySem PySem.Spec PyProof.Rows L2 DL RD
section
variable (τ : Tx) (ε : Excs) (π : Str → Addr)
/-- slots: 0 value, 1 letter; loops carry [] -/
noncomputable def t_is_name : RS := (sCons (sIf (tOr (tNot (tVal (rIs isS (rVar 0)))) (tNot (tVal (rLe2 (fun j l => decide (j ≤ l)) (rC (.int 1)) (rFn lenS (rACons (rVar 0) rANil)) (rC (.int 8))))))
  (sRet (rC (.bl false)))
  sNil)
  (sRet (r1 allS (rLcI [1] (turn1 (gName 1) (r2 inSignS (rVar 1) (rC (.str "abcdefghijklmnopqrstuvwxyz")))) (iStr (rVar 0))))))
/-- slots: 0 value, 1 most, 2 name, 3 length; loops carry [] -/
noncomputable def t_is_song : RS := (sMatch2 2 3 (rVar 0) (tVal (rIs isTu (rVar 0)))
  (sRet (rAnd (rCall (S_is_name) (rACons (rVar 2) rANil)) (rCall (S_isint) (rACons (rVar 3) (rACons (rC (.int 1)) (rACons (rVar 1) rANil))))))
  (sRet (rC (.bl false))))
/-- slots: 0 self, 1 songs, 2 total, 3 begins, 4 index, 5 song; loops carry [('[2]', ['total'])] -/
noncomputable def t_tape_init : RS := (sCons (sSet 2 (rC (.int 0)))
  (sCons (sSet 3 rDnew)
  (sCons (sForI [2, 4, 5] [2] (gTup [4, 5]) (iEnumT (rVar 1))
  (sCons (sIf (tOr (tVal (r2 eqQ (rVar 4) (rC (.int 30)))) (tOr (tNot (tVal (rCall (S_is_song) (rACons (rVar 5) (rACons (r2 subS (rC (.int 1000000000000000000)) (rVar 2)) rANil))))) (tVal (rDin (r2 ixS (rVar 5) (rC (.int 0))) (rVar 3)))))
  (sRaiseF ε.tape "index" (rVar 4))
  sNil)
  (sCons (sDput (rVar 2) (rVar 3) (r2 ixS (rVar 5) (rC (.int 0))))
  (sSet 2 (r2 addS (rVar 2) (r2 ixS (rVar 5) (rC (.int 1))))))))
  (sFrzD 3 (sCons (sFldC τ.tape "listed" (rVar 1) 0)
  (sCons (sFldC τ.tape "begins" (rVar 3) 0)
  (sFldC τ.tape "total" (rVar 2) 0)))))))
/-- slots: 0 self; loops carry [] -/
noncomputable def t_songs : RS := (sRet (rListed (rVar 0)))
/-- slots: 0 self, 1 name, 2 length; loops carry [] -/
noncomputable def t_names : RS := (sRet (r1 tupleS (rLcT [1, 2] (turn1 (gTup [1, 2]) (rVar 1)) (rListed (rVar 0)))))
/-- slots: 0 self; loops carry [] -/
noncomputable def t_size : RS := (sRet (rTotal (rVar 0)))
/-- slots: 0 self, 1 name; loops carry [] -/
noncomputable def t_span_of : RS := (sRet (rTup (rACons (rDget (rBegins (rVar 0)) (rVar 1)) (rACons (r2 addS (rDget (rBegins (rVar 0)) (rVar 1)) (rDget (rDictListed (rVar 0)) (rVar 1))) rANil))))
/-- slots: 0 self, 1 name; loops carry [] -/
noncomputable def t_tape_in : RS := (sRet (rAnd (rIs isS (rVar 1)) (rDin (rVar 1) (rBegins (rVar 0)))))
/-- slots: 0 songs; loops carry [] -/
noncomputable def t_tape_of : RS := (sRet (rStar (S_Tape ε) (rVar 0)))
/-- slots: 0 self, 1 other; loops carry [] -/
noncomputable def t_tape_add : RS := (sRet (rCall (S_tape_of ε) (rACons (r2 addS (rListed (rVar 0)) (rListed (rVar 1))) rANil)))
/-- slots: 0 self; loops carry [] -/
noncomputable def t_tape_inv : RS := (sRet (rCall (S_tape_of ε) (rACons (rRevT (rListed (rVar 0))) rANil)))
/-- slots: 0 deck, 1 tape, 2 cell; loops carry [] -/
noncomputable def t_counters : RS := (sCons (sExpr (rCall (S_check ε) (rACons (rVar 2) (rACons (rC (.int 0)) (rACons (rTotal (rVar 1)) rANil)))))
  (sRet (rTup (rACons (rMethD (S_turns_in) (rVar 0) (rACons (rVar 2) rANil)) (rACons (rMethD (S_turns_in) (rVar 0) (rACons (r2 subS (rTotal (rVar 1)) (rVar 2)) rANil)) rANil)))))
/-- slots: 0 deck, 1 tape, 2 name, 3 begin; loops carry [] -/
noncomputable def t_begin_readings : RS := (sRet (rDcI [2, 3] (turnD (gTup [2, 3]) (rVar 2) (rMethD (S_turns_in) (rVar 0) (rACons (rVar 3) rANil))) (iItems (rBegins (rVar 1)))))
/-- slots: 0 deck, 1 tape, 2 reading, 3 low, 4 high, 5 found, 6 name, 7 begin, 8 end; loops carry [('[]', [])] -/
noncomputable def t_songs_at : RS := (sCons (sExpr (rCall (S_check ε) (rACons (rVar 2) (rACons (rC (.int 0)) (rACons (rC (.int 1000000000000000000)) rANil)))))
  (sCons (sAsg (gTup [3, 4]) (rMethD (S_cells_at ε) (rVar 0) (rACons (rVar 2) rANil)))
  (sCons (sSet 5 (rLstO rANil))
  (sCons (sForT [6, 7, 8] [] (gName 6) (rPrpT (S_names) (rVar 1))
  (sCons (sAsg (gTup [7, 8]) (rMethT (S_span_of) (rVar 1) (rACons (rVar 6) rANil)))
  (sIf (tAnd (tVal (r2 (ltS fun i j => decide (i ≤ j)) (rVar 7) (rVar 4))) (tVal (r2 (ltS fun i j => decide (i < j)) (rVar 3) (rVar 8))))
  (sExpr (rAppend (rVar 5) (rVar 6)))
  sNil)))
  (sFrz 5 (sRet (rVar 5)))))))
/-- slots: 0 deck, 1 tape, 2 groups, 3 name, 4 reading, 5 names; loops carry [('[]', [])] -/
noncomputable def t_alike_songs : RS := (sCons (sSet 2 rDnew)
  (sCons (sForI [3, 4] [] (gTup [3, 4]) (iItems (rCall (S_begin_readings) (rACons (rVar 0) (rACons (rVar 1) rANil))))
  (sExpr (rAppend (rSetd (rVar 2) (rVar 4)) (rVar 3))))
  (sFrzG 2 (sRet (rLcI [5] (turnI (gName 5) (tVal (r2 (ltS fun i j => decide (j < i)) (rFn lenS (rACons (rVar 5) rANil)) (rC (.int 1)))) (rVar 5)) (iVals (rVar 2)))))))
end
end TC
set_option Elab.async false
set_option linter.all false
set_option maxRecDepth 100000
set_option maxHeartbeats 2000000
/-! Tp3: the defs of tapes.py do so. -/
namespace TC
open PySem PySem.Spec PyProof.Rows L2 DL RD
theorem letters_cps : ("abcdefghijklmnopqrstuvwxyz" : Str).cps.toList = List.range' 97 26 := by decide +kernel
theorem letter_mem (c : Nat) : decide (c ∈ ("abcdefghijklmnopqrstuvwxyz" : Str).cps.toList) = letter c := by
  rw [letters_cps]
  unfold letter
  rw [← Bool.decide_and]
  refine decide_eq_decide.mpr ?_
  rw [List.mem_range']
  constructor
  · rintro ⟨i, h, rfl⟩; omega
  · rintro ⟨h1, h2⟩; exact ⟨c - 97, by omega, by omega⟩
theorem b_is_name : BODY 2 t_is_name S_is_name := by
  rintro ds o Φ Ξ ⟨d, rfl, ha, hΦ⟩
  cases d with
  | str n =>
    have hs : n.cps.size ≤ 1000 := of_decide_eq_true ha
    refine brF rfl ?_
    refine ⟨le_size hs, ?_⟩
    have go : nameOk n = false → Φ (.bl false) o := fun h => by have this : Φ (.bl (nameOk n)) o := hΦ; rw [h] at this; exact this
    have e1 : n.length = n.cps.size := rfl
    refine brD (fun h1 => ?_) (fun h1 => ?_)
    · refine brN (fun h2 => ?_) (fun h2 => ?_)
      · have hn : n.cps.size ≤ 8 := by have : (n.length : Int) ≤ 8 := h2; omega
        have hn1 : 1 ≤ n.cps.size := by have : (1 : Int) ≤ n.length := h1; omega
        refine lc_map n.cps.toList (fun c => .str ⟨#[c]⟩) (fun c => .bl (letter c)) rfl (by simp; omega) (fun c hc o' Ψ hx h => ?_) ?_
        · refine ⟨c, rfl, ?_⟩
          rw [letter_mem]
          exact h
        · refine ⟨n.cps.toList.map letter, by rw [List.map_map]; rfl, ?_⟩
          have e : (n.cps.toList.map letter).all id = isName (.str n) := by
            show _ = nameOk n
            unfold nameOk
            rw [decide_eq_true hn, decide_eq_true hn1]
            rw [List.all_map]
            rfl
          rw [e]
          exact hΦ
      · refine go ?_
        unfold nameOk
        have : ¬ n.cps.size ≤ 8 := fun z => h2 (by show (n.length : Int) ≤ 8; omega)
        rw [decide_eq_false this]
        simp
    · refine brT rfl (go ?_)
      unfold nameOk
      have : ¬ 1 ≤ n.cps.size := fun z => h1 (by show (1 : Int) ≤ n.length; omega)
      rw [decide_eq_false this]
      simp
  | _ => first | exact (Bool.false_ne_true ha).elim | exact brT rfl (brT rfl hΦ)
theorem asSong_is {a b : D} {most : Int} : (asSong (.tup [a, b]) most).isSome = (isName a && isIn b 1 most) := by
  cases a <;> first | rfl | skip
  rename_i n
  cases b <;> first | (show (none : Option (Str × Int)).isSome = (nameOk n && false); simp) | skip
  rename_i l
  show (if nameOk n = true ∧ 1 ≤ l ∧ l ≤ most then some (n, l) else none).isSome = (nameOk n && (decide (1 ≤ l) && decide (l ≤ most)))
  by_cases h : nameOk n = true ∧ 1 ≤ l ∧ l ≤ most
  · rw [if_pos h, h.1, decide_eq_true h.2.1, decide_eq_true h.2.2]; rfl
  · rw [if_neg h]
    cases e : nameOk n with
    | false => rfl
    | true =>
      by_cases h1 : 1 ≤ l
      · by_cases h2 : l ≤ most
        · exact (h ⟨e, h1, h2⟩).elim
        · rw [decide_eq_false h2]; simp
      · rw [decide_eq_false h1]; simp
theorem asSong_some {d : D} {most : Int} {s : Str × Int} (h : asSong d most = some s) : d = songD s ∧ nameOk s.1 = true ∧ 1 ≤ s.2 ∧ s.2 ≤ most := by
  unfold asSong at h
  split at h
  · split at h
    · rename_i k
      cases h
      exact ⟨rfl, k⟩
    · cases h
  · cases h
theorem asSong_one {x : D} {most : Int} : asSong (.tup [x]) most = none := by cases x <;> rfl
theorem asSong_more {x y z : D} {r : List D} {most : Int} : asSong (.tup (x :: y :: z :: r)) most = none := by cases x <;> first | rfl | (cases y <;> rfl)
theorem b_is_song : BODY 4 t_is_song S_is_song := by
  rintro ds o Φ Ξ ⟨d, most, rfl, hk, hΦ⟩
  cases d with
  | tup ds =>
    match ds, hk with
    | [a, b], hk =>
      have hk : (anyN a && anyD b) = true := hk
      rw [Bool.and_eq_true] at hk
      rw [asSong_is] at hΦ
      refine brT rfl (call ⟨a, rfl, hk.1, br (fun h => call (use_isint hk.2 ?_)) (fun h => ?_)⟩)
      · rw [h] at hΦ; exact hΦ
      · rw [h] at hΦ; exact hΦ
    | [], hk => exact ⟨of_decide_eq_true hk, hΦ⟩
    | [x], hk => exact ⟨of_decide_eq_true hk, by rw [asSong_one] at hΦ; exact hΦ⟩
    | x :: y :: z :: r, hk => exact ⟨of_decide_eq_true hk, by rw [asSong_more] at hΦ; exact hΦ⟩
  | lst ds =>
    match ds, hk with
    | [a, b], hk => exact brF rfl hΦ
    | [], hk => exact (Bool.false_ne_true hk).elim
    | [_], hk => exact (Bool.false_ne_true hk).elim
    | _ :: _ :: _ :: _, hk => exact (Bool.false_ne_true hk).elim
  | _ => first | exact (Bool.false_ne_true hk).elim | exact hΦ
theorem enumD_of {ls : List D} {m : Nat} {d : D} (h : (enumD ls)[m]? = some d) : ∃ x, ls[m]? = some x ∧ d = .tup [.int (m : Nat), x] := by
  have hm : m < ls.length := by
    have := (List.getElem?_eq_some_iff.mp h).1
    rw [enumD_length] at this
    exact this
  have e := enumD_get (List.getElem?_eq_getElem hm)
  rw [e] at h
  cases h
  exact ⟨_, List.getElem?_eq_getElem hm, rfl⟩
theorem begsD_append (b : Int) (ss ts : Songs) : begsD b (ss ++ ts) = begsD b ss ++ begsD (b + total ss) ts := by
  induction ss generalizing b with
  | nil => rw [total_nil, Int.add_zero]; rfl
  | cons p ss ih =>
    obtain ⟨n, l⟩ := p
    show (_, _) :: begsD (b + l) (ss ++ ts) = (_, _) :: (begsD (b + l) ss ++ _)
    rw [ih, total_cons]
    dsimp only
    rw [Int.add_assoc]
theorem begs_snoc {acc : Songs} {n : Str} {l : Int} (h : n ∉ acc.map (·.1)) : storeD (begsD 0 acc) (.inr n) (.int (total acc)) = begsD 0 (acc ++ [(n, l)]) := by
  rw [storeD_new, begsD_append, Int.zero_add]
  · rfl
  · intro p hp e
    rw [begsD_begL] at hp
    obtain ⟨⟨m, x⟩, hq, rfl⟩ := List.mem_map.mp hp
    have e : m = n := Sum.inr.inj e
    subst e
    refine h ?_
    rw [← begL_names 0]
    exact List.mem_map.mpr ⟨_, hq, rfl⟩
theorem begs_in {acc : Songs} {n : Str} : (valD (begsD 0 acc) (.inr n)).isSome = decide (n ∈ acc.map (·.1)) := by
  rw [valD_begs]
  by_cases h : n ∈ acc.map (·.1)
  · rw [decide_eq_true h]
    cases e : spanOf 0 acc n with
    | none => exact ((spanOf_none.mp e) h).elim
    | some p => rfl
  · rw [decide_eq_false h, spanOf_none.mpr h]
    rfl
theorem putD_len {f : Str} {d : D} {fs : List (Str × D)} : (putD f d fs).length ≤ fs.length + 1 := by
  induction fs with
  | nil => exact Nat.le_refl _
  | cons p r ih =>
    obtain ⟨g, x⟩ := p
    show (if g = f then (g, d) :: r else (g, x) :: putD f d r).length ≤ _
    split
    · simp
    · rw [List.length_cons, List.length_cons]; omega
theorem put3 {a b c : D} : putD "total" c (putD "begins" b (putD "listed" a [])) = ([("listed", a), ("begins", b), ("total", c)] : List (Str × D)) := by
  have e : putD "begins" b (putD "listed" a []) = ([("listed", a), ("begins", b)] : List (Str × D)) := by
    show (if ("listed" : Str) = "begins" then _ else _) = _
    rw [if_neg klb] <;> rfl
  rw [e]
  show (if ("listed" : Str) = "total" then _ else _) = _
  rw [if_neg klt]
  show _ :: (if ("begins" : Str) = "total" then _ else _) = _
  rw [if_neg kbt] <;> rfl
theorem fmt_small {n : Nat} (h : n ≤ 1000) : fmtD (.int (n : Nat)) := by
  show (n : Int).natAbs.log2 < 1920
  have : (n : Int).natAbs = n := rfl
  rw [this]
  rcases Nat.eq_zero_or_pos n with e | e
  · subst e; decide
  · exact Nat.lt_trans ((Nat.log2_lt (k := 10) (by omega)).mpr (by omega)) (by decide)
theorem take_song {ls : List D} {m : Nat} {x : D} (h : ls[m]? = some x) : ls.take (m + 1) = ls.take m ++ [x] := by
  rw [List.take_succ, h]; rfl
theorem b_tape_init {τ : Tx} {ε : Excs} : BODY 6 (t_tape_init τ ε) (S_tape_init ε τ) := by
  rintro ds o Φ Ξ ⟨q, ls, rfl, hl, hk, hq, h⟩
  have hE : ∀ i, tapeTry 0 [] ls = .inl i → ∀ o', Ext o o' → Ξ ⟨ε.tape, [("index", .int (i : Nat))]⟩ o' := fun i e => by rw [e] at h; exact h
  intro qb hqb
  refine for_by (fun m cv o' => ∃ acc, cv = [some (.int (total acc))] ∧ acc.length = m ∧ o' = updO o qb (.dct (begsD 0 acc)) ∧ tapeTry 0 [] ls = tapeTry m acc (ls.drop m) ∧ acc.map songD = ls.take m) ⟨[], rfl, rfl, rfl, rfl, rfl⟩ ?_ ?_
  · rintro m d cv o' hd ⟨acc, rfl, rfl, rfl, ht, hm⟩
    obtain ⟨x, hx, rfl⟩ := enumD_of hd
    have hlt : acc.length < ls.length := (List.getElem?_eq_some_iff.mp hx).1
    rw [List.drop_eq_getElem_cons hlt, (List.getElem?_eq_some_iff.mp hx).2] at ht
    replace ht : tapeTry 0 [] ls = (if acc.length = 30 then Sum.inl acc.length else match asSong x (M18 - total acc) with
      | some s => if s.1 ∈ acc.map (·.1) then Sum.inl acc.length else tapeTry (acc.length + 1) (acc ++ [s]) (ls.drop (acc.length + 1))
      | none => Sum.inl acc.length) := ht
    have hx' : Ext o (updO o qb (.dct (begsD 0 acc))) := Ext.updO hqb
    refine eqq_i ?_
    refine brD (p := ((acc.length : Nat) : Int) = 30) (fun h30 => ?_) (fun h30 => ?_)
    · rw [if_pos (by omega)] at ht
      exact brT rfl ⟨fmt_small (by omega), hE _ ht _ hx'⟩
    · rw [if_neg (by omega)] at ht
      refine call ⟨x, _, rfl, hk x (List.mem_of_getElem? hx), ?_⟩
      show BR (!(asSong x (M18 - total acc)).isSome) _ _
      cases e : asSong x (M18 - total acc) with
      | none =>
        rw [e] at ht
        exact brT rfl (brT rfl ⟨fmt_small (by omega), hE _ ht _ hx'⟩)
      | some s =>
        rw [e] at ht
        obtain ⟨rfl, h1, h2, h3⟩ := asSong_some e
        obtain ⟨n, l⟩ := s
        refine brF rfl ?_
        refine ⟨_, rfl, _, updO_same, ?_⟩
        show BR (valD (begsD 0 acc) (.inr n)).isSome _ _
        rw [begs_in]
        by_cases hin : n ∈ acc.map (·.1)
        · have ht : tapeTry 0 [] ls = (if n ∈ acc.map (·.1) then Sum.inl acc.length else tapeTry (acc.length + 1) (acc ++ [(n, l)]) (ls.drop (acc.length + 1))) := ht
          rw [if_pos hin] at ht
          exact brDT hin ⟨fmt_small (by omega), hE _ ht _ hx'⟩
        · have ht : tapeTry 0 [] ls = (if n ∈ acc.map (·.1) then Sum.inl acc.length else tapeTry (acc.length + 1) (acc ++ [(n, l)]) (ls.drop (acc.length + 1))) := ht
          rw [if_neg hin] at ht
          refine brDF hin ?_
          refine ⟨_, rfl, _, updO_same, lt_size (by rw [begsD_begL, List.length_map, begL_length]; omega), _, rfl, rfl, acc ++ [(n, l)], ?_, by rw [List.length_append]; rfl, ?_, ht, ?_⟩
          · rw [total_append, total_cons, total_nil, Int.add_zero]; rfl
          · rw [updO_updO, begs_snoc hin]
          · rw [List.map_append, hm, take_song hx]; rfl
  · rintro cv o' ⟨acc, rfl, hlen, rfl, ht, hm⟩
    rw [enumD_length, List.drop_length] at ht
    rw [enumD_length, List.take_length] at hm
    have ht : tapeTry 0 [] ls = .inr acc := ht
    rw [ht] at h
    refine ⟨qb, o, _, rfl, rfl, hqb, ?_⟩
    refine ⟨_, hq, by decide, ?_⟩
    refine ⟨_, updO_same, Nat.lt_of_le_of_lt putD_len (by decide), ?_⟩
    refine ⟨_, updO_same, Nat.lt_of_le_of_lt (Nat.le_trans putD_len (Nat.succ_le_succ putD_len)) (by decide), ?_⟩
    show Φ .non _
    rw [updO_updO, updO_updO, put3, ← hm]
    exact h
end TC
set_option Elab.async false
set_option linter.all false
set_option maxRecDepth 100000
set_option maxHeartbeats 2000000
/-! Tp4: the rest of tapes.py. -/
namespace TC
open PySem PySem.Spec PyProof.Rows L2 DL RD
theorem b_songs : BODY 1 t_songs S_songs := by
  rintro ds o Φ Ξ ⟨ss, rfl, hΦ⟩
  exact hΦ
theorem b_size : BODY 1 t_size S_size := by
  rintro ds o Φ Ξ ⟨ss, rfl, hΦ⟩
  exact hΦ
theorem b_names : BODY 3 t_names S_names := by
  rintro ds o Φ Ξ ⟨ss, rfl, k, hΦ⟩
  refine lc_map ss songD (fun p => .str p.1) rfl (by have := k.few; omega) (fun p hp o' Ψ hx h => ?_) ?_
  · exact h
  · exact hΦ
theorem dget_begs {ss : Songs} {n : Str} {x y : Int} (h : spanOf 0 ss n = some (x, y)) : valD (begsD 0 ss) (.inr n) = some (.int x) := by rw [valD_begs, h] <;> rfl
theorem dget_songs {ss : Songs} {n : Str} {x y : Int} (h : spanOf 0 ss n = some (x, y)) : valD (ss.map songK) (.inr n) = some (.int (y - x)) := by rw [valD_songs (b := 0), h] <;> rfl
theorem span_end {x y : Int} {o : O} {Φ : D → O → Prop} (h : Φ (.tup [.int x, .int y]) o) : Φ (.tup [.int x, .int (x + (y - x))]) o := by
  rw [show x + (y - x) = y by omega]; exact h
theorem b_span_of : BODY 2 t_span_of S_span_of := by
  rintro ds o Φ Ξ ⟨ss, n, x, y, rfl, k, hs, hΦ⟩
  refine ⟨_, dget_begs hs, ?_⟩
  refine ⟨_, dget_begs hs, ?_⟩
  refine ⟨k.nd, ?_⟩
  refine ⟨_, dget_songs hs, ?_⟩
  exact span_end hΦ
theorem b_tape_in : BODY 2 t_tape_in S_tape_in := by
  rintro ds o Φ Ξ ⟨ss, d, rfl, ha, hΦ⟩
  cases d with
  | str n =>
    refine brT rfl ?_
    show Φ (.bl (valD (begsD 0 ss) (.inr n)).isSome) o
    rw [valD_begs]
    have e : (Option.map (fun p => D.int p.1) (spanOf 0 ss n)).isSome = (spanOf 0 ss n).isSome := by cases spanOf 0 ss n <;> rfl
    rw [e]
    exact hΦ
  | _ => first | exact (Bool.false_ne_true ha).elim | exact brF rfl hΦ
theorem b_tape_of {ε : Excs} : BODY 1 (t_tape_of ε) (S_tape_of ε) := by
  rintro ds o Φ Ξ ⟨d, ls, rfl, hd, hl, hk, h⟩
  rcases hd with rfl | rfl
  · exact ⟨le_size hl, call ⟨hl, hk, h⟩⟩
  · exact ⟨le_size hl, call ⟨hl, hk, h⟩⟩
theorem b_tape_add {ε : Excs} : BODY 2 (t_tape_add ε) (S_tape_add ε) := by
  rintro ds o Φ Ξ ⟨ss, ts, rfl, k1, k2, h⟩
  have l1 := k1.few
  have l2 := k2.few
  refine ⟨le_size (by rw [List.length_map, List.length_map]; omega), call ⟨_, ss.map songD ++ ts.map songD, rfl, .inl rfl, by rw [List.length_append, List.length_map, List.length_map]; omega, fun d hd => ?_, by rw [← List.map_append]; exact h⟩⟩
  rcases List.mem_append.mp hd with hd | hd
  · exact kind_songs k1.nm d hd
  · exact kind_songs k2.nm d hd
theorem OkTape.sub {ss ts : Songs} (k : OkTape ss) (h : ts.Sublist ss) : OkTape ts := by
  refine ⟨Nat.le_trans h.length_le k.few, fun p hp => k.nm p (h.subset hp), fun p hp => k.ln p (h.subset hp), (h.map _).nodup k.nd, ?_⟩
  have : ∀ {ss ts : Songs}, ts.Sublist ss → (∀ p ∈ ss, 1 ≤ p.2) → total ts ≤ total ss := by
    intro ss ts h
    induction h with
    | slnil => intro _; exact Int.le_refl _
    | cons p h ih =>
      intro hl
      rw [total_cons]
      have := hl p (by simp)
      have := ih fun q hq => hl q (List.mem_cons_of_mem _ hq)
      omega
    | cons_cons p h ih =>
      intro hl
      rw [total_cons, total_cons]
      have := ih fun q hq => hl q (List.mem_cons_of_mem _ hq)
      omega
  exact Int.le_trans (this h k.ln) k.tot
theorem b_tape_inv {ε : Excs} : BODY 1 (t_tape_inv ε) S_tape_inv := by
  rintro ds o Φ Ξ ⟨ss, rfl, k, hΦ⟩
  exact call (use_tape_of (.inl (by rw [List.map_reverse])) k.rev hΦ)
theorem song_get {ss : Songs} {m : Nat} {d : D} (h : (ss.map songD)[m]? = some d) : ∃ n l, ss[m]? = some (n, l) ∧ d = .tup [.str n, .int l] := by
  rw [List.getElem?_map] at h
  cases e : ss[m]? with
  | none => rw [e] at h; cases h
  | some p =>
    rw [e] at h
    cases h
    exact ⟨p.1, p.2, rfl, rfl⟩
theorem spans_get {b : Int} {ss : Songs} {m : Nat} {n : Str} {l : Int} (h : ss[m]? = some (n, l)) (hn : (ss.map (·.1)).Nodup) : ∃ x, (spans b ss)[m]? = some (n, x, x + l) ∧ spanOf b ss n = some (x, x + l) := by
  induction ss generalizing b m with
  | nil => simp at h
  | cons p ss ih =>
    obtain ⟨m', l'⟩ := p
    have hn' := hn
    rw [List.map_cons, List.nodup_cons] at hn
    cases m with
    | zero =>
      simp at h
      obtain ⟨rfl, rfl⟩ := h
      exact ⟨b, rfl, by show (if m' = m' then _ else _) = _; rw [if_pos rfl]⟩
    | succ m =>
      simp at h
      obtain ⟨x, h1, h2⟩ := ih (b := b + l') h hn.2
      refine ⟨x, by show ((m', b, b + l') :: spans (b + l') ss)[m + 1]? = _; simpa using h1, ?_⟩
      show (if m' = n then _ else _) = _
      rw [if_neg, h2]
      intro e
      subst e
      exact hn.1 (List.mem_map.mpr ⟨_, List.mem_of_getElem? h, rfl⟩)
theorem take_map_snoc {α : Type} {xs : List α} {m : Nat} {x : α} (h : xs[m]? = some x) : xs.take (m + 1) = xs.take m ++ [x] := by
  rw [List.take_succ, h]; rfl
end TC
set_option Elab.async false
set_option linter.all false
set_option maxRecDepth 100000
set_option maxHeartbeats 2000000
/-! Tp5: playing.py. -/
namespace TC
open PySem PySem.Spec PyProof.Rows L2 DL RD
theorem tot_nab {ss : Songs} (k : OkTape ss) {n : Int} (h0 : 0 ≤ n) (h1 : n ≤ total ss) : n.natAbs < 2 ^ 400 := nab18 h0 (Int.le_trans h1 k.tot)
theorem b_counters {ε : Excs} : BODY 3 (t_counters ε) (S_counters ε) := by
  rintro ds o Φ Ξ ⟨c, g, ss, d, rfl, k1, k2, ha, h⟩
  refine call (use_checkD ha (fun n e h0 h1 => ?_) fun e => ?_)
  · subst e
    rw [if_pos (isIn_i h0 h1)] at h
    obtain ⟨n', e, hΦ⟩ := h
    cases e
    refine call (use_turns_in k1 h0 (tot_nab k2 h0 h1) ?_)
    exact call (use_turns_in k1 (by omega) (tot_nab k2 (by omega) (by omega)) hΦ)
  · rw [if_neg (by rw [e]; exact Bool.false_ne_true)] at h
    exact h
theorem use_counters {ε : Excs} {c g n : Int} {ss : Songs} {o : O} {Φ : D → O → Prop} {Ξ : DX → O → Prop} (k1 : OkDeck c g) (k2 : OkTape ss) (h0 : 0 ≤ n) (h1 : n ≤ total ss) (h : Φ (.tup [.int (turns c g n), .int (turns c g (total ss - n))]) o) : S_counters ε [.deck c g, .tape ss, .int n] o Φ Ξ :=
  ⟨c, g, ss, _, rfl, k1, k2, rfl, by rw [if_pos (isIn_i h0 h1)]; exact ⟨n, rfl, h⟩⟩
theorem items_begs (ss : Songs) : itemsD (begsD 0 ss) = (begL 0 ss).map fun p => .tup [.str p.1, .int p.2] := by
  unfold itemsD
  rw [begsD_begL, List.map_map]
  rfl
theorem begL_le {b : Int} {ss : Songs} (hl : ∀ p ∈ ss, 1 ≤ p.2) : ∀ p ∈ begL b ss, b ≤ p.2 ∧ p.2 < b + total ss := by
  intro p hp
  rw [begL_spans] at hp
  obtain ⟨⟨n, x, y⟩, h1, rfl⟩ := List.mem_map.mp hp
  clear hp
  induction ss generalizing b with
  | nil => cases h1
  | cons q ss ih =>
    obtain ⟨m, l⟩ := q
    have h2 : 1 ≤ l := hl (m, l) (by simp)
    have h3 := total_nonneg fun q hq => hl q (List.mem_cons_of_mem _ hq)
    rw [total_cons]
    dsimp only
    rcases List.mem_cons.mp h1 with e | h1
    · cases e
      omega
    · have := ih (fun q hq => hl q (List.mem_cons_of_mem _ hq)) h1
      dsimp only at this
      omega
theorem begL_nodup {ss : Songs} (k : OkTape ss) : ((begL 0 ss).map fun p => (Sum.inr p.1 : Key)).Nodup := by
  have : ((begL 0 ss).map fun p => (Sum.inr p.1 : Key)) = (ss.map (·.1)).map Sum.inr := by rw [← begL_names 0, List.map_map]; rfl
  rw [this]
  exact List.Pairwise.map _ (fun a b h e => h (Sum.inr.inj e)) k.nd
theorem b_begin_readings : BODY 4 t_begin_readings S_begin_readings := by
  rintro ds o Φ Ξ ⟨c, g, ss, rfl, k1, k2, hΦ⟩
  refine dc_map (begL 0 ss) (fun p => .tup [.str p.1, .int p.2]) (fun p => .inr p.1) (fun p => .int (turns c g p.2)) (items_begs ss) (by rw [begL_length]; have := k2.few; omega) (begL_nodup k2) (fun p hp o' Ψ hx h => ?_) ?_
  · have hb := begL_le k2.ln p hp
    exact call (use_turns_in k1 (by omega) (tot_nab k2 (by omega) (by omega)) h)
  · exact hΦ
theorem use_span {ss : Songs} {n : Str} {x y : Int} {o : O} {Φ : D → O → Prop} {Ξ : DX → O → Prop} (k : OkTape ss) (h : spanOf 0 ss n = some (x, y)) (q : Φ (.tup [.int x, .int y]) o) : S_span_of [.tape ss, .str n] o Φ Ξ := ⟨ss, n, x, y, rfl, k, h, q⟩
theorem use_names {ss : Songs} {o : O} {Φ : D → O → Prop} {Ξ : DX → O → Prop} (k : OkTape ss) (q : Φ (.tup (ss.map fun p => .str p.1)) o) : S_names [.tape ss] o Φ Ξ := ⟨ss, rfl, k, q⟩
theorem name_get {ss : Songs} {m : Nat} {d : D} (h : (ss.map fun p => D.str p.1)[m]? = some d) : ∃ n l, ss[m]? = some (n, l) ∧ d = .str n := by
  rw [List.getElem?_map] at h
  cases e : ss[m]? with
  | none => rw [e] at h; cases h
  | some p =>
    rw [e] at h
    cases h
    exact ⟨p.1, p.2, rfl, rfl⟩
theorem b_songs_at {ε : Excs} : BODY 9 (t_songs_at ε) (S_songs_at ε) := by
  rintro ds o Φ Ξ ⟨c, g, ss, d, rfl, k1, k2, ha, h⟩
  refine call (use_checkD ha (fun r e h0 h1 => ?_) fun e => ?_)
  · subst e
    rw [if_pos (isIn_i h0 h1)] at h
    obtain ⟨r', e, hΦ⟩ := h
    cases e
    refine call (use_num k1 h0 h1 ?_)
    intro q hq
    refine call (use_names k2 ?_)
    refine for_o (fun m o' => o' = updO o q (.lst (((((spans 0 ss).take m).filter fun p => decide (p.2.1 ≤ len c g (r + 1) - 1) && decide (len c g r < p.2.2)).map (·.1)).map D.str))) rfl ?_ ?_
    · rintro m d o' hd rfl
      obtain ⟨n, w, hm, rfl⟩ := name_get hd
      obtain ⟨x, hx, hs⟩ := spans_get (b := 0) hm k2.nd
      refine call (use_span k2 hs ?_)
      have ht := take_map_snoc hx
      have no : (decide (x ≤ len c g (r + 1) - 1) && decide (len c g r < x + w)) = false → (List.map D.str (List.map (·.1) (((spans 0 ss).take m).filter fun p => decide (p.2.1 ≤ len c g (r + 1) - 1) && decide (len c g r < p.2.2)))) = (List.map D.str (List.map (·.1) (((spans 0 ss).take (m + 1)).filter fun p => decide (p.2.1 ≤ len c g (r + 1) - 1) && decide (len c g r < p.2.2)))) := fun e => by
        rw [ht, List.filter_append, List.filter_cons, if_neg (by dsimp only; rw [e]; exact Bool.false_ne_true), List.filter_nil, List.append_nil]
      refine brD (p := x ≤ len c g (r + 1) - 1) (fun b1 => ?_) (fun b1 => ?_)
      · refine brD (p := len c g r < x + w) (fun b2 => ?_) (fun b2 => ?_)
        · refine ⟨⟨_, updO_same⟩, _, updO_same, lt_size ?_, rfl, ?_⟩
          · rw [List.length_map, List.length_map]
            have h5 := List.length_filter_le (fun p : Str × Int × Int => decide (p.2.1 ≤ len c g (r + 1) - 1) && decide (len c g r < p.2.2)) ((spans 0 ss).take m)
            have h7 := spans_length 0 ss
            have h8 := k2.few
            have h9 : ((spans 0 ss).take m).length ≤ (spans 0 ss).length := by rw [List.length_take]; omega
            omega
          · rw [updO_updO, ht, List.filter_append, List.filter_cons, if_pos (by dsimp only; rw [decide_eq_true b1, decide_eq_true b2]; rfl), List.map_append, List.map_append]
            rfl
        · refine ⟨rfl, ?_⟩
          rw [no (by rw [decide_eq_false b2]; simp)]
      · refine brF rfl ?_
        refine ⟨rfl, ?_⟩
        rw [no (by rw [decide_eq_false b1]; simp)]
    · rintro o' rfl
      rw [List.length_map, ← spans_length 0 ss, List.take_length]
      exact ⟨q, o, _, rfl, rfl, hq, hΦ⟩
  · rw [if_neg (by rw [e]; exact Bool.false_ne_true)] at h
    exact h
/-! ### groups -/
structure GI (o : O) (q : Addr) (gs : Gs) (o' : O) : Prop where
  dq : o' q = some (.dct (gs.map fun p => (p.1, D.ref p.2.1)))
  at_ : ∀ p ∈ gs, o' p.2.1 = some (.lst p.2.2)
  ka : (gs.map (·.1)).Nodup
  aa : (gs.map (·.2.1)).Nodup
  ex : Ext o o'
  oq : o q = none
  oa : ∀ p ∈ gs, o p.2.1 = none
theorem nodup_inj {α β : Type} {f : α → β} {xs : List α} (h : (xs.map f).Nodup) {a b : α} (ha : a ∈ xs) (hb : b ∈ xs) (e : f a = f b) : a = b := by
  induction xs with
  | nil => cases ha
  | cons x xs ih =>
    rw [List.map_cons, List.nodup_cons] at h
    rcases List.mem_cons.mp ha with ea | ha'
    · rcases List.mem_cons.mp hb with eb | hb'
      · rw [ea, eb]
      · subst ea
        exact (h.1 (List.mem_map.mpr ⟨b, hb', e.symm⟩)).elim
    · rcases List.mem_cons.mp hb with eb | hb'
      · subst eb
        exact (h.1 (List.mem_map.mpr ⟨a, ha', e⟩)).elim
      · exact ih h.2 ha' hb'
def addTo (gs : Gs) (k : Key) (x : D) : Gs := gs.map fun r => if r.1 = k then (r.1, r.2.1, r.2.2 ++ [x]) else r
theorem addTo_map {β : Type} (f : Key → Addr → β) (gs : Gs) (k : Key) (x : D) : (addTo gs k x).map (fun p => f p.1 p.2.1) = gs.map fun p => f p.1 p.2.1 := by
  unfold addTo
  rw [List.map_map]
  refine List.map_congr_left fun p _ => ?_
  show f (if p.1 = k then _ else p).1 (if p.1 = k then (p.1, p.2.1, p.2.2 ++ [x]) else p).2.1 = _
  split <;> rfl
theorem GI.ne {o o' : O} {q : Addr} {gs : Gs} (h : GI o q gs o') {p : Key × Addr × List D} (hp : p ∈ gs) : p.2.1 ≠ q := fun e => by
  have h1 := h.at_ p hp
  rw [e, h.dq] at h1
  cases h1
theorem GI.put {o o' : O} {q : Addr} {gs : Gs} (h : GI o q gs o') {p : Key × Addr × List D} (hp : p ∈ gs) (x : D) : GI o q (addTo gs p.1 x) (updO o' p.2.1 (.lst (p.2.2 ++ [x]))) where
  dq := by rw [updO_ne (h.ne hp).symm, h.dq, addTo_map (fun k a => (k, D.ref a))]
  at_ := fun r hr => by
    obtain ⟨r0, h0, e⟩ := List.mem_map.mp hr
    by_cases ek : r0.1 = p.1
    · have := nodup_inj h.ka h0 hp ek
      subst this
      rw [if_pos rfl] at e
      subst e
      exact updO_same
    · rw [if_neg ek] at e
      subst e
      rw [updO_ne fun z => ek (congrArg (·.1) (nodup_inj h.aa h0 hp z))]
      exact h.at_ _ h0
  ka := by rw [addTo_map (fun k _ => k)]; exact h.ka
  aa := by rw [addTo_map (fun _ a => a)]; exact h.aa
  ex := fun a y e => by
    rw [updO_ne fun z => by rw [z, h.oa p hp] at e; cases e]
    exact h.ex a y e
  oq := h.oq
  oa := fun r hr => by
    have : r.2.1 ∈ (addTo gs p.1 x).map (fun p => p.2.1) := List.mem_map.mpr ⟨r, hr, rfl⟩
    rw [addTo_map (fun _ a => a)] at this
    obtain ⟨r0, h0, e⟩ := List.mem_map.mp this
    rw [← e]
    exact h.oa r0 h0
theorem GI.new {o o' : O} {q : Addr} {gs : Gs} (h : GI o q gs o') {k : Key} (hk : k ∉ gs.map (·.1)) {a : Addr} (ha : o' a = none) (x : D) :
    GI o q (gs ++ [(k, a, [x])]) (updO (updO (updO o' a (.lst [])) q (.dct (storeD (gs.map fun p => (p.1, D.ref p.2.1)) k (.ref a)))) a (.lst [x])) := by
  have hqa : q ≠ a := fun z => by rw [← z, h.dq] at ha; cases ha
  have hpa : ∀ p ∈ gs, p.2.1 ≠ a := fun p hp z => by have := h.at_ p hp; rw [z, ha] at this; cases this
  have hoa : o a = none := by
    cases e : o a with
    | none => rfl
    | some y => rw [h.ex a y e] at ha; cases ha
  refine ⟨?_, fun r hr => ?_, ?_, ?_, fun b y e => ?_, h.oq, fun r hr => ?_⟩
  · rw [updO_ne hqa, updO_same, storeD_new, List.map_append]
    · rfl
    · intro p hp e
      obtain ⟨r, hr, rfl⟩ := List.mem_map.mp hp
      exact hk (List.mem_map.mpr ⟨r, hr, e⟩)
  · rcases List.mem_append.mp hr with hr | hr
    · rw [updO_ne (hpa r hr), updO_ne (h.ne hr), updO_ne (hpa r hr)]
      exact h.at_ r hr
    · rw [List.mem_singleton] at hr
      subst hr
      exact updO_same
  · rw [List.map_append]
    refine List.nodup_append.mpr ⟨h.ka, by simp, fun x hx y hy e => ?_⟩
    simp at hy
    subst hy
    subst e
    exact hk hx
  · rw [List.map_append]
    refine List.nodup_append.mpr ⟨h.aa, by simp, fun x hx y hy e => ?_⟩
    simp at hy
    subst hy
    subst e
    obtain ⟨r, hr, e⟩ := List.mem_map.mp hx
    exact hpa r hr e
  · have hb : b ≠ a := fun z => by rw [z, hoa] at e; cases e
    have hb2 : b ≠ q := fun z => by rw [z, h.oq] at e; cases e
    rw [updO_ne hb, updO_ne hb2, updO_ne hb]
    exact h.ex b y e
  · rcases List.mem_append.mp hr with hr | hr
    · exact h.oa r hr
    · rw [List.mem_singleton] at hr
      subst hr
      exact hoa
theorem valD_gs {gs : Gs} {f : Key × Addr × List D → D} {k : Key} {d : D} (h : valD (gs.map fun p => (p.1, f p)) k = some d) : ∃ p ∈ gs, p.1 = k ∧ d = f p := by
  induction gs with
  | nil => cases h
  | cons p gs ih =>
    rw [List.map_cons, valD_cons] at h
    split at h
    · rename_i e
      cases h
      exact ⟨p, by simp, e, rfl⟩
    · obtain ⟨r, h1, h2, h3⟩ := ih h
      exact ⟨r, List.mem_cons_of_mem _ h1, h2, h3⟩
theorem valD_gs_none {gs : Gs} {f : Key × Addr × List D → D} {k : Key} (h : valD (gs.map fun p => (p.1, f p)) k = none) : k ∉ gs.map (·.1) := by
  induction gs with
  | nil => simp
  | cons p gs ih =>
    rw [List.map_cons, valD_cons] at h
    split at h
    · cases h
    · rename_i e
      rw [List.map_cons, List.mem_cons, not_or]
      exact ⟨fun z => e z.symm, ih h⟩
def encG (G : List (Int × List Str)) : List (Key × List D) := G.map fun r => (.inl r.1, r.2.map D.str)
def conv (gs : Gs) : List (Key × List D) := gs.map fun p => (p.1, p.2.2)
theorem conv_keys (gs : Gs) : (conv gs).map (·.1) = gs.map (·.1) := by unfold conv; rw [List.map_map]; rfl
theorem encG_keys (G : List (Int × List Str)) : (encG G).map (·.1) = (G.map (·.1)).map Sum.inl := by unfold encG; rw [List.map_map, List.map_map]; rfl
theorem key_mem {gs : Gs} {G : List (Int × List Str)} (e : conv gs = encG G) {r : Int} : Sum.inl r ∈ gs.map (·.1) ↔ r ∈ G.map (·.1) := by
  rw [← conv_keys, e, encG_keys]
  constructor
  · intro h
    obtain ⟨x, hx, e⟩ := List.mem_map.mp h
    cases e
    exact hx
  · exact fun h => List.mem_map.mpr ⟨r, h, rfl⟩
theorem conv_put {gs : Gs} {G : List (Int × List Str)} (e : conv gs = encG G) {r : Int} {n : Str} (h : r ∈ G.map (·.1)) : conv (addTo gs (.inl r) (.str n)) = encG (putG G r n) := by
  have e1 : conv (addTo gs (.inl r) (.str n)) = (conv gs).map fun p => if p.1 = .inl r then (p.1, p.2 ++ [.str n]) else p := by
    unfold conv addTo
    rw [List.map_map, List.map_map]
    refine List.map_congr_left fun p _ => ?_
    show ((if p.1 = Sum.inl r then (p.1, p.2.1, p.2.2 ++ [D.str n]) else p).1, (if p.1 = Sum.inl r then (p.1, p.2.1, p.2.2 ++ [D.str n]) else p).2.2) = if p.1 = Sum.inl r then (p.1, p.2.2 ++ [D.str n]) else (p.1, p.2.2)
    split <;> rfl
  rw [e1, e]
  unfold putG
  rw [if_pos h]
  unfold encG
  rw [List.map_map, List.map_map]
  refine List.map_congr_left fun p _ => ?_
  show (if (Sum.inl p.1 : Key) = .inl r then (Sum.inl p.1, p.2.map D.str ++ [.str n]) else (Sum.inl p.1, p.2.map D.str)) = (Sum.inl (if p.1 = r then (p.1, p.2 ++ [n]) else p).1, (if p.1 = r then (p.1, p.2 ++ [n]) else p).2.map D.str)
  by_cases hp : p.1 = r
  · rw [if_pos (by rw [hp]), if_pos hp, List.map_append]; rfl
  · rw [if_neg (fun z => hp (Sum.inl.inj z)), if_neg hp]
theorem conv_new {gs : Gs} {G : List (Int × List Str)} (e : conv gs = encG G) {r : Int} {n : Str} {a : Addr} (h : r ∉ G.map (·.1)) : conv (gs ++ [(.inl r, a, [.str n])]) = encG (putG G r n) := by
  unfold putG
  rw [if_neg h]
  have : conv (gs ++ [(.inl r, a, [.str n])]) = conv gs ++ [(.inl r, [.str n])] := by unfold conv; rw [List.map_append]; rfl
  rw [this, e]
  unfold encG
  rw [List.map_append]
  rfl
theorem putG_len {G : List (Int × List Str)} {r : Int} {n : Str} : (putG G r n).length ≤ G.length + 1 := by
  unfold putG
  split
  · rw [List.length_map]; omega
  · rw [List.length_append]; exact Nat.le_refl _
noncomputable def grp (c g : Int) (bs : List (Str × Int)) : List (Int × List Str) := bs.foldl (fun gs p => putG gs (turns c g p.2) p.1) []
theorem grp_snoc (c g : Int) (bs : List (Str × Int)) (p : Str × Int) : grp c g (bs ++ [p]) = putG (grp c g bs) (turns c g p.2) p.1 := by
  unfold grp
  rw [List.foldl_append]
  rfl
theorem putG_lens {G : List (Int × List Str)} {r : Int} {n : Str} {N : Nat} (h : ∀ p ∈ G, p.2.length ≤ N) : ∀ p ∈ putG G r n, p.2.length ≤ N + 1 := by
  unfold putG
  split
  · intro p hp
    obtain ⟨p0, h0, rfl⟩ := List.mem_map.mp hp
    have := h p0 h0
    split
    · rw [List.length_append]; show p0.2.length + 1 ≤ N + 1; omega
    · omega
  · intro p hp
    rcases List.mem_append.mp hp with hp | hp
    · have := h p hp; omega
    · rw [List.mem_singleton] at hp
      subst hp
      show 1 ≤ N + 1
      omega
theorem grp_lens0 (c g : Int) : ∀ (bs : List (Str × Int)) (G : List (Int × List Str)) (N : Nat), (∀ p ∈ G, p.2.length ≤ N) →
    (bs.foldl (fun gs p => putG gs (turns c g p.2) p.1) G).length ≤ G.length + bs.length ∧ ∀ p ∈ bs.foldl (fun gs p => putG gs (turns c g p.2) p.1) G, p.2.length ≤ N + bs.length
  | [], G, N, h => ⟨Nat.le_refl _, h⟩
  | b :: bs, G, N, h => by
    have z := grp_lens0 c g bs (putG G (turns c g b.2) b.1) (N + 1) (putG_lens h)
    rw [List.length_cons]
    refine ⟨Nat.le_trans z.1 (by have := putG_len (G := G) (r := turns c g b.2) (n := b.1); omega), fun p hp => ?_⟩
    have := z.2 p hp
    omega
theorem grp_lens (c g : Int) (bs : List (Str × Int)) : (grp c g bs).length ≤ bs.length ∧ ∀ p ∈ grp c g bs, p.2.length ≤ bs.length := by
  have z := grp_lens0 c g bs [] 0 (fun p hp => by cases hp)
  refine ⟨by have := z.1; rw [List.length_nil, Nat.zero_add] at this; exact this, fun p hp => by have := z.2 p hp; omega⟩
theorem readings_get {c g : Int} {ss : Songs} {m : Nat} {d : D} (h : (itemsD (readingsD c g ss))[m]? = some d) : ∃ n b, (begL 0 ss)[m]? = some (n, b) ∧ d = .tup [.str n, .int (turns c g b)] := by
  unfold itemsD readingsD at h
  rw [List.map_map, List.getElem?_map] at h
  cases e : (begL 0 ss)[m]? with
  | none => rw [e] at h; cases h
  | some p =>
    rw [e] at h
    cases h
    exact ⟨p.1, p.2, rfl, rfl⟩
theorem use_readings {c g : Int} {ss : Songs} {o : O} {Φ : D → O → Prop} {Ξ : DX → O → Prop} (k1 : OkDeck c g) (k2 : OkTape ss) (h : Φ (.dct (readingsD c g ss)) o) : S_begin_readings [.deck c g, .tape ss] o Φ Ξ := ⟨c, g, ss, rfl, k1, k2, h⟩
theorem b_alike : BODY 6 t_alike_songs S_alike := by
  rintro ds o Φ Ξ ⟨c, g, ss, rfl, k1, k2, hΦ⟩
  intro q hq
  refine call (use_readings k1 k2 ?_)
  have hbl := begL_length 0 ss
  have hfew := k2.few
  refine for_o (fun m o' => ∃ gs, GI o q gs o' ∧ conv gs = encG (grp c g ((begL 0 ss).take m))) ⟨[], ⟨updO_same, (fun p hp => by cases hp), by simp, by simp, Ext.updO hq, hq, (fun p hp => by cases hp)⟩, rfl⟩ ?_ ?_
  · rintro m d o' hd ⟨gs, hI, hc⟩
    obtain ⟨n, b, hm, rfl⟩ := readings_get hd
    have ht := take_map_snoc hm
    have hl := grp_lens c g ((begL 0 ss).take m)
    have ht2 : ((begL 0 ss).take m).length ≤ (begL 0 ss).length := by rw [List.length_take]; omega
    have hgl : gs.length = (grp c g ((begL 0 ss).take m)).length := by
      have := congrArg List.length hc
      unfold conv encG at this
      simpa using this
    refine ⟨⟨_, hI.dq⟩, _, _, hI.dq, rfl, lt_size (by rw [List.length_map]; omega), fun d hv => ?_, fun hv p hp => ?_⟩
    · obtain ⟨p, hp, e1, rfl⟩ := valD_gs hv
      have hlen : p.2.2.length < 1000 := by
        have : (p.1, p.2.2) ∈ conv gs := List.mem_map.mpr ⟨p, hp, rfl⟩
        rw [hc] at this
        obtain ⟨r, hr, e⟩ := List.mem_map.mp this
        have h5 := hl.2 r hr
        have h6 : r.2.map D.str = p.2.2 := congrArg (·.2) e
        rw [← h6, List.length_map]
        omega
      refine ⟨⟨_, hI.at_ p hp⟩, _, hI.at_ p hp, lt_size hlen, rfl, addTo gs p.1 (.str n), hI.put hp (.str n), ?_⟩
      rw [e1, ht, grp_snoc]
      refine conv_put hc ((key_mem hc).mp ?_)
      rw [← e1]
      exact List.mem_map.mpr ⟨p, hp, rfl⟩
    · have hk := valD_gs_none hv
      refine ⟨⟨[], ?_⟩, [], ?_, lt_size (by decide), rfl, gs ++ [(.inl (turns c g b), p, [.str n])], hI.new hk hp (.str n), ?_⟩
      · rw [updO_ne (fun z => by rw [z, hI.dq] at hp; cases hp), updO_same]
      · rw [updO_ne (fun z => by rw [z, hI.dq] at hp; cases hp), updO_same]
      · rw [ht, grp_snoc]
        exact conv_new hc fun h => hk ((key_mem hc).mpr h)
  · rintro o' ⟨gs, hI, hc⟩
    have hlen : (itemsD (readingsD c g ss)).length = (begL 0 ss).length := by unfold itemsD readingsD; rw [List.length_map, List.length_map]
    rw [hlen, List.take_length] at hc
    refine ⟨q, o, gs, rfl, hI.dq, hI.at_, hI.ex, hI.oq, hI.oa, ?_⟩
    have hG := grp_lens c g (begL 0 ss)
    have hv : (gs.map fun p => (p.1, D.lst p.2.2)).map (·.2) = ((groups c g ss).map (·.2)).map fun ns => .lst (ns.map D.str) := by
      have e1 : (gs.map fun p => (p.1, D.lst p.2.2)).map (·.2) = (conv gs).map fun p => .lst p.2 := by unfold conv; rw [List.map_map, List.map_map]; rfl
      rw [e1, hc]
      unfold encG
      rw [List.map_map, List.map_map]
      rfl
    refine lc_filter ((groups c g ss).map (·.2)) (fun ns => .lst (ns.map D.str)) (fun ns => .lst (ns.map D.str)) (fun ns => decide (1 < ns.length)) hv (by rw [List.length_map]; show (grp c g (begL 0 ss)).length ≤ _; omega) (fun ns hns o'' Ψ hx hh => ?_) ?_
    · refine brD (p := (1 : Int) < (((ns.map D.str).length : Nat) : Int)) (fun h2 => ?_) (fun h2 => ?_)
      · rw [List.length_map] at h2
        rw [if_pos (decide_eq_true (by omega))] at hh
        exact hh
      · rw [List.length_map] at h2
        rw [if_neg (fun z => h2 (by have := of_decide_eq_true z; omega))] at hh
        exact hh
    · exact hΦ
end TC
set_option Elab.async false
set_option linter.all false
set_option maxRecDepth 100000
set_option maxHeartbeats 2000000
/-! Wd1: songs played in an order. -/
namespace TC
open PySem PySem.Spec PyProof.Rows L2 DL RD
/-- the place of the first name that is no song, or was there before -/
def badName (ss : Songs) : Nat → List Str → List Str → Option Nat
  | _, _, [] => none
  | i, seen, n :: r => if (spanOf 0 ss n).isNone = true ∨ n ∈ seen then some i else badName ss (i + 1) (seen ++ [n]) r
def absI (i : Int) : Int := if i < 0 then -i else i
def wound (ss : Songs) : Int → List Str → Int
  | _, [] => 0
  | p, n :: r => match spanOf 0 ss n with
    | some (x, y) => absI (x - p) + wound ss y r
    | none => 0
section
variable (ε : Excs)
def S_check_songs : DSp := fun ds o Φ Ξ => (∃ ss ns, ds = [.tape ss, .lst (List.map D.str ns)] ∧ OkTape ss ∧ ns.length ≤ 1000 ∧ (match badName ss 0 [] ns with | none => Φ .non o | some i => Ξ ⟨ε.songs, [("index", .int (i : Nat))]⟩ o)) ∨ (∃ ss d, ds = [.tape ss, d] ∧ isLi d = some false ∧ Ξ ⟨ε.songs, [("index", .int 0)]⟩ o) ∨
  ∃ ss ns d, ds = [.tape ss, .lst (List.map D.str ns ++ [d])] ∧ OkTape ss ∧ ns.length ≤ 900 ∧ badName ss 0 [] ns = none ∧ anyD d = true ∧ songIn ss d = none ∧ Ξ ⟨ε.songs, [("index", .int (ns.length : Nat))]⟩ o
def S_winding : DSp := fun ds o Φ Ξ => ∃ ss ns d, ds = [.tape ss, .lst (List.map D.str ns), d] ∧ OkTape ss ∧ ns.length ≤ 1000 ∧ anyD d = true ∧ (match badName ss 0 [] ns with
  | none => if isIn d 0 (total ss) = true then ∃ p, d = .int p ∧ Φ (.int (wound ss p ns)) o else Ξ ⟨ε.number, []⟩ o
  | some i => Ξ ⟨ε.songs, [("index", .int (i : Nat))]⟩ o)
end
theorem badName_ok {ss : Songs} : ∀ (ns seen : List Str) (i : Nat), (∀ n ∈ ns, n ∈ ss.map (·.1)) → (seen ++ ns).Nodup → badName ss i seen ns = none
  | [], _, _, _, _ => rfl
  | n :: r, seen, i, h, hn => by
    show (if (spanOf 0 ss n).isNone = true ∨ n ∈ seen then some i else badName ss (i + 1) (seen ++ [n]) r) = none
    rw [if_neg]
    · exact badName_ok r (seen ++ [n]) (i + 1) (fun m hm => h m (List.mem_cons_of_mem _ hm)) (by rw [List.append_assoc]; exact hn)
    · rintro (h1 | h1)
      · rw [Option.isNone_iff_eq_none, spanOf_none] at h1
        exact h1 (h n (by simp))
      · exact (List.nodup_append.mp hn).2.2 n h1 n (by simp) rfl
theorem badName_none {ss : Songs} : ∀ (ns seen : List Str) (i : Nat), badName ss i seen ns = none → ∀ n ∈ ns, ∃ x y, spanOf 0 ss n = some (x, y)
  | [], _, _, _ => fun n hn => by cases hn
  | m :: r, seen, i, h => fun n hn => by
    have h : (if (spanOf 0 ss m).isNone = true ∨ m ∈ seen then some i else badName ss (i + 1) (seen ++ [m]) r) = none := h
    split at h
    · cases h
    · rename_i hno
      rcases List.mem_cons.mp hn with e | hn
      · subst e
        cases e2 : spanOf 0 ss n with
        | none => exact (hno (.inl (by rw [e2]; rfl))).elim
        | some p => exact ⟨p.1, p.2, rfl⟩
      · exact badName_none r _ _ h n hn
theorem wound_cons {ss : Songs} {p : Int} {n : Str} {r : List Str} {x y : Int} (e : spanOf 0 ss n = some (x, y)) : wound ss p (n :: r) = absI (x - p) + wound ss y r := by
  show (match spanOf 0 ss n with | some (x, y) => absI (x - p) + wound ss y r | none => 0) = _
  rw [e]
theorem wound_nil {ss : Songs} {p : Int} : wound ss p [] = 0 := rfl
/-- where the reel stands after some songs -/
def placed (ss : Songs) : Int → List Str → Int
  | p, [] => p
  | p, n :: r => match spanOf 0 ss n with
    | some (_, y) => placed ss y r
    | none => p
theorem placed_cons {ss : Songs} {p : Int} {n : Str} {r : List Str} {x y : Int} (e : spanOf 0 ss n = some (x, y)) : placed ss p (n :: r) = placed ss y r := by
  show (match spanOf 0 ss n with | some (_, y) => placed ss y r | none => p) = _
  rw [e]
theorem wound_snoc {ss : Songs} : ∀ (ns : List Str) (p : Int) {n : Str} {x y : Int}, (∀ n ∈ ns, ∃ x y, spanOf 0 ss n = some (x, y)) → spanOf 0 ss n = some (x, y) → wound ss p (ns ++ [n]) = wound ss p ns + absI (x - placed ss p ns) ∧ placed ss p (ns ++ [n]) = y
  | [], p, n, x, y, _, h => by
    rw [List.nil_append, wound_cons h, placed_cons h, wound_nil, wound_nil]
    show absI (x - p) + 0 = 0 + absI (x - p) ∧ y = y
    exact ⟨by omega, rfl⟩
  | m :: ns, p, n, x, y, hall, h => by
    obtain ⟨x', y', e⟩ := hall m (by simp)
    have z := wound_snoc ns y' (fun k hk => hall k (List.mem_cons_of_mem _ hk)) h
    rw [List.cons_append, wound_cons e, wound_cons e, placed_cons e, placed_cons e, z.1, z.2]
    exact ⟨by omega, rfl⟩
/-! slices -/
theorem cut_take {ds : List D} {n : Nat} (h : n ≤ ds.length) : DL.cutD ds none (some ((n : Nat) : Int)) = ds.take n := by
  unfold DL.cutD
  rw [HT.sIx_none, HT.sIx_nat, List.drop_zero, Nat.sub_zero, Nat.min_eq_left h]
end TC
set_option Elab.async false
set_option linter.all false
set_option maxRecDepth 100000
set_option maxHeartbeats 2000000
/-! DL29: starred defs from readings; what isinstance asks of own classes; Tape as it is made. -/
namespace TC
open PySem PySem.Spec PyProof.Rows L2 DL RD
section
variable {P : Program} {w : World} {K : PySem.W.Frag} {mg : Str → Option Value} {base : Heap} {τ : Tx}
theorem fnPR {x qual : Str} {st : Stmt} {f : Addr} {fd : FuncData} {N ps : List Str} {pv : Str} {k : Nat} {S : DSp} {t : RS} (F : Fun K x qual st f fd) (sc : FnScope N (ps ++ [pv]) (defScope st))
    (hb : ∀ (kV doc pm : Value) (an : Option Addr) (cdv ct : Value) (us rest : List Value), us.length = ps.length → bindArgs (PySem.W.fnOf x qual (defArgs st) (defBody st) (defScope st) .none kV doc pm an cdv ct) ⟨us ++ rest, []⟩ = (newTuple rest >>= fun t => pure (ps.zip us ++ [(pv, t)])))
    (tr : ∀ (cdv : Value) (A : Around) (outer : List Env) (s : Shared) (H : Hp) (E : XK), TrSs (cxOf (L2N.CX P w) P w K mg base N qual (defScope st) f cdv A outer s H E) τ k (defBody st) t)
    (h : BODY N.length t S) (m : Nat) (hm : m ≤ sizeLine) : FnD P w K mg base τ (k + 1) f (ps.length + m) (starP ps.length S) :=
  fnDP F sc hb (fun cdv A outer s H E Ξ Γ ds o Φ _ hS => (tr cdv A outer s H E).h _ Γ _ _ _ (force_out (h ds o Φ Ξ hS))) m hm
theorem mkS_Tape {ε : Excs} {f : Addr} (g : mg "Tape" = some (.ref τ.tape)) (M : Mk K τ.tape f) (h : ∀ m, m ≤ sizeLine → FnD P w K mg base τ 3 f (1 + m) (starP 1 (S_tape_init ε τ))) : MkS P w K mg base τ "Tape" τ.tape 3 (S_Tape ε) :=
  ⟨g, f, S_tape_init ε τ, M, h, fun ds o Φ Ξ δ q hq ⟨h1, h2, h3⟩ => by
    refine ⟨q, ds, rfl, h1, h2, updO_same, ?_⟩
    unfold tapeMk at h3
    cases e : tapeTry 0 [] ds with
    | inr ss =>
      rw [e] at h3
      refine ⟨rfl, o, _, _, updO_updO, hq, .tape ss, h3⟩
    | inl i =>
      rw [e] at h3
      exact fun o' hx => ⟨o, fun a y z => hx a y (updO_less hq a y z), h3⟩⟩
end
end TC
set_option Elab.async false
set_option linter.all false
set_option maxRecDepth 100000
set_option maxHeartbeats 2000000
/-! DL30: a chained comparison as a test. -/
namespace RD
open PySem PySem.Spec PyProof.Rows L2 DL
section
variable {X : Cx} {τ : Tx} {k : Nat} {a b c : Expr} {pos : Pos} {ta tb tc : RE}
theorem asI.out {d : D} {f : Int → Prop} (h : asI d f) : ∃ i, d = .int i ∧ f i := by
  unfold asI at h
  split at h
  · exact ⟨_, rfl, h⟩
  · exact h.elim
theorem tt_lele (ha : TrE X τ k a ta) (hb : TrE X τ k b tb) (hc : TrE X τ k c tc) (hm : lastMarks [.LtE, .LtE] [b, c] = false := by with_unfolding_all rfl) : TrT X τ k (.Compare a [.LtE, .LtE] [b, c] pos) (tVal (rLe2 (fun j l => decide (j ≤ l)) ta tb tc)) := .mk fun Ξ Γ δ o Ψ q =>
  wt_chain op_le op_le ((ha.h _ _ _ _ _ q).mono fun d1 o1 q => (hb.h _ _ _ _ _ q).mono fun d2 o2 q => by
    obtain ⟨i, e1, q⟩ := asI.out q
    obtain ⟨j, e2, q⟩ := asI.out q
    refine ⟨i, j, e1, e2, (BR.imp q (fun q => (hc.h _ _ _ _ _ q).mono fun d3 o3 q => ?_) (fun q => q)).ite⟩
    obtain ⟨l, e3, q⟩ := asI.out q
    exact ⟨l, e3, q⟩) hm
end
end RD
set_option Elab.async false
set_option linter.all false
set_option maxRecDepth 100000
set_option maxHeartbeats 2000000
/-! DL31: x += e of numbers. -/
namespace RD
open PySem PySem.Spec PyProof.Rows L2 DL
section
variable {X : Cx} {τ : Tx} {k : Nat} {e : Expr} {pos p : Pos} {ta : RE} {x : Str}
def sAug (i : Nat) (f : Int → Int → Int) (a : RE) : RS := fun Ξ δ o E => slotC δ i fun d0 => asI d0 fun n => a Ξ δ o fun d o1 => asI d fun m => force (sset δ i (some (.int (f n m)))) fun δ1 => E.nx δ1 o1
theorem s_aug {op : Operator} {f : Int → Int → Int} (i : Nat) (hp : PIp X op (ipI f)) (h : TrE X τ k e ta) (hi : X.N[i]? = some x := by rfl) (hx : Loc X.env.scope x := by first | exact Or.inl rfl | exact Or.inr rfl)
    (hfx : X.fn x = true ∨ X.env.scope.names.lookup x = some .local := by first | exact .inl rfl | exact .inr rfl) : TrS X τ k (.AugAssign (.Name x p) op e pos) (sAug i f ta) := .mk fun Ξ Γ δ o E q σ H ok => by
  refine cS_of (ps_aug Γ.nd hi hx pe_c hp hfx) ?_
  obtain ⟨d0, e0, q⟩ := slotC.out q
  obtain ⟨n, e1, q⟩ := asI.out q
  subst e1
  obtain ⟨v, e2, r0⟩ := ok.slot i _ e0
  cases r0
  refine ⟨_, e2, cE_mono (h.h _ Γ _ _ _ q σ H ok) fun y H1 ⟨d, o1, w, l, r, q⟩ => ?_⟩
  obtain ⟨m, e3, q⟩ := asI.out q
  subst e3
  cases r
  have q := force_out q
  rw [sset_eq] at q
  exact ⟨n, m, rfl, rfl, _, o1, (ok.step l w).set i (.int _), l, q⟩
theorem s_augAdd (i : Nat) (h : TrE X τ k e ta) (hi : X.N[i]? = some x := by rfl) (hx : Loc X.env.scope x := by first | exact Or.inl rfl | exact Or.inr rfl)
    (hfx : X.fn x = true ∨ X.env.scope.names.lookup x = some .local := by first | exact .inl rfl | exact .inr rfl) : TrS X τ k (.AugAssign (.Name x p) .Add e pos) (sAug i (fun a b => a + b) ta) := s_aug i ip_add h hi hx hfx
end
end RD
set_option Elab.async false
set_option linter.all false
set_option maxRecDepth 100000
set_option maxHeartbeats 2000000
/-! Wd2 (printed by gen_tp2.py): readings of the package's defs. -/
namespace TC
open PySem PySem.Spec PyProof.Rows L2 DL RD
section
variable (τ : Tx) (ε : Excs) (π : Str → Addr)
/-- slots: 0 tape, 1 names, 2 index, 3 name; loops carry [('[]', [])] -/
noncomputable def t_check_songs : RS := (sCons (sIf (tNot (tVal (rIs isLi (rVar 1))))
  (sRaiseF ε.songs "index" (rC (.int 0)))
  sNil)
  (sForI [2, 3] [] (gTup [2, 3]) (iEnumL (rVar 1))
  (sIf (tOr (tVal (rInT true (S_tape_in) (rVar 3) (rVar 0))) (tVal (r2 (inStrsS false) (rVar 3) (rSliceL (rVar 1) rONone (rOSome (rVar 2))))))
  (sRaiseF ε.songs "index" (rVar 2))
  sNil)))
/-- slots: 0 tape, 1 names, 2 start, 3 found, 4 place, 5 name, 6 begin, 7 end; loops carry [('[3, 4]', ['found', 'place'])] -/
noncomputable def t_winding : RS := (sCons (sExpr (rCall (S_check_songs ε) (rACons (rVar 0) (rACons (rVar 1) rANil))))
  (sCons (sExpr (rCall (S_check ε) (rACons (rVar 2) (rACons (rC (.int 0)) (rACons (rTotal (rVar 0)) rANil)))))
  (sCons (sPar 3 4 (rACons (rC (.int 0)) (rACons (rVar 2) rANil)))
  (sCons (sForL [3, 4, 5, 6, 7] [3, 4] (gName 5) (rVar 1)
  (sCons (sAsg (gTup [6, 7]) (rMethT (S_span_of) (rVar 0) (rACons (rVar 5) rANil)))
  (sCons (sAug 3 (fun a b => a + b) (rFn absS (rACons (r2 subS (rVar 6) (rVar 4)) rANil)))
  (sSet 4 (rVar 7)))))
  (sRet (rVar 3))))))
end
end TC
set_option Elab.async false
set_option linter.all false
set_option maxRecDepth 100000
set_option maxHeartbeats 2000000
/-! Wd3: winding.py does so. -/
namespace TC
open PySem PySem.Spec PyProof.Rows L2 DL RD
theorem str_get {ns : List Str} {m : Nat} {d : D} (h : (ns.map D.str)[m]? = some d) : ∃ n, ns[m]? = some n ∧ d = .str n := by
  rw [List.getElem?_map] at h
  cases e : ns[m]? with
  | none => rw [e] at h; cases h
  | some p => rw [e] at h; cases h; exact ⟨p, rfl, rfl⟩
theorem check_last {ε : Excs} {ss : Songs} {ns : List Str} {d : D} {o : O} {Φ : D → O → Prop} {Ξ : DX → O → Prop} (k : OkTape ss) (hl : ns.length ≤ 900) (hbn : badName ss 0 [] ns = none) (ha : anyD d = true) (hs : songIn ss d = none) (h : Ξ ⟨ε.songs, [("index", .int (ns.length : Nat))]⟩ o) :
    t_check_songs ε (fun x _ o' => Ξ x o') [some (.tape ss), some (.lst (ns.map D.str ++ [d])), none, none] o { nx := fun _ o' => Φ .non o', rt := Φ } := by
  refine brF rfl ?_
  refine for_o (fun m o' => o' = o ∧ (m ≤ ns.length → badName ss 0 [] ns = badName ss m (ns.take m) (ns.drop m)) ∧ m ≤ ns.length) ⟨rfl, fun _ => rfl, Nat.zero_le _⟩ ?_ ?_
  · rintro m d' o' hd ⟨rfl, hb, hmn⟩
    obtain ⟨x, hx, rfl⟩ := enumD_of hd
    rcases Nat.lt_or_ge m ns.length with hlt | hge
    · rw [List.getElem?_append_left (by rw [List.length_map]; exact hlt)] at hx
      obtain ⟨n, hm, rfl⟩ := str_get hx
      have hb := hb hmn
      rw [List.drop_eq_getElem_cons hlt, (List.getElem?_eq_some_iff.mp hm).2] at hb
      replace hb : badName ss 0 [] ns = (if (spanOf 0 ss n).isNone = true ∨ n ∈ ns.take m then some m else badName ss (m + 1) (ns.take m ++ [n]) (ns.drop (m + 1))) := hb
      refine call ⟨ss, _, rfl, rfl, _, rfl, ?_⟩
      show BR (!(spanOf 0 ss n).isSome) _ _
      cases e : spanOf 0 ss n with
      | none =>
        rw [if_pos (.inl (by rw [e]; rfl)), hbn] at hb
        cases hb
      | some p =>
        refine brF rfl ?_
        refine ⟨ns.take m, by rw [cut_take (by rw [List.length_append, List.length_map]; omega), List.take_append_of_le_length (by rw [List.length_map]; omega), List.map_take], ?_⟩
        refine brD (p := n ∈ ns.take m) (fun h2 => ?_) (fun h2 => ?_)
        · rw [if_pos (.inr h2), hbn] at hb
          cases hb
        · rw [if_neg (by rintro (z | z); · rw [e] at z; cases z
                         · exact h2 z)] at hb
          exact ⟨rfl, rfl, fun _ => by rw [hb, take_map_snoc hm], by omega⟩
    · obtain rfl : m = ns.length := by omega
      rw [List.getElem?_append_right (by rw [List.length_map]; exact Nat.le_refl _), List.length_map, Nat.sub_self] at hx
      cases hx
      refine call ⟨ss, _, rfl, ha, _, rfl, ?_⟩
      show BR (!(songIn ss d).isSome) _ _
      rw [hs]
      exact brT rfl (brT rfl ⟨fmt_small (by omega), h⟩)
  · rintro o' ⟨rfl, hb, hmn⟩
    rw [enumD_length, List.length_append, List.length_map] at hmn
    have : ns.length + 1 ≤ ns.length := hmn
    omega
theorem b_check_songs {ε : Excs} : BODY 4 (t_check_songs ε) (S_check_songs ε) := by
  rintro ds o Φ Ξ (⟨ss, ns, rfl, k, hl, h⟩ | ⟨ss, d, rfl, hli, h⟩ | ⟨ss, ns, d, rfl, k, hl, hbn, ha, hs, h⟩)
  case inr.inl => (show optC (isLi d) _; rw [hli]; exact brT rfl ⟨by show Nat.log2 (Int.natAbs 0) < 1920; decide +kernel, h⟩)
  case inr.inr => exact check_last k hl hbn ha hs h
  refine brF rfl ?_
  refine for_o (fun m o' => o' = o ∧ badName ss 0 [] ns = badName ss m (ns.take m) (ns.drop m)) ⟨rfl, rfl⟩ ?_ ?_
  · rintro m d o' hd ⟨rfl, hb⟩
    obtain ⟨x, hx, rfl⟩ := enumD_of hd
    obtain ⟨n, hm, rfl⟩ := str_get hx
    have hlt : m < ns.length := (List.getElem?_eq_some_iff.mp hm).1
    rw [List.drop_eq_getElem_cons hlt, (List.getElem?_eq_some_iff.mp hm).2] at hb
    replace hb : badName ss 0 [] ns = (if (spanOf 0 ss n).isNone = true ∨ n ∈ ns.take m then some m else badName ss (m + 1) (ns.take m ++ [n]) (ns.drop (m + 1))) := hb
    refine call ⟨ss, _, rfl, rfl, _, rfl, ?_⟩
    show BR (!(spanOf 0 ss n).isSome) _ _
    cases e : spanOf 0 ss n with
    | none =>
      rw [if_pos (.inl (by rw [e]; rfl))] at hb
      rw [hb] at h
      exact brT rfl (brT rfl ⟨fmt_small (by omega), h⟩)
    | some p =>
      refine brF rfl ?_
      refine ⟨ns.take m, by rw [cut_take (by rw [List.length_map]; omega), List.map_take], ?_⟩
      refine brD (p := n ∈ ns.take m) (fun h2 => ?_) (fun h2 => ?_)
      · rw [if_pos (.inr h2)] at hb
        rw [hb] at h
        exact ⟨fmt_small (by omega), h⟩
      · rw [if_neg (by rintro (z | z); · rw [e] at z; cases z
                       · exact h2 z)] at hb
        exact ⟨rfl, rfl, by rw [hb, take_map_snoc hm]⟩
  · rintro o' ⟨rfl, hb⟩
    rw [enumD_length, List.length_map, List.drop_length] at hb
    have hb : badName ss 0 [] ns = none := hb
    rw [hb] at h
    exact h
theorem b_winding {ε : Excs} : BODY 8 (t_winding ε) (S_winding ε) := by
  rintro ds o Φ Ξ ⟨ss, ns, d, rfl, k, hl, ha, h⟩
  cases e : badName ss 0 [] ns with
  | some i =>
    rw [e] at h
    exact call <| .inl ⟨ss, ns, rfl, k, hl, by rw [e]; exact h⟩
  | none =>
    rw [e] at h
    refine call <| .inl ⟨ss, ns, rfl, k, hl, by
      rw [e]
      dsimp only
      refine call (use_checkD ha (fun p e2 h0 h1 => ?_) fun e2 => ?_)
      · subst e2
        replace h : if isIn (.int p) 0 (total ss) = true then ∃ p', D.int p = .int p' ∧ Φ (.int (wound ss p' ns)) o else Ξ ⟨ε.number, []⟩ o := h
        rw [if_pos (isIn_i h0 h1)] at h
        obtain ⟨p', e3, hΦ⟩ := h
        cases e3
        have hall := badName_none ns [] 0 e
        refine for_by (fun m cv o' => o' = o ∧ cv = [some (.int (wound ss p (ns.take m))), some (.int (placed ss p (ns.take m)))]) ⟨rfl, rfl⟩ ?_ ?_
        · rintro m d cv o' hd ⟨rfl, rfl⟩
          obtain ⟨n, hm, rfl⟩ := str_get hd
          obtain ⟨x, y, hs⟩ := hall n (List.mem_of_getElem? hm)
          refine call (use_span k hs ?_)
          have hw := wound_snoc (ns.take m) p (fun k hk => hall k (List.mem_of_mem_take hk)) hs
          refine ⟨rfl, rfl, ?_⟩
          rw [take_map_snoc hm, hw.1, hw.2]
          rfl
        · rintro cv o' ⟨rfl, rfl⟩
          rw [List.length_map, List.take_length]
          exact hΦ
      · replace h : if isIn d 0 (total ss) = true then ∃ p', d = .int p' ∧ Φ (.int (wound ss p' ns)) o else Ξ ⟨ε.number, []⟩ o := h
        rw [if_neg (by rw [e2]; exact Bool.false_ne_true)] at h
        exact h⟩
end TC
set_option Elab.async false
set_option linter.all false
set_option maxRecDepth 100000
set_option maxHeartbeats 2000000
/-! Lw0: what the tape laws' draws do. -/
namespace TC
open PySem PySem.Spec PyProof.Rows L2 DL RD
def names10 : List Str := ["a", "b", "c", "ab", "z", "abcdefgh", "x", "y", "m", "n"]
theorem names10_ok : ∀ n ∈ names10, nameOk n = true := by decide +kernel
/-- songs are drawn -/
def S_lsongs : DSp := fun ds o Φ _ => ∃ r ns most long, ds = [.ref r, .int most, .int long] ∧ Rowed r ns o ∧ 0 ≤ most ∧ most ≤ 30 ∧ 0 < long ∧ long ≤ 1000000000000000000 ∧
  ∀ (ss : Songs) o', (ss.length : Int) ≤ most → (∀ p ∈ ss, p.1 ∈ names10) → (∀ p ∈ ss, 1 ≤ p.2 ∧ (p.2 ≤ 9 ∨ p.2 ≤ long)) → (ss.map (·.1)).Nodup → Rowed r ns o' → But r o o' → Φ (.lst (ss.map songD)) o'
def S_ltape : DSp := fun ds o Φ _ => ∃ ss : Songs, ds = [.lst (ss.map songD)] ∧ OkTape ss ∧ Φ (.tape ss) o
theorem total_le {ss : Songs} {B : Int} (h : ∀ p ∈ ss, p.2 ≤ B) : total ss ≤ ss.length * B := by
  induction ss with
  | nil => rw [total_nil]; simp
  | cons p ss ih =>
    rw [total_cons, List.length_cons]
    have h1 := h p (by simp)
    have h2 := ih fun q hq => h q (List.mem_cons_of_mem _ hq)
    have : ((ss.length + 1 : Nat) : Int) * B = ss.length * B + B := by rw [Int.natCast_add, Int.add_mul]; simp
    omega
theorem drawn_ok {ss : Songs} {most long B : Int} (h1 : (ss.length : Int) ≤ most) (h2 : ∀ p ∈ ss, p.1 ∈ names10) (h3 : ∀ p ∈ ss, 1 ≤ p.2 ∧ (p.2 ≤ 9 ∨ p.2 ≤ long)) (h4 : (ss.map (·.1)).Nodup) (hm : most ≤ 30) (hl : 9 ≤ B) (hl2 : long ≤ B) (hB : B ≤ 10000000000000000) : OkTape ss := by
  refine ⟨by omega, fun p hp => names10_ok _ (h2 p hp), fun p hp => (h3 p hp).1, h4, ?_⟩
  have z := total_le (ss := ss) (B := B) fun p hp => by have := (h3 p hp).2; omega
  have : (ss.length : Int) * B ≤ 30 * B := Int.mul_le_mul_of_nonneg_right (by omega) (by omega)
  show total ss ≤ (1000000000000000000 : Int)
  omega
theorem use_lsongs {r : Addr} {ns : List Int} {most long : Int} {o : O} {Φ : D → O → Prop} {Ξ : DX → O → Prop} (hr : Rowed r ns o)
    (h : ∀ (ss : Songs) o', (ss.length : Int) ≤ most → (∀ p ∈ ss, p.1 ∈ names10) → (∀ p ∈ ss, 1 ≤ p.2 ∧ (p.2 ≤ 9 ∨ p.2 ≤ long)) → (ss.map (·.1)).Nodup → Rowed r ns o' → But r o o' → Φ (.lst (ss.map songD)) o')
    (h0 : 0 ≤ most := by omega) (h1 : most ≤ 30 := by omega) (h2 : 0 < long := by omega) (h3 : long ≤ 1000000000000000000 := by omega) : S_lsongs [.ref r, .int most, .int long] o Φ Ξ := ⟨r, ns, most, long, rfl, hr, h0, h1, h2, h3, h⟩
theorem use_ltape {ss : Songs} {o : O} {Φ : D → O → Prop} {Ξ : DX → O → Prop} (k : OkTape ss) (h : Φ (.tape ss) o) : S_ltape [.lst (ss.map songD)] o Φ Ξ := ⟨ss, rfl, k, h⟩
theorem Rowed.ne {r q : Addr} {ns : List Int} {o : O} (h : Rowed r ns o) (hq : o q = none) : r ≠ q := fun e => by
  obtain ⟨i, s, t, _, h⟩ := h
  rw [e, hq] at h
  cases h
theorem Rowed.under {r q : Addr} {ns : List Int} {o : O} {y : OS} (h : Rowed r ns o) (hn : r ≠ q) : Rowed r ns (updO o q y) := by
  obtain ⟨i, s, t, h0, h⟩ := h
  exact ⟨i, s, t, h0, by rw [updO_ne hn]; exact h⟩
theorem but_under {r q : Addr} {o1 o2 : O} {y : OS} (h : But r (updO o1 q y) o2) (hn : r ≠ q) (hq : o1 q = none) : ∃ o', o2 = updO o' q y ∧ But r o1 o' ∧ o' q = none ∧ ∀ ns, Rowed r ns o2 → Rowed r ns o' := by
  refine ⟨fun a => if a = q then none else o2 a, ?_, fun a ha => ?_, by simp, fun ns ⟨i, s, t, h0, h1⟩ => ⟨i, s, t, h0, by show (if r = q then none else o2 r) = _; rw [if_neg hn]; exact h1⟩⟩
  · funext a
    by_cases e : a = q
    · subst e
      rw [updO_same, h a (fun z => hn z.symm), updO_same]
    · rw [updO_ne e]
      show o2 a = if a = q then none else o2 a
      rw [if_neg e]
  · show (if a = q then none else o2 a) = o1 a
    by_cases e : a = q
    · subst e; rw [if_pos rfl, hq]
    · rw [if_neg e, h a ha, updO_ne e]
theorem ixS_mem {ds : List D} {n : Int} {o : O} {Φ : D → O → Prop} (h0 : 0 ≤ n) (h1 : n < ds.length) (h : ∀ d ∈ ds, Φ d o) : ixS (.lst ds) (.int n) o Φ := by
  have hl : n.toNat < ds.length := by omega
  refine ⟨ds[n.toNat], ?_, h _ (List.getElem_mem hl)⟩
  unfold atI ixN
  rw [if_pos h0, if_pos h1]
  show ds[n.toNat]? = _
  rw [List.getElem?_eq_getElem hl]
theorem pickL3 {o : O} {a b c n : Int} {Ψ : D → O → Prop} (h0 : 0 ≤ n) (h1 : n < 3) (ha : Ψ (.int a) o) (hb : Ψ (.int b) o) (hc : Ψ (.int c) o) : ixS (.lst [.int a, .int b, .int c]) (.int n) o Ψ := by
  rcases (show n = 0 ∨ n = 1 ∨ n = 2 by omega) with rfl | rfl | rfl
  · exact ⟨_, rfl, ha⟩
  · exact ⟨_, rfl, hb⟩
  · exact ⟨_, rfl, hc⟩
end TC
set_option Elab.async false
set_option linter.all false
set_option maxRecDepth 100000
set_option maxHeartbeats 2000000
/-! Lw0t: readings (printed from the law's text). -/
namespace TC
open PySem DL RD
section
variable (τ : Tx) (ε : Excs) (π : Str → Addr)
/-- slots: 0 _law_row, 1 _law_most, 2 _law_long, 3 _law_found, 4 _law_names, 5 _law_k, 6 _law_name, 7 _law_song; loops carry [('[]', [])] -/
noncomputable def t_lsongs : RS := (sCons (sPar 3 4 (rACons (rLstO rANil) (rACons (rLst (rACons (rC (.str "a")) (rACons (rC (.str "b")) (rACons (rC (.str "c")) (rACons (rC (.str "ab")) (rACons (rC (.str "z")) (rACons (rC (.str "abcdefgh")) (rACons (rC (.str "x")) (rACons (rC (.str "y")) (rACons (rC (.str "m")) (rACons (rC (.str "n")) rANil))))))))))) rANil)))
  (sCons (sForR1 [5, 6] [] (gName 5) (rACons (rCall (S_taken) (rACons (rVar 0) (rACons (r2 addS (rVar 1) (rC (.int 1))) rANil))) rANil)
  (sCons (sSet 6 (r2 ixS (rVar 4) (rCall (S_taken) (rACons (rVar 0) (rACons (rFn lenS (rACons (rVar 4) rANil)) rANil)))))
  (sIf (tVal (r2 (inStrsS true) (rVar 6) (rLcO [7] (turn1 (gName 7) (r2 ixS (rVar 7) (rC (.int 0)))) (rVar 3))))
  (sExpr (rAppend (rVar 3) (rTup (rACons (rVar 6) (rACons (r2 addS (rC (.int 1)) (rCall (S_taken) (rACons (rVar 0) (rACons (r2 ixS (rLst (rACons (rC (.int 2)) (rACons (rC (.int 9)) (rACons (rVar 2) rANil)))) (rCall (S_taken) (rACons (rVar 0) (rACons (rC (.int 3)) rANil)))) rANil)))) rANil)))))
  sNil)))
  (sFrz 3 (sRet (rVar 3)))))
/-- slots: 0 _law_songs_here, 1 _law_tape_here, 2 _law_song; loops carry [('[1]', ['_law_tape_here'])] -/
noncomputable def t_ltape : RS := (sCons (sSet 1 (rCall (S_Tape ε) rANil))
  (sCons (sForL [1, 2] [1] (gName 2) (rVar 0)
  (sSet 1 (rOpTT (S_tape_add ε) (rVar 1) (rCall (S_Tape ε) (rACons (rVar 2) rANil)))))
  (sRet (rVar 1))))
end
end TC
set_option Elab.async false
set_option linter.all false
set_option maxRecDepth 100000
set_option maxHeartbeats 2000000
/-! Lw0b: the tape laws' draws do so. -/
namespace TC
open PySem PySem.Spec PyProof.Rows L2 DL RD
theorem b_ltape {ε : Excs} : BODY 3 (t_ltape ε) S_ltape := by
  rintro ds o Φ Ξ ⟨ss, rfl, k, hΦ⟩
  refine call (use_Tape (ss := []) ok_nil ?_)
  refine for_by (fun m cv o' => cv = [some (.tape (ss.take m))] ∧ o' = o) ⟨rfl, rfl⟩ ?_ ?_
  · rintro m d cv o' hd ⟨rfl, rfl⟩
    obtain ⟨n, l, hm, rfl⟩ := song_get hd
    have ht := take_map_snoc hm
    have k1 : OkTape [(n, l)] := k.sub (List.singleton_sublist.mpr (List.mem_of_getElem? hm))
    have k2 : OkTape (ss.take m ++ [(n, l)]) := by rw [← ht]; exact k.sub (List.take_sublist _ _)
    refine call (use_Tape (ss := [(n, l)]) k1 ?_)
    refine call (use_tape_add (k.sub (List.take_sublist _ _)) k1 k2 ?_)
    exact ⟨rfl, by rw [ht]; rfl, rfl⟩
  · rintro cv o' ⟨rfl, rfl⟩
    rw [List.length_map, List.take_length]
    exact hΦ
theorem b_lsongs : BODY 8 t_lsongs S_lsongs := by
  rintro ds o Φ Ξ ⟨r, ns, most, long, rfl, hr, h0, h1, h2, h3, hΦ⟩
  intro q hq
  have hne := hr.ne hq
  refine call (use_taken (hr.under hne) (fun c o1 c0 c1 hr1 hb1 => ?_))
  obtain ⟨o1, rfl, hb1, hq1, hu1⟩ := but_under hb1 hne hq
  refine ⟨⟨by omega, by omega⟩, ?_⟩
  refine for_o (fun m o' => ∃ (ss : Songs) (o2 : O), o' = updO o2 q (.lst (ss.map songD)) ∧ Rowed r ns o2 ∧ But r o o2 ∧ o2 q = none ∧ ss.length ≤ m ∧ (∀ p ∈ ss, p.1 ∈ names10) ∧ (∀ p ∈ ss, 1 ≤ p.2 ∧ (p.2 ≤ 9 ∨ p.2 ≤ long)) ∧ (ss.map (·.1)).Nodup) ⟨[], o1, rfl, hu1 ns hr1, hb1, hq1, Nat.le_refl _, (fun p hp => by cases hp), (fun p hp => by cases hp), by simp⟩ ?_ ?_
  · rintro m d o' hd ⟨ss, o2, rfl, hr2, hb2, hq2, hl, hn, hw, hnd⟩
    have hm : m < c.toNat := by
      have := (List.getElem?_eq_some_iff.mp hd).1
      rw [rangeD_length] at this
      exact this
    refine call (use_taken (many := 10) (hr2.under hne) (fun i o3 i0 i1 hr3 hb3 => ?_))
    obtain ⟨o3, rfl, hb3, hq3, hu3⟩ := but_under hb3 hne hq2
    have hr3 := hu3 ns hr3
    refine ixS_mem i0 i1 fun d hd => ?_
    obtain ⟨x, hx, rfl⟩ : ∃ x ∈ names10, d = .str x := List.mem_map.mp (show d ∈ names10.map D.str from hd) |>.imp fun x h => ⟨h.1, h.2.symm⟩
    refine ⟨_, updO_same, ?_⟩
    refine lco_map ss songD (fun p => .str p.1) rfl updO_same (by omega) (fun p hp o' Ψ hx h => ?_) ?_
    · exact ⟨_, rfl, h⟩
    refine ⟨ss.map (·.1), by rw [List.map_map]; rfl, ?_⟩
    refine brN (fun hin => ?_) (fun hin => ?_)
    · exact ⟨rfl, ss, o3, rfl, hr3, hb2.trans hb3, hq3, by omega, hn, hw, hnd⟩
    · refine ⟨⟨_, updO_same⟩, ?_⟩
      refine call (use_taken (hr3.under hne) (fun j o4 j0 j1 hr4 hb4 => ?_))
      obtain ⟨o4, rfl, hb4, hq4, hu4⟩ := but_under hb4 hne hq3
      have hr4 := hu4 ns hr4
      refine pickL3 j0 j1 ?_ ?_ ?_
      all_goals
        refine call (use_taken (hr4.under hne) (fun w o5 w0 w1 hr5 hb5 => ?_))
        obtain ⟨o5, rfl, hb5, hq5, hu5⟩ := but_under hb5 hne hq4
        have hr5 := hu5 ns hr5
        refine ⟨_, updO_same, lt_size (by rw [List.length_map]; omega), rfl, ss ++ [(x, 1 + w)], o5, ?_, hr5, ((hb2.trans hb3).trans hb4).trans hb5, hq5, by rw [List.length_append]; show ss.length + 1 ≤ m + 1; omega, ?_, ?_, ?_⟩
        · rw [updO_updO, List.map_append]; rfl
        · intro p hp
          rcases List.mem_append.mp hp with hp | hp
          · exact hn p hp
          · rw [List.mem_singleton] at hp; subst hp; exact hx
        · intro p hp
          rcases List.mem_append.mp hp with hp | hp
          · exact hw p hp
          · rw [List.mem_singleton] at hp
            subst hp
            show 1 ≤ 1 + w ∧ (1 + w ≤ 9 ∨ 1 + w ≤ long)
            omega
        · rw [List.map_append]
          refine List.nodup_append.mpr ⟨hnd, by simp, fun a ha b hb e => ?_⟩
          simp at hb
          subst hb
          subst e
          exact hin ha
  · rintro o' ⟨ss, o2, rfl, hr2, hb2, hq2, hl, hn, hw, hnd⟩
    rw [rangeD_length] at hl
    exact ⟨q, o2, _, rfl, rfl, hq2, hΦ ss o2 (by omega) hn hw hnd hr2 hb2⟩
end TC
set_option Elab.async false
set_option linter.all false
set_option maxRecDepth 100000
set_option maxHeartbeats 2000000
/-! L13: tapes turned round: the mathematics; groups of alike songs. -/
namespace TC
open PySem PySem.Spec PyProof.Rows L2 DL RD
/-! ### groups -/
/-- what the groups of some songs are -/
structure GrpI (f : Int → Int) (bs : List (Str × Int)) (G : List (Int × List Str)) : Prop where
  kn : (G.map (·.1)).Nodup
  ks : ∀ r, r ∈ G.map (·.1) ↔ ∃ p ∈ bs, f p.2 = r
  one : ∀ p ∈ G, 1 ≤ p.2.length
  mem : ∀ p ∈ G, ∀ n ∈ p.2, ∃ x, (n, x) ∈ bs ∧ f x = p.1
  sum : (G.map fun p => (p.2.length : Int)).sum = bs.length
theorem sum_put (G : List (Int × List Str)) (r : Int) (n : Str) (hn : (G.map (·.1)).Nodup) (h : r ∈ G.map (·.1)) :
    ((G.map fun p => if p.1 = r then (p.1, p.2 ++ [n]) else p).map fun p => (p.2.length : Int)).sum = (G.map fun p => (p.2.length : Int)).sum + 1 := by
  induction G with
  | nil => simp at h
  | cons p G ih =>
    rw [List.map_cons, List.nodup_cons] at hn
    rw [List.map_cons, List.map_cons, List.sum_cons, List.map_cons, List.sum_cons]
    by_cases e : p.1 = r
    · rw [if_pos e]
      have : (G.map fun p => if p.1 = r then (p.1, p.2 ++ [n]) else p) = G := by
        rw [List.map_congr_left (g := id)]
        · exact List.map_id _
        · intro q hq
          rw [if_neg]
          · rfl
          · intro z
            exact hn.1 (List.mem_map.mpr ⟨q, hq, by rw [z, e]⟩)
      rw [this, List.length_append]
      simp
      omega
    · rw [if_neg e, ih hn.2]
      · omega
      · rcases List.mem_cons.mp h with z | z
        · exact (e z.symm).elim
        · exact z
theorem GrpI.put {f : Int → Int} {bs : List (Str × Int)} {G : List (Int × List Str)} (h : GrpI f bs G) (p : Str × Int) : GrpI f (bs ++ [p]) (putG G (f p.2) p.1) := by
  have hk : (putG G (f p.2) p.1).map (·.1) = if f p.2 ∈ G.map (·.1) then G.map (·.1) else G.map (·.1) ++ [f p.2] := by
    unfold putG
    split
    · rw [List.map_map]
      refine List.map_congr_left fun q _ => ?_
      show (if q.1 = f p.2 then (q.1, q.2 ++ [p.1]) else q).1 = q.1
      split <;> rfl
    · rw [List.map_append]; rfl
  refine ⟨?_, fun r => ?_, fun q hq => ?_, fun q hq n hn => ?_, ?_⟩
  · rw [hk]
    split
    · exact h.kn
    · rename_i hno
      refine List.nodup_append.mpr ⟨h.kn, by simp, fun a ha b hb e => ?_⟩
      simp at hb
      subst hb
      subst e
      exact hno ha
  · rw [hk]
    constructor
    · intro hr
      split at hr
      · obtain ⟨q, hq, e⟩ := (h.ks r).mp hr
        exact ⟨q, List.mem_append_left _ hq, e⟩
      · rcases List.mem_append.mp hr with hr | hr
        · obtain ⟨q, hq, e⟩ := (h.ks r).mp hr
          exact ⟨q, List.mem_append_left _ hq, e⟩
        · rw [List.mem_singleton] at hr
          exact ⟨p, by simp, hr.symm⟩
    · rintro ⟨q, hq, e⟩
      rcases List.mem_append.mp hq with hq | hq
      · have := (h.ks r).mpr ⟨q, hq, e⟩
        split
        · exact this
        · exact List.mem_append_left _ this
      · rw [List.mem_singleton] at hq
        subst hq
        split
        · rename_i hin; rw [← e]; exact hin
        · rw [← e]; simp
  · unfold putG at hq
    split at hq
    · obtain ⟨q0, h0, rfl⟩ := List.mem_map.mp hq
      have := h.one q0 h0
      split
      · rw [List.length_append]; omega
      · exact this
    · rcases List.mem_append.mp hq with hq | hq
      · exact h.one q hq
      · rw [List.mem_singleton] at hq
        subst hq
        exact Nat.le_refl _
  · unfold putG at hq
    split at hq
    · obtain ⟨q0, h0, rfl⟩ := List.mem_map.mp hq
      split at hn
      · rename_i e
        rw [if_pos e]
        rcases List.mem_append.mp hn with hn | hn
        · obtain ⟨x, h1, h2⟩ := h.mem q0 h0 n hn
          exact ⟨x, List.mem_append_left _ h1, h2⟩
        · rw [List.mem_singleton] at hn
          subst hn
          exact ⟨p.2, by simp, e.symm⟩
      · rename_i e
        rw [if_neg e]
        obtain ⟨x, h1, h2⟩ := h.mem q0 h0 n hn
        exact ⟨x, List.mem_append_left _ h1, h2⟩
    · rcases List.mem_append.mp hq with hq | hq
      · obtain ⟨x, h1, h2⟩ := h.mem q hq n hn
        exact ⟨x, List.mem_append_left _ h1, h2⟩
      · rw [List.mem_singleton] at hq
        subst hq
        simp at hn
        subst hn
        exact ⟨p.2, by simp, rfl⟩
  · rw [List.length_append]
    show _ = ((bs.length + 1 : Nat) : Int)
    unfold putG
    split
    · rename_i hin
      rw [sum_put G _ _ h.kn hin, h.sum]
      omega
    · rw [List.map_append, List.sum_append, h.sum]
      simp
theorem grpI_go (f : Int → Int) : ∀ (bs pre : List (Str × Int)) (G : List (Int × List Str)), GrpI f pre G → GrpI f (pre ++ bs) (bs.foldl (fun gs p => putG gs (f p.2) p.1) G)
  | [], pre, G, h => by rw [List.append_nil]; exact h
  | b :: bs, pre, G, h => by
    have := grpI_go f bs (pre ++ [b]) _ (h.put b)
    rw [List.append_assoc] at this
    exact this
theorem groups_is (c g : Int) (ss : Songs) : GrpI (turns c g) (begL 0 ss) (groups c g ss) := by
  have := grpI_go (turns c g) (begL 0 ss) [] [] ⟨by simp, by simp, by simp, by simp, rfl⟩
  exact this
theorem alike_same {c g : Int} {ss : Songs} {ns : List Str} (h : ns ∈ alike c g ss) : 2 ≤ ns.length ∧ ns.length ≤ ss.length ∧ ∃ r, ∀ n ∈ ns, ∃ x, (n, x) ∈ begL 0 ss ∧ turns c g x = r := by
  have I := groups_is c g ss
  unfold alike at h
  obtain ⟨h1, h2⟩ := List.mem_filter.mp h
  obtain ⟨p, hp, rfl⟩ := List.mem_map.mp h1
  have h2 : 1 < p.2.length := of_decide_eq_true h2
  have h3 := (grp_lens c g (begL 0 ss)).2 p hp
  rw [begL_length] at h3
  exact ⟨h2, h3, p.1, I.mem p hp⟩
end TC
set_option Elab.async false
set_option linter.all false
set_option maxRecDepth 100000
set_option maxHeartbeats 2000000
/-! Us1: how the package's defs are used. -/
namespace TC
open PySem PySem.Spec PyProof.Rows L2 DL RD
section
variable {o : O} {Φ : D → O → Prop} {Ξ : DX → O → Prop} {ε : Excs} {τ : Tx}
theorem use_inv {ss : Songs} (k : OkTape ss) (h : Φ (.tape ss.reverse) o) : S_tape_inv [.tape ss] o Φ Ξ := ⟨ss, rfl, k, h⟩
theorem use_songs_at {c g r : Int} {ss : Songs} (k1 : OkDeck c g) (k2 : OkTape ss) (h0 : 0 ≤ r) (h1 : r ≤ M18) (h : Φ (.lst ((songsAt c g ss r).map D.str)) o) : S_songs_at ε [.deck c g, .tape ss, .int r] o Φ Ξ :=
  ⟨c, g, ss, _, rfl, k1, k2, rfl, by rw [if_pos (isIn_i h0 h1)]; exact ⟨r, rfl, h⟩⟩
theorem use_alike {c g : Int} {ss : Songs} (k1 : OkDeck c g) (k2 : OkTape ss) (h : Φ (.lst ((alike c g ss).map fun ns => .lst (ns.map D.str))) o) : S_alike [.deck c g, .tape ss] o Φ Ξ := ⟨c, g, ss, rfl, k1, k2, h⟩
end
end TC
set_option Elab.async false
set_option linter.all false
set_option maxRecDepth 100000
set_option maxHeartbeats 2000000
/-! DL32: list(range(..)). -/
namespace RD
open PySem PySem.Spec PyProof.Rows L2 DL
end RD
set_option Elab.async false
set_option linter.all false
set_option maxRecDepth 100000
set_option maxHeartbeats 2000000
/-! DL33: a tuple of any making is walked. -/
namespace DL
open PySem PySem.Spec PyProof.Rows L2
end DL
namespace RD
open PySem PySem.Spec PyProof.Rows L2 DL
end RD
set_option Elab.async false
set_option linter.all false
set_option maxRecDepth 100000
set_option maxHeartbeats 2000000
/-! DL34: list(d.values()), list(text), range(a, b, c). -/
namespace DL
open PySem PySem.Spec PyProof.Rows L2
end DL
namespace RD
open PySem PySem.Spec PyProof.Rows L2 DL
end RD
set_option Elab.async false
set_option linter.all false
set_option maxRecDepth 100000
set_option maxHeartbeats 2000000
/-! DL36: len(set(xs)) of different texts; == of owned lists; in at any depth; dict(xs) of a list of pairs; comprehensions that change the state. -/
namespace RD
open PySem PySem.Spec PyProof.Rows L2 DL
section
variable {X : Cx} {τ : Tx} {k : Nat} {a b : Expr} {pos p p2 q2 : Pos} {ta tb : RE}
/-! ### == of what may be an owned list -/
/-! ### plain data without truth values: equal just when the same -/
mutual
def nb : D → Bool
  | .bl _ => false
  | .tup ds => nbs ds
  | .lst ds => nbs ds
  | _ => true
def nbs : List D → Bool
  | [] => true
  | d :: ds => nb d && nbs ds
end
/-! ### in at any depth -/
/-! ### dict(xs), xs a list of pairs -/
end
/-! ### comprehensions that change the state -/
end RD
set_option Elab.async false
set_option linter.all false
set_option maxRecDepth 100000
set_option maxHeartbeats 2000000
/-! DL37: a loop in a generator's body. -/
namespace PySem
open PySem.Spec
section
variable {prog : Program} {w : World} {A : Around} {R : GenEnd} {Y : Protocol} {n : Nat} {s₀ : Shared} {fs : List Frame} {s : Shared} {env : Env}
/-- an exception leaves a loop's turn -/
def outOf (x : Value) (env : Env) : Sem Fin := (do noteFrame x env; theTreesLotGoes x : Sem Unit).wrap (fun _ => .raise x) .raise id id
theorem seg_forTurn {tg : Expr} {it : Value} {body : List Stmt}
    (h : wpAny (model prog w) (A.over (.forLoop tg it body [] env) fs) (pyNext it) (fun r s1 => match r with
        | none => Seg (model prog w) A R Y n s₀ (.forLoop tg it body [] env) (.pure (.again (.block [] env))) fs s1
        | some v => wpAny (model prog w) (A.over (.forLoop tg it body [] env) fs) (letOwnedTupleGo tg it v) (fun _ s2 => wpAny (model prog w) (A.over (.forLoop tg it body [] env) fs) (assign tg env v) (fun _ s3 =>
            Seg (model prog w) A R Y n s₀ (.forLoop tg it body [] env) ((execs body env).wrap (fun f => match f with
            | .next | .cont => .pure (.again (.forLoop tg it body [] env))
            | .brk => .pure (.done .next)
            | .ret v => .pure (.done (.ret v))) (fun e => outOf e env) id id) fs s3)
            (fun x s' => Seg (model prog w) A R Y n s₀ (.forLoop tg it body [] env) (outOf x env) fs s') s2)
            (fun x s' => Seg (model prog w) A R Y n s₀ (.forLoop tg it body [] env) (outOf x env) fs s') s1)
      (fun x s' => Seg (model prog w) A R Y n s₀ (.forLoop tg it body [] env) (outOf x env) fs s') s) :
    Seg (model prog w) A R Y n s₀ (.forLoop tg it body [] env) ((model prog w).den (.forLoop tg it body [] env)) fs s := by
  show Seg _ A R Y n s₀ _ ((forTurn tg it body [] env).onRaise (fun x => do noteFrame x env; theTreesLotGoes x)) fs s
  unfold forTurn
  have ho : ∀ x, ((do noteFrame x env; theTreesLotGoes x : Sem Unit).bind fun _ => (.raise x : Sem Fin)) = outOf x env := fun x => by
    first | exact Sem.bind_eq_wrap _ _ | (unfold outOf; rw [Sem.bind_eq_wrap])
  rw [Sem.onRaise_eq_wrap]
  refine seg_at ?_
  refine seg_bind_wrap (wpAny_pure ?_)
  refine seg_bind_wrap (wpAny_onRaise (wpAny_mono h (fun r s1 h1 => ?_) fun x s' h' => wpAny_standAt ?_))
  · cases r with
    | none => exact h1
    | some v => ?_
    refine seg_bind_wrap (wpAny_mono h1 (fun _ s2 h2 => ?_) fun x s' h' => by rw [ho]; exact h')
    refine seg_bind_wrap (wpAny_mono h2 (fun _ s3 h3 => ?_) fun x s' h' => by rw [ho]; exact h')
    rw [Sem.bind_eq_wrap', Sem.wrap_wrap]
    rw [Sem.wrap_congr (execs body env) _ _ (K' := fun f => match f with
            | .next | .cont => .pure (.again (.forLoop tg it body [] env))
            | .brk => .pure (.done .next)
            | .ret v => .pure (.done (.ret v))) (H' := fun e => outOf e env) (fun f => by cases f <;> rfl) (fun e => by show ((do noteFrame e env; theTreesLotGoes e : Sem Unit).bind fun _ => (.raise e : Sem Fin)) = _; exact ho e)]
    exact h3
  · rw [ho]; exact h'
end
end PySem
namespace L2
open PySem PySem.Spec PyProof.Rows GenW
section
variable {X : Cx}
def tGFor (wi : TI) (g : TG) (tb : TGn) : TGn := fun D ys σ H => wi σ H fun J H1 => ∃ W : Nat → Nat → List V → St → Hp → Prop, (∃ m, W 0 m ys σ H1) ∧ ∀ i m ys σ H, W i m ys σ H →
  (J.stop i H ∧ D.nx ys σ H) ∨ (J.go i H ∧ ∃ N : List V → St → Hp → Prop, (∀ ys' σ' H', N ys' σ' H' → ∃ m', m' < m ∧ W (i + 1) m' ys' σ' H') ∧ ∀ x H', J.yld i H x H' → g x σ H' fun σ2 H2 => tb { D with nx := N, ct := N, bk := D.nx } ys σ2 H2)
theorem gs_for {tg iter : Expr} {body : List Stmt} {wi : TI} {g : TG} {tb : TGn} {pos : Pos} (hp : PassesOwn (model X.prog X.w) X.A X.env X.xe) (hc : X.calm = true) (hi : PI X tg iter wi) (hg : PG X tg g) (hb : GSs X body tb)
    (hs : ∀ x, foldedSetIterable iter X.env x = pure x := by intro _; rfl) : GS X (.For tg iter body [] pos) (tGFor wi g tb) := by
  refine ⟨fun A S ip R n ys s₀ c fs K J gd lv s σ H D gc hn k hI ht => ?_⟩
  rw [exec_For]
  obtain ⟨acc, cc, r, I⟩ := hI
  refine seg_at ?_
  refine seg_bind_wrap (wpAny_pure ?_)
  refine seg_bind_wrap ?_
  rw [gc.over]
  refine wpAny_mono (hi.run _ s σ H _ I ht) (fun v s1 h1 => ?_) fun x s' hx => k.exc n s₀ x s' hx
  rw [hs]
  refine seg_bind_wrap (wpAny_pure ?_)
  refine seg_at ?_
  refine seg_bind_wrap (wpAny_pure ?_)
  refine seg_bind_wrap (wpAny_holding ?_)
  rw [gc.over]
  refine wpAny_mono h1 (fun itv s2 h2 => ?_) fun x s' hx => k.exc n s₀ x s' hx
  obtain ⟨it, fp, tn, Jt, H2, e, I2, T, st2, f2, W, ⟨m0, w0⟩, turn⟩ := h2
  subst e
  refine seg_call fun p => ?_
  have gl := fun (ipx : List (Addr × Obj)) (hip : ∀ p ∈ ipx, p.1 ≠ S) (kk : Result → Sem PySem.Fin) => gc_loop (k := kk) (c' := .forLoop tg (.ref it) body [] X.env) (l := lv []) (kp := []) (p := p) (show GC X S ipx A c fs gd from ⟨gc.pn, hip, gc.apart, gc.over, gc.split, gc.guard, gc.gd⟩) rfl rfl
  have hSfp : ∀ b ∈ fp, b ≠ S := fun b hb z => (f2 b hb).2.2.2.2.2 (S, lstObj acc cc) (List.mem_append_right _ List.mem_cons_self) z.symm
  have loop : ∀ (m n i : Nat) (ys : List V) (s₀ s : Shared) (σ : L2.St) (H : Hp), n + ys.length = sizeLine → W i m ys σ H → GI X S ip ys σ H s → tn i s.heap → (∀ b ∈ fp, H b = none) →
      Seg (model X.prog X.w) A R (GY X S) n s₀ (.forLoop tg (.ref it) body [] X.env) ((model X.prog X.w).den (.forLoop tg (.ref it) body [] X.env))
        (.ret (fun r => ((match r with | .ok f => (.pure f : Sem Flow) | .error e => .raise e).onRaise (cameBack X.env)).wrap K J gd lv) none (gd false) (lv []) c p [] :: fs) s := by
    intro m
    induction m using Nat.strongRecOn with
    | ind m ih => ?_
    intro n i ys s₀ s σ H hn w hI st hfr
    have ee : ∀ (n : Nat) (s₀ : Shared) (x : Value) (s' : Shared), X.xe x s' → Seg (model X.prog X.w) A R (GY X S) n s₀ (.forLoop tg (.ref it) body [] X.env) (outOf x X.env)
        (.ret (fun r => ((match r with | .ok f => (.pure f : Sem Flow) | .error e => .raise e).onRaise (cameBack X.env)).wrap K J gd lv) none (gd false) (lv []) c p [] :: fs) s' := fun n s₀ x s' hx => by
      refine seg_wrap ?_
      rw [(gl ip gc.ip _).over]
      refine wpAny_bind (wpAny_mono (hp x s' hx) (fun _ s'' hcb => wpAny_theTreesLotGoes ?_) fun y s'' hcb => ?_)
      · exact seg_leaf (.error x) (seg_cameBack gc k hcb)
      · exact seg_leaf (.error y) (seg_cameBack gc k hcb)
    obtain ⟨acc, cc, r, I⟩ := hI
    have stat : ∀ {H' : Hp}, (∀ b ∈ fp, H' b = none) → ∀ b ∈ fp, FpOk X ((S, lstObj acc cc) :: ip) H' b := fun hn b hb => ⟨hn b hb, (f2 b hb).2.1, (f2 b hb).2.2.1, (f2 b hb).2.2.2.1, (f2 b hb).2.2.2.2.1, fun q hq => by
      rcases List.mem_append.mp hq with hq | hq
      · exact (f2 b hb).2.2.2.2.2 q (List.mem_append_left _ hq)
      · rcases List.mem_cons.mp hq with hq | hq
        · rw [hq]; exact fun z => hSfp b hb z.symm
        · exact (f2 b hb).2.2.2.2.2 q (List.mem_append_right _ (List.mem_cons_of_mem _ hq))⟩
    refine seg_forTurn ?_
    rw [(gl ip gc.ip _).over]
    rcases turn i m ys σ H w with ⟨stop, qn⟩ | ⟨go, N, hN, step⟩
    · refine wpAny_mono (T.done X rfl rfl rfl hc i _ s σ H X.xe I (stat hfr) st stop) (fun r' s4 ⟨hr, I4⟩ => ?_) fun x s' hx => ee n s₀ x s' hx
      subst hr
      refine seg_again rfl ?_
      exact seg_leaf (.ok .next) (k.ok n ys s₀ s4 .next hn ⟨σ, H, ⟨acc, cc, r, I4⟩, qn⟩)
    · refine wpAny_mono (T.item X rfl rfl rfl hc i _ s σ H X.xe I (stat hfr) st go) (fun r' s4 ⟨u, hr, h4⟩ => ?_) fun x s' hx => ee n s₀ x s' hx
      subst hr
      refine wpAny_mono h4 (fun _ s5 ⟨x, H5, I5, r5, y5, st5, fr5⟩ => ?_) fun x s' hx => ee n s₀ x s' hx
      have I5' := I5.pinned (stat fr5) (T.obj _ _ st5)
      refine wpAny_mono (hg.run _ s5 σ H5 x u _ I5' r5 (step x H5 y5)) (fun _ s6 ⟨σ6, H6, I6, q6⟩ => ?_) fun x s' hx => ee n s₀ x s' hx
      have hipx : ∀ p ∈ ip ++ pinsAt fp s5.heap, p.1 ≠ S := fun q hq => by
        rcases List.mem_append.mp hq with hq | hq
        · exact gc.ip q hq
        · exact hSfp q.1 (by
            unfold pinsAt at hq
            obtain ⟨b, hb, e⟩ := List.mem_filterMap.mp hq
            cases e2 : s5.heap.get? b with
            | none => rw [e2] at e; cases e
            | some o => rw [e2] at e; cases e; exact hb)
      refine hb.run A S (ip ++ pinsAt fp s5.heap) R n ys s₀ _ _ _ _ id id s6 σ6 H6 { D with nx := N, ct := N, bk := D.nx } (gl _ hipx _) hn ⟨fun n' ys' s₀' s7 f hn' hs => ?_, fun n' s₀' x s3 hx => ee n' s₀' x s3 hx⟩ ⟨acc, cc, r, I6⟩ q6
      have again : ∀ {σ7 : L2.St} {H7 : Hp}, GI X S (ip ++ pinsAt fp s5.heap) ys' σ7 H7 s7 → N ys' σ7 H7 → ∃ m', m' < m ∧ W (i + 1) m' ys' σ7 H7 ∧ GI X S ip ys' σ7 H7 s7 ∧ tn (i + 1) s7.heap ∧ ∀ b ∈ fp, H7 b = none := fun {σ7 H7} I7 n7 => by
        obtain ⟨m', hm, w7⟩ := hN ys' σ7 H7 n7
        obtain ⟨acc7, cc7, r7, I7⟩ := I7
        have pin := fun b hb o (e : s5.heap.get? b = some o) => I7.pin (b, o) (List.mem_append_right _ (List.mem_cons_of_mem _ (List.mem_append_right _ (mem_pinsAt hb e))))
        refine ⟨m', hm, w7, ⟨acc7, cc7, r7, I7.unpinned⟩, T.keep _ _ _ st5 fun b hb o e => (pin b hb o e).1, fun b hb => ?_⟩
        obtain ⟨o, e, d⟩ := T.obj _ _ st5 b hb
        exact (pin b hb o e).2.1
      cases f with
      | next =>
        obtain ⟨σ7, H7, I7, n7⟩ := hs
        obtain ⟨m', hm, w7, I8, st8, fr8⟩ := again I7 n7
        exact seg_again rfl (ih m' hm n' (i + 1) ys' s₀' s7 σ7 H7 hn' w7 I8 st8 fr8)
      | cont =>
        obtain ⟨σ7, H7, I7, n7⟩ := hs
        obtain ⟨m', hm, w7, I8, st8, fr8⟩ := again I7 n7
        exact seg_again rfl (ih m' hm n' (i + 1) ys' s₀' s7 σ7 H7 hn' w7 I8 st8 fr8)
      | brk =>
        obtain ⟨σ7, H7, ⟨acc7, cc7, r7, I7⟩, q7⟩ := hs
        exact seg_leaf (.ok .next) (k.ok n' ys' s₀' s7 .next hn' ⟨σ7, H7, ⟨acc7, cc7, r7, I7.unpinned⟩, q7⟩)
      | ret v =>
        obtain ⟨x7, σ7, H7, ⟨acc7, cc7, r7, I7⟩, rv7, q7⟩ := hs
        exact seg_leaf (.ok (.ret v)) (k.ok n' ys' s₀' s7 (.ret v) hn' ⟨x7, σ7, H7, ⟨acc7, cc7, r7, I7.unpinned⟩, rv7, q7⟩)
  exact loop m0 n 0 ys s₀ s2 σ H2 hn w0 ⟨acc, cc, r, I2⟩ st2 fun b hb => (f2 b hb).1
end
end L2
set_option Elab.async false
set_option linter.all false
set_option maxRecDepth 100000
set_option maxHeartbeats 2000000
/-! DL38: generators over data. -/
namespace DL
open PySem PySem.Spec PyProof.Rows L2 GenW
/-! ### canonical readings -/
section
variable (X : Cx)
def cGn (st : Stmt) : TGn := fun D ys σ H => ∀ (A : Around) (S : Addr) (ip : List (Addr × Obj)) (R : GenEnd) (n : Nat) (s₀ : Shared) (c : Code) (fs : List Frame) (K : Flow → Sem PySem.Fin) (J : Value → Sem PySem.Fin) (gd : Bool → Bool) (lv : List Value → List Value) (s : Shared),
  GC X S ip A c fs gd → n + ys.length = sizeLine → GK X S ip A R c fs K J D → L2.GI X S ip ys σ H s → Seg (model X.prog X.w) A R (GY X S) n s₀ c ((exec st X.env).wrap K J gd lv) fs s
def cGns (st : List Stmt) : TGn := fun D ys σ H => ∀ (A : Around) (S : Addr) (ip : List (Addr × Obj)) (R : GenEnd) (n : Nat) (s₀ : Shared) (c : Code) (fs : List Frame) (K : Flow → Sem PySem.Fin) (J : Value → Sem PySem.Fin) (gd : Bool → Bool) (lv : List Value → List Value) (s : Shared),
  GC X S ip A c fs gd → n + ys.length = sizeLine → GK X S ip A R c fs K J D → L2.GI X S ip ys σ H s → Seg (model X.prog X.w) A R (GY X S) n s₀ c ((execs st X.env).wrap K J gd lv) fs s
end
section
variable {X : Cx} {st : Stmt} {sts : List Stmt} {D D' : GEnds} {ys : List V} {σ : L2.St} {H : Hp}
theorem gs_c : GS X st (cGn X st) := ⟨fun A S ip R n ys s₀ c fs K J gd lv s σ H D g hn k hI ht => ht A S ip R n s₀ c fs K J gd lv s g hn k hI⟩
theorem gss_c : GSs X sts (cGns X sts) := ⟨fun A S ip R n ys s₀ c fs K J gd lv s σ H D g hn k hI ht => ht A S ip R n s₀ c fs K J gd lv s g hn k hI⟩
theorem cGn_of {t : TGn} (h : GS X st t) (q : t D ys σ H) : cGn X st D ys σ H := fun A S ip R n s₀ c fs K J gd lv s g hn k hI => h.run A S ip R n ys s₀ c fs K J gd lv s σ H D g hn k hI q
theorem cGns_of {t : TGn} (h : GSs X sts t) (q : t D ys σ H) : cGns X sts D ys σ H := fun A S ip R n s₀ c fs K J gd lv s g hn k hI => h.run A S ip R n ys s₀ c fs K J gd lv s σ H D g hn k hI q
theorem gk_imp {S : Addr} {ip : List (Addr × Obj)} {A : Around} {R : GenEnd} {c : Code} {fs : List Frame} {K : Flow → Sem PySem.Fin} {J : Value → Sem PySem.Fin} (k : GK X S ip A R c fs K J D') (kn : ∀ ys σ H, D.nx ys σ H → D'.nx ys σ H) (kr : ∀ ys v H, D.rt ys v H → D'.rt ys v H) (kb : ∀ ys σ H, D.bk ys σ H → D'.bk ys σ H) (kc : ∀ ys σ H, D.ct ys σ H → D'.ct ys σ H) : GK X S ip A R c fs K J D :=
  ⟨fun n ys s₀ s f hn hs => k.ok n ys s₀ s f hn (by
    cases f with
    | next => obtain ⟨σ, H, h1, h2⟩ := hs; exact ⟨σ, H, h1, kn _ _ _ h2⟩
    | brk => obtain ⟨σ, H, h1, h2⟩ := hs; exact ⟨σ, H, h1, kb _ _ _ h2⟩
    | cont => obtain ⟨σ, H, h1, h2⟩ := hs; exact ⟨σ, H, h1, kc _ _ _ h2⟩
    | ret u => obtain ⟨v, σ, H, h1, h2, h3⟩ := hs; exact ⟨v, σ, H, h1, h2, kr _ _ _ h3⟩), k.exc⟩
theorem cGn_mono (h : cGn X st D ys σ H) (kn : ∀ ys σ H, D.nx ys σ H → D'.nx ys σ H) (kr : ∀ ys v H, D.rt ys v H → D'.rt ys v H) (kb : ∀ ys σ H, D.bk ys σ H → D'.bk ys σ H) (kc : ∀ ys σ H, D.ct ys σ H → D'.ct ys σ H) : cGn X st D' ys σ H :=
  fun A S ip R n s₀ c fs K J gd lv s g hn k hI => h A S ip R n s₀ c fs K J gd lv s g hn (gk_imp k kn kr kb kc) hI
theorem cGns_mono (h : cGns X sts D ys σ H) (kn : ∀ ys σ H, D.nx ys σ H → D'.nx ys σ H) (kr : ∀ ys v H, D.rt ys v H → D'.rt ys v H) (kb : ∀ ys σ H, D.bk ys σ H → D'.bk ys σ H) (kc : ∀ ys σ H, D.ct ys σ H → D'.ct ys σ H) : cGns X sts D' ys σ H :=
  fun A S ip R n s₀ c fs K J gd lv s g hn k hI => h A S ip R n s₀ c fs K J gd lv s g hn (gk_imp k kn kr kb kc) hI
end
/-! ### over data -/
/-- what is wished behind a statement of a generator; the list: what is out -/
structure DGE where
  nx : List D → Δ → O → Prop
  bk : List D → Δ → O → Prop := fun _ _ _ => False
  ct : List D → Δ → O → Prop := fun _ _ _ => False
def toG (K : PySem.W.Frag) (τ : Tx) (H0 : Hp) (o0 : O) (H : Hp) (o : O) (E : DGE) : GEnds where
  nx := fun ys σ H' => ∃ yd δ o', Okk K τ H0 o0 σ H' δ o' ∧ Le H o H' o' ∧ Rs K τ H' o' ys yd ∧ E.nx yd δ o'
  rt := fun _ _ _ => False
  bk := fun ys σ H' => ∃ yd δ o', Okk K τ H0 o0 σ H' δ o' ∧ Le H o H' o' ∧ Rs K τ H' o' ys yd ∧ E.bk yd δ o'
  ct := fun ys σ H' => ∃ yd δ o', Okk K τ H0 o0 σ H' δ o' ∧ Le H o H' o' ∧ Rs K τ H' o' ys yd ∧ E.ct yd δ o'
section
variable {X : Cx} {τ : Tx} {k : Nat} {Ξ : DX → Δ → O → Prop}
def WGn (Γ : Gm X τ k Ξ) (st : Stmt) (yd : List D) (δ : Δ) (o : O) (E : DGE) : Prop := ∀ ys σ H, Okk X.K τ Γ.H0 Γ.o0 σ H δ o → Rs X.K τ H o ys yd → cGn X st (toG X.K τ Γ.H0 Γ.o0 H o E) ys σ H
def WGns (Γ : Gm X τ k Ξ) (st : List Stmt) (yd : List D) (δ : Δ) (o : O) (E : DGE) : Prop := ∀ ys σ H, Okk X.K τ Γ.H0 Γ.o0 σ H δ o → Rs X.K τ H o ys yd → cGns X st (toG X.K τ Γ.H0 Γ.o0 H o E) ys σ H
variable {Γ : Gm X τ k Ξ} {st : Stmt} {sts : List Stmt} {yd : List D} {δ : Δ} {o : O} {E : DGE} {e : Expr} {yp pos : Pos} {tg iter : Expr} {body : List Stmt}
theorem toG_le {K : PySem.W.Frag} {H0 : Hp} {o0 : O} {H H1 : Hp} {o o1 : O} (l : Le H o H1 o1) {ys : List V} {σ : L2.St} {H' : Hp} {P : List D → Δ → O → Prop} (h : ∃ yd δ o', Okk K τ H0 o0 σ H' δ o' ∧ Le H1 o1 H' o' ∧ Rs K τ H' o' ys yd ∧ P yd δ o') : ∃ yd δ o', Okk K τ H0 o0 σ H' δ o' ∧ Le H o H' o' ∧ Rs K τ H' o' ys yd ∧ P yd δ o' := by
  obtain ⟨yd, δ, o', h1, h2, h3, h4⟩ := h
  exact ⟨yd, δ, o', h1, l.trans h2, h3, h4⟩
theorem wgn_plain (h : WS Γ st δ o { nx := E.nx yd, rt := fun _ _ => False, bk := E.bk yd, ct := E.ct yd }) : WGn Γ st yd δ o E := fun ys σ H ok r =>
  cGn_of (gs_ps ps_c) (cS_mono (h σ H ok) (fun σ' H' ⟨δ', o', h1, h2, h3⟩ => ⟨yd, δ', o', h1, h2, r.mono h2, h3⟩) (fun v H' ⟨_, _, _, _, _, h⟩ => h.elim) (fun σ' H' ⟨δ', o', h1, h2, h3⟩ => ⟨yd, δ', o', h1, h2, r.mono h2, h3⟩) (fun σ' H' ⟨δ', o', h1, h2, h3⟩ => ⟨yd, δ', o', h1, h2, r.mono h2, h3⟩))
theorem wgns_nil (h : E.nx yd δ o) : WGns Γ [] yd δ o E := fun ys σ H ok r => cGns_of gss_nil ⟨yd, δ, o, ok, Le.refl, r, h⟩
theorem wgns_cons (h : WGn Γ st yd δ o { E with nx := fun yd1 δ1 o1 => WGns Γ sts yd1 δ1 o1 E }) : WGns Γ (st :: sts) yd δ o E := fun ys σ H ok r =>
  cGns_of (gss_cons gs_c gss_c) (cGn_mono (h ys σ H ok r) (fun ys' σ' H' ⟨yd', δ', o', h1, h2, h3, h4⟩ => cGns_mono (h4 ys' σ' H' h1 h3) (fun _ _ _ z => toG_le h2 z) (fun _ _ _ z => z) (fun _ _ _ z => toG_le h2 z) (fun _ _ _ z => toG_le h2 z)) (fun _ _ _ z => z) (fun _ _ _ z => z) (fun _ _ _ z => z))
theorem wgn_yield (hl : yd.length < sizeLine) (h : WE Γ e δ o fun d o1 => E.nx (yd ++ [d]) δ o1) (hco : X.env.scope.isCoroutine = false := by rfl) (hi : interactive X.env = false := by rfl) : WGn Γ (.Expr (.Yield (some e) yp) pos) yd δ o E := fun ys σ H ok r =>
  cGn_of (gs_yield pe_c hco hi) ⟨by rw [r.length]; exact hl, cE_mono (h σ H ok) fun v H1 ⟨d, o1, w, l, r1, q⟩ => ⟨yd ++ [d], δ, o1, ok.step l w, l, (r.mono l).append (.cons r1 .nil), q⟩⟩
/-- a loop's turns, over data -/
def forGD (Γ : Gm X τ k Ξ) (tg : Expr) (body : List Stmt) (E : DGE) : List D → List D → Δ → O → Prop
  | [], yd, δ, o => E.nx yd δ o
  | d :: ds, yd, δ, o => WG Γ tg d δ o fun δ1 o1 => WGns Γ body yd δ1 o1 { nx := forGD Γ tg body E ds, bk := E.nx, ct := forGD Γ tg body E ds }
theorem wgn_for (h : WI Γ tg iter δ o fun ds o1 => forGD Γ tg body E ds yd δ o1) (hc : X.calm = true := by rfl) (hs : ∀ x, foldedSetIterable iter X.env x = pure x := by intro _; rfl) : WGn Γ (.For tg iter body [] pos) yd δ o E := fun ys σ H ok r => by
  obtain ⟨ti, hti, z⟩ := h σ H ok (fun J H1 => ∃ W : Nat → Nat → List V → L2.St → Hp → Prop, (∃ m, W 0 m ys σ H1) ∧ ∀ i m ys σ H', W i m ys σ H' →
    (J.stop i H' ∧ (toG X.K τ Γ.H0 Γ.o0 H o E).nx ys σ H') ∨ (J.go i H' ∧ ∃ N : List V → L2.St → Hp → Prop, (∀ ys' σ' H', N ys' σ' H' → ∃ m', m' < m ∧ W (i + 1) m' ys' σ' H') ∧ ∀ x H'', J.yld i H' x H'' → cG X tg x σ H'' fun σ2 H2 => cGns X body { toG X.K τ Γ.H0 Γ.o0 H o E with nx := N, ct := N, bk := (toG X.K τ Γ.H0 Γ.o0 H o E).nx } ys σ2 H2)) fun J H1 ds o1 w l it q => by
    obtain ⟨Gd, Y, wk, hg, hy⟩ := it
    let Pv : Nat → List V → L2.St → Hp → Prop := fun i ys σ' H' => ∃ yd' δ' o', Okk X.K τ Γ.H0 Γ.o0 σ' H' δ' o' ∧ Le H1 o1 H' o' ∧ Rs X.K τ H' o' ys yd' ∧ forGD Γ tg body E (ds.drop i) yd' δ' o'
    refine ⟨fun i m ys σ' H' => m = ds.length - i ∧ i ≤ ds.length ∧ Pv i ys σ' H', ⟨ds.length, by simp, Nat.zero_le _, yd, δ, o1, ok.step l w, Le.refl, r.mono l, q⟩, ?_⟩
    rintro i m ys' σ' H' ⟨rfl, hi, yd', δ', o', ok', l', r', q'⟩
    have gq := hg H' o' l'
    by_cases hlt : i < ds.length
    · refine .inr ⟨wk.goes i H' hlt gq, Pv (i + 1), fun ys2 σ2 H2 p2 => ⟨ds.length - (i + 1), by omega, rfl, hlt, p2⟩, fun x H'' y => ?_⟩
      obtain ⟨d, e, w2, l2, rd⟩ := hy i x H' o' H'' hlt l' ok'.own (wk.yields i H' x H'' hlt gq y)
      rw [List.drop_eq_getElem_cons hlt] at q'
      have hd : ds[i] = d := (List.getElem?_eq_some_iff.mp e).2
      rw [hd] at q'
      refine cG_mono (q' σ' H'' x (ok'.step l2 w2) rd) fun σ2 H2 ⟨δ2, o2, k2, l3, q2⟩ => ?_
      have l4 := (l'.trans l2).trans l3
      refine cGns_mono (q2 ys' σ2 H2 k2 ((r'.mono l2).mono l3)) (fun ys3 σ3 H3 ⟨yd3, δ3, o3, a1, a2, a3, a4⟩ => ⟨yd3, δ3, o3, a1, l4.trans a2, a3, a4⟩) (fun _ _ _ z => z) (fun ys3 σ3 H3 ⟨yd3, δ3, o3, a1, a2, a3, a4⟩ => ⟨yd3, δ3, o3, a1, (l.trans l4).trans a2, a3, a4⟩) (fun ys3 σ3 H3 ⟨yd3, δ3, o3, a1, a2, a3, a4⟩ => ⟨yd3, δ3, o3, a1, l4.trans a2, a3, a4⟩)
    · have e : i = ds.length := by omega
      subst e
      rw [List.drop_length] at q'
      exact .inl ⟨wk.stops H' gq, yd', δ', o', ok', l.trans l', r', q'⟩
  exact cGn_of (gs_for Γ.po hc hti pg_c gss_c hs) z
end
/-! ### a generator def's promise -/
abbrev GSp := List D → O → (List D → O → Prop) → Prop
def spG (K : PySem.W.Frag) (τ : Tx) (n : Nat) (S : GSp) : SpG := fun vs H Q _ => ∃ ds o Φ, Rs K τ H o vs ds ∧ Own K τ H o ∧ ds.length = n ∧ S ds o Φ ∧ ∀ ys H' yd o', Own K τ H' o' → Le H o H' o' → Rs K τ H' o' ys yd → Φ yd o' → Q ys H'
theorem spG_len {K : PySem.W.Frag} {τ : Tx} {n : Nat} {S : GSp} (vs : List V) (H : Hp) (Q : List V → Hp → Prop) (E : XK) (h : spG K τ n S vs H Q E) : vs.length = n := by
  obtain ⟨ds, o, Φ, r, _, hl, _⟩ := h
  rw [r.length, hl]
theorem gnD {P : Program} {w : World} {K : PySem.W.Frag} {mg : Str → Option Value} {base : Heap} {τ : Tx} {x qual : Str} {st : Stmt} {f : Addr} {fd : FuncData} {N ps : List Str} {k : Nat} {S : GSp} (F : Fun K x qual st f fd) (sc : GScope N ps (defScope st))
    (body : ∀ (cdv : Value) (A : Around) (outer : List Env) (s : Shared) (H : Hp) (E : XK) (pn : List (Addr × Obj)) (Γ : Gm (gcxOf P w K mg base N qual (defScope st) f cdv A outer s H E pn) τ k fun _ _ _ => False) (ds : List D) (o : O) (Φ : List D → O → Prop),
      ds.length = ps.length → S ds o Φ → WGns Γ (defBody st) [] (ds.map some ++ List.replicate (N.length - ds.length) none) o { nx := fun yd _ o' => Φ yd o' }) : GFn P w K mg base (k + 1) f fd ps (spG K τ ps.length S) := by
  obtain ⟨oc, od, kV, doc, pm, an, cdv, ct, osl, rfl, lk, hcd⟩ := F.ex
  refine gfn_of lk hcd sc (fun vs H Q E h => spG_len vs H Q E h) fun A outer s H vs Q E pn hr hsp => ?_
  obtain ⟨ds, o, Φ, r, ow, hl, hS, hQ⟩ := hsp
  refine ⟨cGns _ _, gss_c, ?_⟩
  let Γ : Gm (gcxOf P w K mg base N qual (defScope st) f cdv A outer s H E pn) τ k fun _ _ _ => False :=
    { H0 := H, o0 := o, W := fun cls d _ H' => E cls d H', tk := (takes_up takes_gcx), po := owns_gcx, rm := fun _ => hr, un := hr.un, nd := sc.nd, hW := fun _ _ _ _ _ _ _ _ _ hx => hx.elim }
  have hn : (L2.start N vs).length = (ds.map some ++ List.replicate (N.length - ds.length) none).length := by
    unfold L2.start
    rw [List.length_append, List.length_append, List.length_map, List.length_map, List.length_replicate, List.length_replicate, r.length]
  have z := body cdv A outer s H E pn Γ ds o Φ hl hS [] (L2.start N vs) H ⟨Le.refl, ow, hn, fun i d h => r.start N i d h⟩ .nil
  exact cGns_mono z (fun ys σ H' ⟨yd, δ, o', ok, l, rs, h⟩ => hQ ys H' yd o' ok.own l rs h) (fun _ _ _ h => h.elim) (fun _ _ _ ⟨_, _, _, _, _, _, h⟩ => h.elim) (fun _ _ _ ⟨_, _, _, _, _, _, h⟩ => h.elim)
/-- a generator def, by its name -/
structure GenD (P : Program) (w : World) (K : PySem.W.Frag) (mg : Str → Option Value) (base : Heap) (τ : Tx) (x : Str) (k n : Nat) (S : GSp) : Prop where
  ex : ∃ (f : Addr) (fd : FuncData) (ps : List Str), mg x = some (.ref f) ∧ GFn P w K mg base k f fd ps (spG K τ n S) ∧ PySem.W.keepIn K (.ref f) = true ∧ Binds K fd ps []
theorem passes_no {X : Cx} : Passes (L2.CX X.prog X.w) X fun _ _ _ => False := fun pins σ H s e s' I c => by
  obtain ⟨a, B, H', cls, d, _, _, _, _, _, _, _, h⟩ := c
  exact h.elim
theorem we_listG {X : Cx} [Calm X] {τ : Tx} {k j n : Nat} {Ξ : DX → Δ → O → Prop} {Γ : Gm X τ k Ξ} {x : Str} {S : GSp} {e : Expr} {es : List Expr} {δ : Δ} {o : O} {Φ : D → O → Prop} {p p2 pos pos2 : Pos} (F : GenD X.prog X.w X.K X.mg X.base τ x j n S) (hml : X.mg "list" = none)
    (h : WA Γ (e :: es) δ o fun ds o1 => ds.length = n ∧ S ds o1 fun yd o2 => Φ (.lst yd) o2) (hj : j + 3 ≤ k := by decide) (hg : Gl X x := by rfl) (hgl : Gl X "list" := by rfl) (hdb : (x == ("__debug__" : Str)) = false := by decide)
    (he : starEach (e :: es) X.env = (false, eval e X.env) :: starEach es X.env := by rfl) (hpl : (backTo pos2 (starEach es X.env)).any (·.1) = false := by rfl)
    (he2 : starEach [.Call (.Name x p2) (e :: es) [] pos2] X.env = (false, eval (.Call (.Name x p2) (e :: es) [] pos2) X.env) :: starEach [] X.env := by rfl) :
    WE Γ (.Call (.Name "list" p) [.Call (.Name x p2) (e :: es) [] pos2] [] pos) δ o Φ := fun σ H ok => by
  obtain ⟨f, fd, ps, hm, hf, hk, hb⟩ := F.ex
  have hr := Γ.room.mono hj
  refine cE_of (pe_listG (pgen_call (E := fun _ _ _ => False) hf (hr.mono (Nat.le_add_right _ _)) hg hm hk hb .nil pa_c hdb he hpl) passes_no (fun _ _ _ z => z.elim) hr hgl hml boot_list (he := he2)) ?_
  refine cA_mono (h σ H ok) fun vs H1 ⟨ds, o1, w, l, rs, hn, hS⟩ => ?_
  rw [List.append_nil]
  exact ⟨ds, o1, _, rs, w, hn, hS, fun ys H' yd o' w' l' r' q p hp => (newL w' hp r' q).le (l.trans l')⟩
end DL
set_option Elab.async false
set_option linter.all false
set_option maxRecDepth 100000
set_option maxHeartbeats 2000000
/-! DL39: a lambda of one parameter, made and called; min(xs, key=lambda). -/
namespace LamX
open PySem PySem.Spec PyProof.Rows L2
/-- lamCx, the exceptions' context None -/
def lamCxN (X : Cx) (A : Around) (out : List Env) (s : Shared) (H : Hp) (E : XK) (scope : Scope) (f c' : Addr) : Cx :=
  (lamCx X A out s H E scope f c').wish fun u sB => wpAny (model X.prog X.w) (A.deeper (lamEnv X scope s.heap.objs.size f c')) (leaving (lamEnv X scope s.heap.objs.size f c') u) (fun _ sC => L2N.CX X.prog X.w out H s E u sC) (fun x sC => L2N.CX X.prog X.w out H s E x sC) sB
end LamX
namespace L2
open PySem PySem.Spec PyProof.Rows LamX
section
variable {X : Cx} {pins : List (Addr × Obj)} {σ : L2.St} {H : Hp} {s : Shared}
/-- what the making of a lambda leaves in the abstract heap -/
def MadeL (H : Hp) (P c' : Addr) (q : Str) (H1 : Hp) : Prop :=
  (H1 = H ∧ ∃ ps pos, H P = some (.tbl ps) ∧ codeAmong pos ps.toList = some (.ref c')) ∨
  (H c' = none ∧ ∃ ps pos, H P = some (.tbl ps) ∧ TriplesOk (ps ++ #[rawInt (Pos.line pos), rawInt pos.col, .ref c']).toList ∧ H1 = upd (upd H P (.tbl (ps ++ #[rawInt pos.line, rawInt pos.col, .ref c']))) c' (CodeO c' q))
theorem lam_make3 {c P : Addr} {params : Arguments} {body : Expr} {scope : Scope} {pos : Pos} {E : Value → Shared → Prop} {Q : Value → Shared → Prop} (I : Inv X pins σ H s) (TB : TabB X.base X.mg c P) (hcode : X.env.code = .ref c)
    (hT : TabS H P (X.env.qual ++ "<lambda>")) (hdef : defaultsOf params X.env = ([], [])) (hfree : ∀ y ∈ scope.names, y.2 = .free → ∃ c, X.env.cells.lookup y.1 = some c)
    (h : ∀ (f c' : Addr) (pm ctv : Value) (H1 : Hp) (s' : Shared), Inv X pins σ H1 s' → MadeL H P c' (X.env.qual ++ "<lambda>") H1 → H1 c' = some (CodeO c' (X.env.qual ++ "<lambda>")) →
      s'.heap.get? f = some (PySem.W.kla_obj "<lambda>" (X.env.qual ++ "<lambda>") params body scope (cloFrom X.env.cells scope.names []) pm c' ctv) → H1 f = none → f ∉ frs X.stack → Q (.ref f) s') :
    wpAny (model X.prog X.w) X.A (eval (.Lambda params body scope pos) X.env) Q E s := by
  obtain ⟨ps, hP, htr, hall⟩ := hT
  have bP : s.heap.BuiltinsAt X.mg P := TB.bm.keeps I.bk
  have hPs : s.heap.get? P = some { cls := .none, data := .fields ps } := I.hok P _ hP
  have nofr : ∀ f, s.heap.objs.size ≤ f → f ∉ frs X.stack := fun f hf z => (List.mem_cons.mp (I.stkSub _ z)).elim (fun e => absurd (Nat.lt_of_lt_of_le I.lt hf) (by rw [e]; exact Nat.lt_irrefl _)) (I.nofs hf)
  refine PySem.W.kla_eval hdef ?_
  cases hc : codeAmong pos ps.toList with
  | some cv =>
    obtain ⟨c', e, hco⟩ := hall pos cv hc
    subst e
    exact PySem.W.kla_makeFunctionHit (mg := X.mg) (c := c) (P := P) (ps := ps) (closure_ok hfree) I.ok.glob (I.mod.glob.keeps I.bk) hcode (TB.code.keeps I.bk) hPs htr hc bP fun ctv h' tk hx hsz =>
      h h'.objs.size c' ((X.mg "__name__").getD .none) ctv H _ (I.kept (t' := tk) fun b o e => Heap.get?_push_of_some _ (hx b o e)) (.inl ⟨rfl, ps, pos, hP, hc⟩) hco (Heap.get?_push_size _ rfl) (I.hok.fresh hsz) (nofr _ hsz)
  | none =>
    refine PySem.W.kla_makeFunction (mg := X.mg) (c := c) (P := P) (ps := ps) (closure_ok hfree) I.ok.glob (I.mod.glob.keeps I.bk) hcode (TB.code.keeps I.bk) hPs htr hc TB.gP bP fun c' ctv h' tk hx hge hlt hrec htb => ?_
    obtain ⟨c2, oc, vs, t, e2, hoc, hd, hv⟩ := hrec
    cases e2
    have hsz : s.heap.objs.size ≤ h'.objs.size := by omega
    have hPc : h'.objs.size ≠ P := Nat.ne_of_gt (Nat.lt_of_lt_of_le (Heap.lt_size hPs) hsz)
    refine h h'.objs.size c' ((X.mg "__name__").getD .none) ctv _ _ (inv_table (t' := tk) (more := #[rawInt pos.line, rawInt pos.col, .ref c']) (h' := h'.push (PySem.W.kla_obj "<lambda>" (X.env.qual ++ "<lambda>") params body scope (cloFrom X.env.cells scope.names []) ((X.mg "__name__").getD .none) c' ctv)) I hP
      (fun b o hb e => Heap.get?_push_of_some _ (hx b o hb e)) (Heap.get?_push_of_some _ htb) hge ⟨oc, vs, t, Heap.get?_push_of_some _ hoc, hd, hv⟩) (.inr ⟨I.hok.fresh hge, ps, pos, hP, ?_, rfl⟩) upd_same (Heap.get?_push_size _ rfl) ?_ (nofr _ hsz)
    · rw [show (ps ++ #[rawInt pos.line, rawInt pos.col, .ref c']).toList = ps.toList ++ [rawInt pos.line, rawInt pos.col, .ref c'] by simp]
      exact PySem.TriplesOk_snoc _ _ _ _ htr
    · rw [upd_ne (Nat.ne_of_gt hlt), upd_ne hPc]
      exact I.hok.fresh hsz
end
/-! ### one parameter -/
structure Lam1 (sc scope : Scope) (a : Str) : Prop where
  kind : scope.kind = .function
  co : scope.isCoroutine = false
  gen : scope.isGenerator = false
  par : scope.names.lookup a = some .local
  own : ∀ y ∈ scope.names, y.2 ≠ .cell ∧ (y.2 = .local → y.1 = a)
  free : ∀ y ∈ scope.names, y.2 = .free → sc.names.lookup y.1 = some .cell ∨ sc.names.lookup y.1 = some .free
def lam1B (sc scope : Scope) (a : Str) : Bool :=
  decide (scope.kind = .function) && !scope.isCoroutine && !scope.isGenerator && decide (scope.names.lookup a = some .local) && scope.names.all fun y => !decide (y.2 = .cell) && (!decide (y.2 = .local) || decide (y.1 = a)) && (!decide (y.2 = .free) || decide (sc.names.lookup y.1 = some .cell) || decide (sc.names.lookup y.1 = some .free))
theorem lam1_by {sc scope : Scope} {a : Str} (h : lam1B sc scope a = true) : Lam1 sc scope a := by
  unfold lam1B at h
  simp only [Bool.and_eq_true, Bool.or_eq_true, Bool.not_eq_true', decide_eq_true_eq, decide_eq_false_iff_not, List.all_eq_true] at h
  obtain ⟨⟨⟨⟨h1, h2⟩, h3⟩, h5⟩, h4⟩ := h
  refine ⟨h1, h2, h3, h5, fun y hy => ⟨(h4 y hy).1.1, fun e => (h4 y hy).1.2.elim (fun z => absurd e z) id⟩, fun y hy e => ?_⟩
  rcases (h4 y hy).2 with (z | z) | z
  · exact absurd e z
  · exact .inl z
  · exact .inr z
theorem Lam1.has {X : Cx} {scope : Scope} {a : Str} (L : Lam1 X.env.scope scope a) (ok : X.Ok) : ∀ y ∈ scope.names, y.2 = .free → ∃ c, X.env.cells.lookup y.1 = some c := fun y hy e =>
  ok.has _ ((L.free y hy e).imp id id)
section
variable {X : Cx} {pins : List (Addr × Obj)} {σ : L2.St} {H : Hp} {s : Shared}
theorem lam_start3 {A : Around} {E : XK} {scope : Scope} {f c' : Addr} {a : Str} {j : Nat} {x : V} {u : Value} {h₁ : Heap} {tk : Nat} (I : Inv X pins σ H s) (L : Lam1 X.env.scope scope a) (hA : A.frames = some X.stack) (hd : A.handled = none) (hj : X.N[j]? = some a) (nd : X.N.Nodup) (rv : RelV x u)
    (hns : h₁.Ns s.heap.objs.size fun y => ([(a, u)] : List (Str × Value)).reverse.lookup y) (kp : ∀ b o, s.heap.get? b = some o → h₁.get? b = some o) :
    Inv (lamCxN X A X.stack s H E scope f c') [] (σ.set j (some x)) H { s with heap := h₁, toks := tk } := by
  have hfree := L.has I.ok
  have cm : ∀ {y c}, (cloFrom X.env.cells scope.names []).lookup y = some c → X.env.cells.lookup y = some c := fun {y c} e => by
    rcases cloFrom_mem (PySem.mem_of_lookup e) with hm | ⟨h1, h2⟩
    · cases hm
    · obtain ⟨c1, hc⟩ := hfree _ h1 rfl
      have hc : X.env.cells.lookup y = some c1 := hc
      rw [h2, hc]
      simp [hc]
  have look : ∀ {y}, scope.names.lookup y = some .free → ∃ c, (cloFrom X.env.cells scope.names []).lookup y = some c := fun {y} hl =>
    mem_lookup (cloFrom_has (cells := X.env.cells) (acc := []) (show (y, NameKind.free) ∈ scope.names from PySem.mem_of_lookup hl))
  have cellK : ∀ {c : Addr} {v : Option Value}, s.heap.IsCell c v → h₁.IsCell c v := fun {c v} ⟨o, ho, hd⟩ => ⟨o, kp _ _ ho, hd⟩
  have e0 := I.env0
  have noA : ∀ b : Addr, b ∉ (lamCxN X A X.stack s H E scope f c').ex := fun b z => absurd (show b ∈ ([] : List Addr) from z) (by simp)
  refine ⟨⟨e0.mod, L.kind, rfl, rfl, Nat.le_refl _, fun y z c e1 e2 => I.ok.inj y z c (cm e1) (cm e2), fun y hy => ?_, fun y c z _ => ?_, fun _ => hd, Around.frames_deeper hA, .inr ⟨rfl, rfl⟩, fun b z => absurd z (noA b), e0.bs, e0.bsz, fun b _ _ => noA b,
      fun b z => absurd z (noA b), e0.funs, e0.frf⟩,
    rfl, e0.bare, Un.kept kp, ⟨_, hns, fun i y v e1 e2 e3 => ?_⟩, fun y c e => ?_, e0.hok.fresh (Nat.le_refl _), fun y c e => I.freeC y c (cm e), fun q hq => absurd (show q ∈ ([] : List (Addr × Obj)) ++ [] from hq) (by simp), e0.hok.kept kp, ?_⟩
  · have hy : scope.names.lookup y = some .cell ∨ scope.names.lookup y = some .free := hy
    rcases hy with hy | hy
    · exact absurd rfl (L.own _ (PySem.mem_of_lookup hy)).1
    · exact look hy
  · have z : false = true := z
    cases z
  · have e1 : X.N[i]? = some y := e1
    have e3 : Vis scope y := e3
    rcases e3 with k | k | k
    · have ya : y = a := (L.own _ (PySem.mem_of_lookup k)).2 rfl
      subst ya
      have ij : i = j := by
        have hi := (List.getElem?_eq_some_iff.mp e1).1
        have hj' := (List.getElem?_eq_some_iff.mp hj).1
        have q1 := (List.getElem?_eq_some_iff.mp e1).2
        have q2 := (List.getElem?_eq_some_iff.mp hj).2
        exact (List.getElem_inj nd).mp (q1.trans q2.symm)
      subst ij
      have hl : i < σ.length := by rw [I.len]; exact (List.getElem?_eq_some_iff.mp e1).1
      rw [List.getElem?_set_self hl] at e2
      cases e2
      exact ⟨u, rv, .inl ⟨k, by simp⟩⟩
    · exact absurd rfl (L.own _ (PySem.mem_of_lookup k)).1
    · have ya : y ≠ a := fun z => by
        rw [z, L.par] at k
        cases k
      have ij : j ≠ i := fun z => by
        rw [z, e1] at hj
        exact ya (Option.some.inj hj)
      rw [List.getElem?_set_ne ij] at e2
      obtain ⟨m, hn, hl⟩ := I.loc
      have hfr := L.free _ (PySem.mem_of_lookup k) rfl
      obtain ⟨w', r, q⟩ := hl i y v e1 e2 (hfr.elim (fun k => .inr (.inl k)) (fun k => .inr (.inr k)))
      obtain ⟨c2, h2⟩ := look k
      refine ⟨w', r, .inr ⟨.inr k, c2, h2, ?_⟩⟩
      have c1 := cm h2
      rcases q with ⟨k', _⟩ | ⟨_, c3, e', z⟩
      · have k' : X.env.scope.names.lookup y = some .local := k'
        rcases hfr with k2 | k2 <;> rw [show X.env.scope.names.lookup y = _ from k2] at k' <;> cases k'
      · rw [c1] at e'
        cases e'
        exact cellK z
  · obtain ⟨w', z⟩ := I.cell y c (cm e)
    exact ⟨w', cellK z⟩
  · rw [List.length_set]
    exact I.len
/-- a call of the lambda -/
theorem lam_call1 {A : Around} {scope : Scope} {f c' : Addr} {a : Str} {j k : Nat} {x : V} {u pm ctv : Value} {params : Arguments} {body : Expr} {Q : VK} {E : Value → Shared → Prop} (I : Inv X pins σ H s) (L : Lam1 X.env.scope scope a)
    (hf : s.heap.get? f = some (PySem.W.kla_obj "<lambda>" (X.env.qual ++ "<lambda>") params body scope (cloFrom X.env.cells scope.names []) pm c' ctv)) (hc : H c' = some (CodeO c' (X.env.qual ++ "<lambda>")))
    (hbind : ∀ (q : Str) (cl : List (Str × Addr)) (pm cv ctv u : Value), bindArgs (PySem.W.kla_fn "<lambda>" q params body scope cl pm cv ctv) ⟨[u], []⟩ = pure [(a, u)])
    (hA : A.frames = some X.stack) (hj : X.N[j]? = some a) (nd : X.N.Nodup) (hr : Room (k + 1) A) (rv : RelV x u)
    (hbody : ∀ s' : Shared, Room k (A.deeper (lamEnv X scope s'.heap.objs.size f c')) → DL.cE (lamCxN X A X.stack s' H (fun _ _ _ => False) scope f c') body (σ.set j (some x)) H Q) :
    wpAny (model X.prog X.w) A (call (.ref f) [u]) (EP X pins σ Q) E s := by
  obtain ⟨⟨oc, vs, t, hoc, hdc, hvc⟩, _, _⟩ := I.hok c' _ hc
  have rc : codeAny (model X.prog X.w) A (.call (.ref f) ⟨[u], []⟩) (CR (L2N.CX X.prog X.w) X.stack X.prog X.w H s Q (fun _ _ _ => False)) s := by
    refine PySem.W.kla_callFunE hr.depth hf rfl L.co L.gen rfl ⟨c', oc, vs, t, rfl, hoc, hdc, hvc⟩ ?_
    rw [hbind]
    refine wpAny_pure (wpAny_newFunctionEnv (fun y hy => (L.own y hy).1) (fun y hy => by rw [List.mem_singleton.mp hy]; exact L.par) (fun h₁ hns hsb => ⟨I.nolimit.fresh _ hsb, ?_⟩) L.kind)
    show codeAny _ _ (.expr body (lamEnv X scope s.heap.objs.size f c')) _ _
    have kp : ∀ b o, s.heap.get? b = some o → h₁.get? b = some o := fun b o e => hsb.extBut b o (Nat.ne_of_lt (Heap.lt_size e)) (Heap.get?_push_of_some _ e)
    have J := lam_start3 (E := fun _ _ _ => False) (tk := s.toks + ([(a, u)] : List (Str × Value)).length) (f := f) (c' := c') I L hA hr.hd hj nd rv hns kp
    refine PySem.W.kla_codeExpr (wpAny_mono (hbody s (hr.deeper _) [] _ J) (fun v s' hq => ?_) fun e s' hq => hq)
    obtain ⟨w', H', J', rv, q⟩ := hq
    exact ⟨w', H', J'.os, J'.bare, J'.base, J'.hok, rv, q⟩
  refine wpAny_call (codeAny_mono rc fun r s' hq => ?_)
  cases r with
  | error e =>
    obtain ⟨_, _, _, _, _, _, _, _, _, _, _, _, z⟩ := (show L2N.CX X.prog X.w X.stack H s (fun _ _ _ => False) e s' from hq)
    exact z.elim
  | ok fl =>
    cases fl with
    | ret u => exact I.after hq
    | next => exact False.elim hq
    | brk => exact False.elim hq
    | cont => exact False.elim hq
end
end L2
set_option Elab.async false
set_option linter.all false
set_option maxRecDepth 100000
set_option maxHeartbeats 2000000
/-! DL40: min(xs, key=lambda x: ..) over data. -/
namespace DL
open PySem PySem.Spec PyProof.Rows L2 LamX
section
variable {X : Cx} {τ : Tx} {pins : List (Addr × Obj)} {σ : L2.St} {H0 Hs : Hp} {o0 o : O} {δ : Δ} {ds : List D} {vs : List V} {l f c' I S : Addr} {fo : Obj} {q : Str} {n : Nat} {items : Array Value} {s : Shared}
/-- between two turns of min: the list at l, the iterator at I, the best with its key at S, the lambda at f -/
structure MinSt (X : Cx) (τ : Tx) (pins : List (Addr × Obj)) (σ : L2.St) (H0 Hs : Hp) (o0 o : O) (δ : Δ) (ds : List D) (vs : List V) (l f c' I S : Addr) (fo : Obj) (q : Str) (n : Nat) (items : Array Value) (s : Shared) : Prop where
  ex : ∃ H', Inv X (pins ++ [(f, fo)]) σ H' s ∧ Okk X.K τ H0 o0 σ H' δ o ∧ Le Hs o H' o ∧ H' c' = some (CodeO c' q) ∧ H' l = some (.lst vs) ∧ Rs X.K τ H' o vs ds ∧ (∀ b ∈ [I, S], FpOk X (pins ++ [(f, fo)]) H' b)
  it : s.heap.IsListIter I l n
  st : ∃ c, s.heap.get? S = some (seqObj "list" items c)
theorem MinSt.len (M : MinSt X τ pins σ H0 Hs o0 o δ ds vs l f c' I S fo q n items s) : vs.length = ds.length := by
  obtain ⟨H', _, _, _, _, _, r, _⟩ := M.ex
  exact r.length
theorem MinSt.next {A : Around} {E : Value → Shared → Prop} (M : MinSt X τ pins σ H0 Hs o0 o δ ds vs l f c' I S fo q n items s) (hIS : I ≠ S) (hn : n < ds.length) :
    wpAny (model X.prog X.w) A (pyNext (.ref I)) (fun r s1 => ∃ u v, r = some u ∧ vs[n]? = some v ∧ RelV v u ∧ MinSt X τ pins σ H0 Hs o0 o δ ds vs l f c' I S fo q (n + 1) items s1) E s := by
  have hl := M.len
  obtain ⟨⟨H', J, ok, le, hc, hv, r, hf⟩, it, c, st⟩ := M
  obtain ⟨its, rv, p, hz⟩ := J.list (.inl (.inl hv) : SqL X.K H' l vs)
  obtain ⟨v, hx⟩ : ∃ v, vs[n]? = some v := ⟨_, List.getElem?_eq_getElem (by omega)⟩
  obtain ⟨u, hu, ru⟩ := rv.get hx
  obtain ⟨f0, f1, f2, f3, f4, f5⟩ := hf I (by simp)
  refine wpAny_pyNext_list_item it p.isList (x := u) (by simpa using hu) fun h' st' sb => ⟨u, v, rfl, hx, ru, ⟨H', ?_, ok, le, hc, hv, r, hf⟩, st', c, (sb.2 S (fun z => hIS z.symm)).trans st⟩
  exact J.turned (t' := s.toks) (fun b o hb e => (sb.2 b hb).trans e) f0 f1 f3 f4 f5
theorem MinSt.stop {A : Around} {E : Value → Shared → Prop} (M : MinSt X τ pins σ H0 Hs o0 o δ ds vs l f c' I S fo q n items s) (hIS : I ≠ S) (hh : A.handled = none) (hn : ds.length ≤ n) :
    wpAny (model X.prog X.w) A (pyNext (.ref I)) (fun r s1 => r = none ∧ ∃ H', Inv X (pins ++ [(f, fo)]) σ H' s1 ∧ Okk X.K τ H0 o0 σ H' δ o ∧ Le Hs o H' o ∧ Rs X.K τ H' o vs ds ∧ (∀ b ∈ [I, S], FpOk X (pins ++ [(f, fo)]) H' b) ∧ ∃ c, s1.heap.get? S = some (seqObj "list" items c)) E s := by
  have hl := M.len
  obtain ⟨⟨H', J, ok, le, hc, hv, r, hf⟩, it, c, st⟩ := M
  obtain ⟨its, rv, p, hz⟩ := J.list (.inl (.inl hv) : SqL X.K H' l vs)
  obtain ⟨f0, f1, f2, f3, f4, f5⟩ := hf I (by simp)
  have hle := rv.length
  refine wpAny_pyNext_list_end hh it p.isList (by simp; omega) fun h' eb => ⟨rfl, H', J.turned (t' := s.toks) (fun b o hb e => eb b o hb e) f0 f1 f3 f4 f5, ok, le, r, hf, c, eb S _ (fun z => hIS z.symm) st⟩
theorem MinSt.key {E : Value → Shared → Prop} {A : Around} {scope : Scope} {a : Str} {i j k : Nat} {v : V} {u pm ctv : Value} {params : Arguments} {body : Expr} {kf : Nat → Int}
    (M : MinSt X τ pins σ H0 Hs o0 o δ ds vs l f c' I S fo (X.env.qual ++ "<lambda>") n items s) (L : Lam1 X.env.scope scope a) (hfo : fo = PySem.W.kla_obj "<lambda>" (X.env.qual ++ "<lambda>") params body scope (cloFrom X.env.cells scope.names []) pm c' ctv) (oc : o c' = none) (ol : o l = none)
    (hbind : ∀ (q : Str) (cl : List (Str × Addr)) (pm cv ctv u : Value), bindArgs (PySem.W.kla_fn "<lambda>" q params body scope cl pm cv ctv) ⟨[u], []⟩ = pure [(a, u)])
    (hA : A.frames = some X.stack) (hj : X.N[j]? = some a) (nd : X.N.Nodup) (hr : Room (k + 1) A) (hv : vs[i]? = some v) (rv : RelV v u)
    (turn : ∀ (d : D), ds[i]? = some d → ∀ (H1 : Hp) (s' : Shared), Okk X.K τ H0 o0 σ H1 δ o → R X.K τ H1 o v d → Room k (A.deeper (lamEnv X scope s'.heap.objs.size f c')) →
      cE (lamCxN X A X.stack s' H1 (fun _ _ _ => False) scope f c') body (σ.set j (some v)) H1 fun r H2 => r = .int (kf i) ∧ Own X.K τ H2 o ∧ Le H1 o H2 o) :
    wpAny (model X.prog X.w) A (call (.ref f) [u]) (fun x s2 => ∃ t, x = .int (kf i) t ∧ MinSt X τ pins σ H0 Hs o0 o δ ds vs l f c' I S fo (X.env.qual ++ "<lambda>") n items s2) E s := by
  obtain ⟨⟨H', J, ok, le, hc, hvl, r, hf⟩, it, c, st⟩ := M
  obtain ⟨d, hd, rd⟩ := r.of_get hv
  obtain ⟨oI, hoI, ocI, odI⟩ := id it
  have ho : ∀ b ∈ [I, S], ∃ ob, s.heap.get? b = some ob ∧ ∀ v, ob.data ≠ .cell v := fun b hb => by
    rcases List.mem_cons.mp hb with e | hb
    · rw [e]; exact ⟨oI, hoI, fun v z => by rw [odI] at z; cases z⟩
    · rw [List.mem_singleton.mp hb]; exact ⟨_, st, fun v z => by cases z⟩
  have J' := J.pinned hf ho
  have hfh : s.heap.get? f = some fo := (J.pin (f, fo) (List.mem_append_right _ (List.mem_append_right _ List.mem_cons_self))).1
  rw [hfo] at hfh
  refine wpAny_mono (lam_call1 J' L hfh hc hbind hA hj nd hr rv (fun s' hr' => turn d hd H' s' ok rd hr')) (fun x s2 hq => ?_) fun _ _ h => h
  obtain ⟨w, H2, J2, rw', e1, ow, l2⟩ := hq
  subst e1
  obtain ⟨t, et⟩ := (rw' : ∃ t, x = .int (kf i) t)
  have pin := fun b hb ob (e : s.heap.get? b = some ob) => J2.pin (b, ob) (List.mem_append_right _ (List.mem_append_right _ (mem_pinsAt (fp := [I, S]) hb e)))
  refine ⟨t, et, ⟨H2, J2.unpinned, ok.step l2 ow, le.trans l2, (l2.ex oc hc rfl).1, (l2.ex ol hvl rfl).1, r.mono l2, fun b hb => ?_⟩, it.at fun ob e => (pin I (by simp) ob e).1, c, (pin S (by simp) _ st).1⟩
  obtain ⟨ob, e, _⟩ := ho b hb
  exact ⟨(pin b hb ob e).2.1, (hf b hb).2⟩
theorem MinSt.put {items' : Array Value} (M : MinSt X τ pins σ H0 Hs o0 o δ ds vs l f c' I S fo q n items s) (hIS : I ≠ S) : MinSt X τ pins σ H0 Hs o0 o δ ds vs l f c' I S fo q n items' { s with heap := s.heap.update S (Obj.mapSeq fun _ => items') } := by
  obtain ⟨⟨H', J, ok, le, hc, hvl, r, hf⟩, ⟨oI, hoI, ocI, odI⟩, c, st⟩ := M
  have sb := Heap.SameBut.update s.heap S (Obj.mapSeq fun _ => items')
  obtain ⟨f0, f1, f2, f3, f4, f5⟩ := hf S (by simp)
  exact ⟨⟨H', J.turned (t' := s.toks) (fun b o hb e => (sb.2 b hb).trans e) f0 f1 f3 f4 f5, ok, le, hc, hvl, r, hf⟩, ⟨oI, (sb.2 I hIS).trans hoI, ocI, odI⟩, ⟨_, get?_update_seq st _⟩⟩
end
end DL
set_option Elab.async false
set_option linter.all false
set_option maxRecDepth 100000
set_option maxHeartbeats 2000000
/-! DL41: the loop of min, with a key. -/
namespace DL
open PySem PySem.Spec PyProof.Rows L2 LamX
section
variable {X : Cx} {τ : Tx} {pins : List (Addr × Obj)} {σ : L2.St} {H0 Hs : Hp} {o0 o : O} {δ : Δ} {ds : List D} {vs : List V} {l f c' I S : Addr} {fo : Obj} {q : Str} {s : Shared} {kf : Nat → Int}
/-- the i-th is the first of the least -/
def FirstMin (kf : Nat → Int) (n i : Nat) : Prop := i < n ∧ ∀ j, j < n → kf i ≤ kf j ∧ (j < i → kf i < kf j)
structure MinEnd (X : Cx) (τ : Tx) (pins : List (Addr × Obj)) (σ : L2.St) (H0 Hs : Hp) (o0 o : O) (δ : Δ) (ds : List D) (vs : List V) (s : Shared) : Prop where
  ex : ∃ H', Inv X pins σ H' s ∧ Okk X.K τ H0 o0 σ H' δ o ∧ Le Hs o H' o ∧ Rs X.K τ H' o vs ds
/-- what a key's call gives, at any state between two turns -/
abbrev KeyOk (X : Cx) (τ : Tx) (pins : List (Addr × Obj)) (σ : L2.St) (H0 Hs : Hp) (o0 o : O) (δ : Δ) (ds : List D) (vs : List V) (l f c' I S : Addr) (fo : Obj) (q : Str) (kf : Nat → Int) (A : Around) : Prop :=
  ∀ (n i : Nat) (items : Array Value) (s : Shared) (v : V) (u : Value) (E : Value → Shared → Prop), MinSt X τ pins σ H0 Hs o0 o δ ds vs l f c' I S fo q n items s → vs[i]? = some v → RelV v u →
    wpAny (model X.prog X.w) A (call (.ref f) [u]) (fun x s2 => ∃ t, x = .int (kf i) t ∧ MinSt X τ pins σ H0 Hs o0 o δ ds vs l f c' I S fo q n items s2) E s
theorem nameLoop : (toString "min" ++ toString ".loop" : String) = "min.loop" := by decide
theorem min_loopD {A : Around} {R : Result → Shared → Prop} (hh : A.handled = none) (hIS : I ≠ S) (key : KeyOk X τ pins σ H0 Hs o0 o δ ds vs l f c' I S fo q kf A.in1)
    (hR : ∀ i v u s', vs[i]? = some v → RelV v u → FirstMin kf ds.length i → MinEnd X τ pins σ H0 Hs o0 o δ ds vs s' → R (.ok (.ret u)) s') :
    ∀ (m j i : Nat) (s : Shared) (v : V) (u : Value) (t : Tok), ds.length - (j + 1) = m → j + 1 ≤ ds.length → MinSt X τ pins σ H0 Hs o0 o δ ds vs l f c' I S fo q (j + 1) #[u, .int (kf i) t] s → vs[i]? = some v → RelV v u → i ≤ j → FirstMin kf (j + 1) i →
      codeAny (model X.prog X.w) A (.builtin "min.loop" ⟨[.ref I, .ref f, .ref S], []⟩) R s := by
  intro m
  induction m with
  | zero =>
    intro j i s v u t hm hj M hv ru hij best
    have hlen : ds.length = j + 1 := by omega
    obtain ⟨c, st⟩ := M.st
    refine codeAny_builtin PySem.F.entry_min_loop ?_
    rw [Around.under_plainId PySem.F.plain_min_loop _]
    show wpAny _ A.in1 (seqItems? (.ref S) >>= _) _ _ _
    refine wpAny_bind (wpAny_seqItems st rfl ?_)
    show wpAny _ A.in1 (tryCatch (pyNext (.ref I)) _ >>= _) _ _ _
    refine wpAny_bind (wpAny_tryCatch (wpAny_mono (M.stop hIS hh (by omega)) (fun r s1 ⟨er, H', J, ok, le, rs, hf, c1, st1⟩ => ?_) fun _ _ h => h))
    subst er
    show wpAny _ A.in1 (updateSeq S (fun _ => #[]) >>= _) _ _ _
    refine wpAny_bind (wpAny_updateSeq st1 rfl (wpAny_bind (wpAny_letGo (wpAny_pure ?_))))
    have sb := Heap.SameBut.update s1.heap S (Obj.mapSeq fun _ => (#[] : Array Value))
    obtain ⟨f0, f1, f2, f3, f4, f5⟩ := hf S (by simp)
    exact hR i v u _ hv ru (by rw [hlen]; exact best) ⟨H', (J.turned (t' := s1.toks) (fun b o hb e => (sb.2 b hb).trans e) f0 f1 f3 f4 f5).unpinned, ok, le, rs⟩
  | succ m ih =>
    intro j i s v u t hm hj M hv ru hij best
    have hlt : j + 1 < ds.length := by omega
    obtain ⟨c, st⟩ := M.st
    refine codeAny_builtin PySem.F.entry_min_loop ?_
    rw [Around.under_plainId PySem.F.plain_min_loop _]
    show wpAny _ A.in1 (seqItems? (.ref S) >>= _) _ _ _
    refine wpAny_bind (wpAny_seqItems st rfl ?_)
    show wpAny _ A.in1 (tryCatch (pyNext (.ref I)) _ >>= _) _ _ _
    refine wpAny_bind (wpAny_tryCatch (wpAny_mono (M.next hIS hlt) (fun r s1 ⟨u1, v1, er, hv1, ru1, M1⟩ => ?_) fun _ _ h => h))
    subst er
    show wpAny _ A.in1 (tryCatch (holding [u1] (call (.ref f) [u1])) _ >>= _) _ _ _
    refine wpAny_bind (wpAny_tryCatch (wpAny_holding (wpAny_mono (key (j + 1 + 1) (j + 1) _ s1 v1 u1 _ M1 hv1 ru1) (fun x s2 ⟨t2, ex, M2⟩ => ?_) fun _ _ h => h)))
    subst ex
    show wpAny _ A.in1 (tryCatch (holding [u1, .int (kf (j + 1)) t2] (richCompare .Lt (.int (kf (j + 1)) t2) (.int (kf i) t) >>= _)) _ >>= _) _ _ _
    refine wpAny_bind (wpAny_tryCatch (wpAny_holding (wpAny_bind (CmpOf.ints_lt (prog := X.prog) (w := X.w) (A := A.in1) (P := fun i v => ∃ t, v = .int (kf i) t) kf (fun i v h => h) (j + 1) i _ _ _ _ _ ⟨t2, rfl⟩ ⟨t, rfl⟩ ?_))))
    refine wpAny_bind (wpAny_holding (wpAny_truthy_bool (wpAny_bind (wpAny_letGo (wpAny_pure ?_)))))
    obtain ⟨hi, hb⟩ := best
    by_cases less : kf (j + 1) < kf i
    · simp only [less, decide_true, if_true]
      obtain ⟨c2, st2⟩ := M2.st
      refine wpAny_bind (wpAny_updateSeq st2 rfl (wpAny_bind (wpAny_letGo ?_)))
      rw [nameLoop]
      refine wpAny_pure ⟨plainId_quiet PySem.F.plain_min_loop _, ih (j + 1) (j + 1) _ v1 u1 t2 (by omega) hlt (M2.put hIS) hv1 ru1 (Nat.le_refl _) ⟨by omega, fun j' hj' => ?_⟩⟩
      by_cases e : j' = j + 1
      · rw [e]; exact ⟨Int.le_refl _, fun h => absurd h (Nat.lt_irrefl _)⟩
      · have := (hb j' (by omega)).1
        exact ⟨by omega, fun _ => by omega⟩
    · simp only [less, decide_false, Bool.false_eq_true, if_false]
      refine wpAny_bind (wpAny_letGo ?_)
      rw [nameLoop]
      refine wpAny_pure ⟨plainId_quiet PySem.F.plain_min_loop _, ih (j + 1) i _ v u t (by omega) hlt M2 hv ru (by omega) ⟨by omega, fun j' hj' => ?_⟩⟩
      by_cases e : j' = j + 1
      · rw [e]; exact ⟨by omega, fun h => by omega⟩
      · exact hb j' (by omega)
theorem call_minD {A : Around} {Q : Value → Shared → Prop} {E : Value → Shared → Prop} {H' : Hp} (hh : A.handled = none) (J : Inv X (pins ++ [(f, fo)]) σ H' s) (ok : Okk X.K τ H0 o0 σ H' δ o) (hc : H' c' = some (CodeO c' q)) (hl : H' l = some (.lst vs)) (rs : Rs X.K τ H' o vs ds) (hne : 0 < ds.length)
    (key : ∀ I S, I ≠ S → KeyOk X τ pins σ H0 H' o0 o δ ds vs l f c' I S fo q kf A.in1)
    (hQ : ∀ i v u s', vs[i]? = some v → RelV v u → FirstMin kf ds.length i → MinEnd X τ pins σ H0 H' o0 o δ ds vs s' → Q u s') :
    wpAny (model X.prog X.w) A (call (.builtin "min") [.ref l] [(Str.ofString "key", .ref f)]) Q E s := by
  obtain ⟨its, rv, p, hz⟩ := J.list (.inl (.inl hl) : SqL X.K H' l vs)
  refine kmk_tree PySem.F.kind_min PySem.F.plain_min PySem.F.entry_min (kmk_min_key _ _) ?_
  show wpAny _ A.in1 (Builtin.Builtins.bindParams "min" ["key", "default"] 0 ⟨[], [(Str.ofString "key", .ref f)]⟩ >>= _) _ _ s
  refine wpAny_bind (wpAny_of_eq (show Builtin.Builtins.bindParams "min" ["key", "default"] 0 ⟨[], [(Str.ofString "key", .ref f)]⟩ = pure [some (.ref f), none] from rfl) ?_)
  refine wpAny_bind (wpAny_pure (wpAny_bind (wpAny_pyIter_list p.isList (wpAny_bind (wpAny_newList ?_ (Nat.zero_le _))))))
  rw [nameLoop]
  refine wpAny_pure ⟨plainId_quiet PySem.F.plain_min_loop _, ?_⟩
  have h1 : (s.heap.push { cls := .type "list_iterator", data := .fields #[.ref l, .int 0 0] }).objs.size = s.heap.objs.size + 1 := size_push' ..
  have hIS : s.heap.objs.size ≠ (s.heap.push { cls := .type "list_iterator", data := .fields #[.ref l, .int 0 0] }).objs.size := by rw [h1]; omega
  have kp : ∀ b u, s.heap.get? b = some u → ((s.heap.push { cls := .type "list_iterator", data := .fields #[.ref l, .int 0 0] }).push (seqObj "list" #[] 0)).get? b = some u := fun b u e => Heap.get?_push_of_some _ (Heap.get?_push_of_some _ e)
  have M0 : MinSt X τ pins σ H0 H' o0 o δ ds vs l f c' s.heap.objs.size (s.heap.push { cls := .type "list_iterator", data := .fields #[.ref l, .int 0 0] }).objs.size fo q 0 #[] { s with heap := (s.heap.push { cls := .type "list_iterator", data := .fields #[.ref l, .int 0 0] }).push (seqObj "list" #[] 0) } := by
    refine ⟨⟨H', J.kept (t' := s.toks) kp, ok, Le.refl, hc, hl, rs, fun b hb => J.fpOk ?_ (J.hok.fresh ?_)⟩, ⟨_, Heap.get?_push_of_some _ (Heap.get?_push_size _ rfl), rfl, rfl⟩, ⟨0, Heap.get?_push_size _ rfl⟩⟩ <;>
    · rcases List.mem_cons.mp hb with e | hb
      · rw [e]; exact Nat.le_refl _
      · rw [List.mem_singleton.mp hb, h1]; exact Nat.le_succ _
  refine codeAny_builtin PySem.F.entry_min_loop ?_
  rw [Around.under_plainId PySem.F.plain_min_loop _]
  show wpAny _ A.in1 (seqItems? (.ref _) >>= _) _ _ _
  obtain ⟨c, st⟩ := M0.st
  refine wpAny_bind (wpAny_seqItems st rfl ?_)
  show wpAny _ A.in1 (tryCatch (pyNext (.ref s.heap.objs.size)) _ >>= _) _ _ _
  refine wpAny_bind (wpAny_tryCatch (wpAny_mono (M0.next hIS hne) (fun r s1 ⟨u1, v1, er, hv1, ru1, M1⟩ => ?_) fun _ _ h => h))
  subst er
  show wpAny _ A.in1 (tryCatch (holding [u1] (call (.ref f) [u1])) _ >>= _) _ _ _
  refine wpAny_bind (wpAny_tryCatch (wpAny_holding (wpAny_mono (key _ _ hIS 1 0 _ s1 v1 u1 _ M1 hv1 ru1) (fun x s2 ⟨t2, ex, M2⟩ => ?_) fun _ _ h => h)))
  subst ex
  obtain ⟨c2, st2⟩ := M2.st
  show wpAny _ A.in1 (updateSeq _ (fun _ => #[u1, .int (kf 0) t2]) >>= _) _ _ _
  refine wpAny_bind (wpAny_updateSeq st2 rfl ?_)
  rw [nameLoop]
  exact wpAny_pure ⟨plainId_quiet PySem.F.plain_min_loop _, min_loopD hh hIS (key _ _ hIS) hQ _ 0 0 _ v1 u1 t2 rfl hne (M2.put hIS) hv1 ru1 (Nat.le_refl _) ⟨by omega, fun j hj => by
    have e : j = 0 := by omega
    subst e
    exact ⟨Int.le_refl _, fun h => absurd h (Nat.lt_irrefl _)⟩⟩⟩
end
end DL
set_option Elab.async false
set_option linter.all false
set_option maxRecDepth 100000
set_option maxHeartbeats 2000000
/-! DL42: min(xs, key=lambda x: ..) over data; its reading; defs with a table of code objects. -/
namespace DL
open PySem PySem.Spec PyProof.Rows L2 LamX
section
variable {X : Cx} {τ : Tx} {k : Nat} {Ξ : DX → Δ → O → Prop}
/-- the ground within a lambda: nothing is raised there -/
def Gm.lam {k' : Nat} (Γ : Gm X τ k Ξ) (A : Around) (s : Shared) (H : Hp) (scope : Scope) (f c' : Addr) (hr : Room k' (A.deeper (lamEnv X scope s.heap.objs.size f c'))) : Gm (lamCxN X A X.stack s H (fun _ _ _ => False) scope f c') τ k' (fun _ _ _ => False) where
  H0 := Γ.H0
  o0 := Γ.o0
  W := fun _ _ _ _ => False
  tk := takes0N
  po := passes_of (X := lamCxN X A X.stack s H (fun _ _ _ => False) scope f c') (K := fun e s'' => L2N.CX X.prog X.w X.stack H s (fun _ _ _ => False) e s'') (E₁ := fun e' s'' => L2N.CX X.prog X.w X.stack H s (fun _ _ _ => False) e' s'') rfl
  hW := fun _ _ _ _ _ _ _ _ _ h => h
  rm := fun _ => hr
  un := hr.un
  nd := Γ.nd
theorem upd_swap {H : Hp} {a b : Addr} {x y : HO} (h : a ≠ b) : upd (upd H a x) b y = upd (upd H b y) a x := by
  funext c
  by_cases h1 : c = a
  · subst h1; rw [upd_ne h, upd_same, upd_same]
  · by_cases h2 : c = b
    · subst h2; rw [upd_same, upd_ne h1, upd_same]
    · rw [upd_ne h2, upd_ne h1, upd_ne h1, upd_ne h2]
theorem own_made {K : PySem.W.Frag} {H H1 : Hp} {o : O} {P c' : Addr} {q : Str} (w : Own K τ H o) (hP : o P = some (.tbl q)) (m : MadeL H P c' q H1) : Own K τ H1 o ∧ Le H o H1 o ∧ o c' = none := by
  obtain ⟨ps0, h0, t0, a0⟩ := w P _ hP
  rcases m with ⟨e, ps, pos, h1, h2⟩ | ⟨hc, ps, pos, h1, ht, e⟩
  · subst e
    rw [h0] at h1
    cases h1
    obtain ⟨c, e1, _, e3⟩ := a0 pos _ h2
    cases e1
    exact ⟨w, Le.refl, e3⟩
  · rw [h0] at h1
    cases h1
    have nPc : P ≠ c' := ne_of_none h0 hc
    have w1 : Own K τ (upd H c' (CodeO c' q)) o := own_new w hc
    have l1 : Le H o (upd H c' (CodeO c' q)) o := Le.new hc
    have oc := w.free hc
    have l2 : Le (upd H c' (CodeO c' q)) o (upd (upd H c' (CodeO c' q)) P (.tbl (ps0 ++ #[rawInt pos.line, rawInt pos.col, .ref c']))) (updO o P (.tbl q)) := Le.write hP
    have w2 := w1.write (u := .tbl (ps0 ++ #[rawInt pos.line, rawInt pos.col, .ref c'])) (y := .tbl q) hP ⟨_, upd_same, ht, fun p' cv hcv => by
      rw [show (ps0 ++ #[rawInt pos.line, rawInt pos.col, .ref c']).toList = ps0.toList ++ [rawInt pos.line, rawInt pos.col, .ref c'] by simp] at hcv
      rw [updO_self hP]
      rcases among_app _ t0 hcv with z | z
      · obtain ⟨c, e1, e2, e3⟩ := a0 p' cv z
        refine ⟨c, e1, ?_, e3⟩
        have n1 : c ≠ P := fun z => by rw [z, hP] at e3; cases e3
        rw [upd_ne n1, upd_ne (ne_of_none e2 hc)]
        exact e2
      · exact ⟨c', z, by rw [upd_ne (fun z => nPc z.symm), upd_same], oc⟩⟩
    rw [updO_self hP] at w2 l2
    rw [e, upd_swap nPc]
    exact ⟨w2, l1.trans l2, oc⟩
/-- what min by a key gives: the first of the least -/
def minKS (P : Addr) (q : Str) (key : D → O → (D → O → Prop) → Prop) (d : D) (o : O) (Φ : D → O → Prop) : Prop :=
  ∃ ds, d = .lst ds ∧ 0 < ds.length ∧ o P = some (.tbl q) ∧ ∃ kf : Nat → Int, (∀ i d, ds[i]? = some d → key d o fun r o2 => r = .int (kf i) ∧ o2 = o) ∧ ∀ i d, ds[i]? = some d → FirstMin kf ds.length i → Φ d o
theorem we_minKey [Calm X] {Γ : Gm X τ (k + 2) Ξ} {j : Nat} {e body : Expr} {a : Str} {params : Arguments} {scope : Scope} {δ : Δ} {o : O} {Φ : D → O → Prop} {c P : Addr} {p lp kp pos : Pos} {key : Δ → O → (D → O → Prop) → Prop} (hml : X.mg "min" = none) (TB : TabB X.base X.mg c P) (hcode : X.env.code = .ref c) (L : Lam1 X.env.scope scope a)
    (hbody : ∀ (f c' : Addr) (s : Shared) (H : Hp) (hr : Room k (X.A.in1.deeper (lamEnv X scope s.heap.objs.size f c'))) δ o Φ, key δ o Φ → WE (Γ.lam X.A.in1 s H scope f c' hr) body δ o Φ)
    (h : WE Γ e δ o fun d o1 => minKS P (X.env.qual ++ "<lambda>") (fun d o => key (δ.set j (some d)) o) d o1 Φ)
    (hbind : ∀ (q : Str) (cl : List (Str × Addr)) (pm cv ctv u : Value), bindArgs (PySem.W.kla_fn "<lambda>" q params body scope cl pm cv ctv) ⟨[u], []⟩ = pure [(a, u)])
    (hj : X.N[j]? = some a := by rfl) (hdef : defaultsOf params X.env = ([], []) := by rfl) (hgl : Gl X "min" := by rfl) (hc : X.calm = true := by rfl)
    (he : backTo pos (starEach [e] X.env) = (false, eval e X.env) :: backTo pos (starEach [] X.env) := by rfl) (hpl : (backTo pos (starEach [e] X.env)).any (·.1) = false := by rfl) :
    WE Γ (.Call (.Name "min" p) [e] [⟨some "key", .Lambda params body scope lp, kp⟩] pos) δ o Φ := fun σ H ok => by
  intro pins s I
  refine wpAny_Call_Name_kw (ld_blt I hgl hml (u := .builtin "min") (by first | rfl | decide +kernel) ?_ (by first | decide +kernel | decide) (by first | decide +kernel | decide))
  refine PyProof.Rows.callWith_kw ?_ he hpl
  rw [he]
  refine Calls.spliced_cons (wpAny_mono (h σ H ok pins s I) (fun ul s1 ⟨vl, H1, I1, rl, d, o1, w1, l1, r1, ds, ed, hne, hP, kf, hk, hΦ⟩ => ?_) fun _ _ h => h)
  refine Calls.spliced_nil ?_
  subst ed
  obtain ⟨ps0, h0, t0, a0⟩ := w1 P _ hP
  refine kws_cons (lam_make3 I1 TB hcode ⟨ps0, h0, t0, fun pos cv z => let ⟨c, e1, e2, _⟩ := a0 pos cv z; ⟨c, e1, e2⟩⟩ hdef (L.has I1.ok) fun f c' pm ctv H2 s2 I2 md hco hf hfn hfr => ?_)
  refine kws_nil ?_
  obtain ⟨w2, l2, oc⟩ := own_made w1 hP md
  have r2 := r1.mono l2
  cases r2 with
  | @lst la vs _ hl ol rs =>
  obtain rfl : ul = Value.ref la := rl
  have hst : f ≠ X.env.locals ∧ f ∉ X.fs := by
    refine ⟨fun z => ?_, fun z => ?_⟩
    · obtain ⟨m, ⟨ob, es, ep, e1, e2, _⟩, _⟩ := I2.loc
      rw [← z, hf] at e1
      cases e1
      cases e2
    · rcases I2.ok.stk with e | ⟨e, hf'⟩
      · exact hfr (by rw [e]; exact z)
      · exact hfr (by rw [e]; unfold frs; rw [List.filterMap_cons, hf']; exact List.mem_cons_of_mem _ z)
  have J : Inv X (pins ++ [(f, PySem.W.kla_obj "<lambda>" (X.env.qual ++ "<lambda>") params body scope (cloFrom X.env.cells scope.names []) pm c' ctv)]) σ H2 s2 := I2.pins_of fun q hq => by
    rcases List.mem_append.mp hq with hq | hq
    · exact I2.pin q (List.mem_append_right _ hq)
    · rw [List.mem_singleton.mp hq]
      exact ⟨hf, hfn, hst.1, hst.2, fun v z => by cases z⟩
  have okk : Okk X.K τ Γ.H0 Γ.o0 σ H2 δ o1 := (ok.step l1 w1).step l2 w2
  have ri : Room (k + 1) X.A.in1 := Γ.room.in1
  show wpAny _ X.A (call (.builtin "min") [.ref la] [(Str.ofString "key", .ref f)]) _ _ _
  refine call_minD (kf := kf) (I2.ok.hd hc) J okk hco hl rs hne (fun I S hIS => ?_) fun i v u s' hv rv fm ⟨H3, J3, ok3, le3, rs3⟩ => ?_
  · intro n i items s3 v u E3 M hv rv
    refine M.key (k := k) L rfl oc ol hbind I2.ok.frames hj Γ.nd ri hv rv fun d hd H4 s4 ok4 rd hr4 => ?_
    exact cE_mono (hbody f c' s4 H4 hr4 _ _ _ (hk i d hd) (σ.set j (some v)) H4 (ok4.set j rd)) fun r H5 ⟨d5, o5, w5, l5, r5, e5, e6⟩ => by
      subst e5 e6
      exact ⟨r5.int_, w5, l5⟩
  · obtain ⟨d, hd, rd⟩ := rs3.of_get hv
    exact ⟨v, H3, J3, rv, d, o1, ok3.own, l1.trans (l2.trans le3), rd, hΦ i d hd fm⟩
/-- a def whose code object is at c -/
structure FunC (K : PySem.W.Frag) (x qual : Str) (st : Stmt) (f : Addr) (fd : FuncData) (c : Addr) : Prop where
  ex : ∃ (oc : Value) (od : Option Addr) (kV doc pm : Value) (an : Option Addr) (ct : Value) (osl : Array (Option Value)),
    fd = PySem.W.fnOf x qual (defArgs st) (defBody st) (defScope st) .none kV doc pm an (.ref c) ct ∧ K.lookup f = some ⟨oc, od, .func fd, osl⟩ ∧ PySem.W.codeIn K (.ref c) qual = true
  kp : PySem.W.keepIn K (.ref f) = true
theorem FunC.fn {K : PySem.W.Frag} {x qual : Str} {st : Stmt} {f : Addr} {fd : FuncData} {c : Addr} (F : FunC K x qual st f fd c) : Fun K x qual st f fd :=
  let ⟨oc, od, kV, doc, pm, an, ct, osl, h1, h2, h3⟩ := F.ex
  ⟨⟨oc, od, kV, doc, pm, an, .ref c, ct, osl, h1, h2, h3⟩, F.kp⟩
section
variable {P : Program} {w : World} {K : PySem.W.Frag} {mg : Str → Option Value} {base : Heap}
/-- THE RULE for a def, its code object known -/
theorem fnDC {x qual : Str} {st : Stmt} {f c : Addr} {fd : FuncData} {N ps : List Str} {k : Nat} {S : DSp} (F : FunC K x qual st f fd c) (sc : FnScope N ps (defScope st))
    (body : ∀ (A : Around) (outer : List Env) (s : Shared) (H : Hp) (E : XK) (Ξ : DX → O → Prop) (Γ : Gm (cxOf (L2N.CX P w) P w K mg base N qual (defScope st) f (.ref c) A outer s H E) τ k fun x _ o' => Ξ x o') (ds : List D) (o : O) (Φ : D → O → Prop),
      ds.length = ps.length → S ds o Φ Ξ → WSs Γ (defBody st) (ds.map some ++ List.replicate (N.length - ds.length) none) o { nx := fun _ o' => Φ .non o', rt := Φ }) : FnOk P w K mg base (L2N.CX P w) (k + 1) f fd ps (spD K τ ps.length S) := by
  obtain ⟨oc, od, kV, doc, pm, an, ct, osl, rfl, lk, hcd⟩ := F.ex
  refine fn_of lk hcd sc (fun vs H Q E h => spD_len vs H Q E h) fun A outer s H vs Q E hr h => ?_
  obtain ⟨ds, o, Φ, Ξ, r, ow, hl, hS, hQ, hE⟩ := h
  refine ⟨cSs _ _, pss_c, ?_⟩
  have hn : (L2.start N vs).length = (ds.map some ++ List.replicate (N.length - ds.length) none).length := by
    unfold L2.start
    simp only [List.length_append, List.length_map, List.length_replicate, r.length]
  have z := body A outer s H E Ξ { H0 := H, o0 := o, W := fun cls d _ H' => E cls d H', tk := L2N.takes_of rfl rfl rfl rfl, po := passes_of rfl, rm := fun _ => hr, un := hr.un, nd := sc.nd, hW := fun cls d σ H' x δ o' ok rx hx => hE cls d H' x o' ok.own ok.le rx hx } ds o Φ hl hS (L2.start N vs) H ⟨Le.refl, ow, hn, fun i d h => r.start N i d h⟩
  refine cSs_mono z (fun σ H' ⟨δ, o', ok, _, h⟩ => hQ _ _ ⟨.non, o', ok.own, ok.le, .non, h⟩) (fun v H' ⟨d, o', l, ow', rv, h⟩ => hQ _ _ ⟨d, o', ow', l, rv, h⟩) (fun _ _ ⟨_, _, _, _, h⟩ => h.elim) (fun _ _ ⟨_, _, _, _, h⟩ => h.elim)
end
end
end DL
set_option Elab.async false
set_option linter.all false
set_option maxRecDepth 100000
set_option maxHeartbeats 2000000
/-! DL43: readings of generators, of list(a generator), of min by a key; defs whose code object is known. -/
namespace RD
open PySem PySem.Spec PyProof.Rows L2 DL LamX
section
variable {X : Cx} {τ : Tx} {k j n : Nat} {e a iter : Expr} {es : List Expr} {tg : Expr} {pos p yp : Pos} {ta : RE} {tas : RA} {st : Stmt} {sts body : List Stmt} {ts : RS} {g : RG}
/-! ### generators -/
abbrev RGn := List D → Δ → O → DGE → Prop
structure TrGn (X : Cx) (τ : Tx) (k : Nat) (st : Stmt) (t : RGn) : Prop where
  h : ∀ (Γ : Gm X τ k XN) yd δ o E, t yd δ o E → WGn Γ st yd δ o E
structure TrGns (X : Cx) (τ : Tx) (k : Nat) (st : List Stmt) (t : RGn) : Prop where
  h : ∀ (Γ : Gm X τ k XN) yd δ o E, t yd δ o E → WGns Γ st yd δ o E
def gPl (t : RS) : RGn := fun yd δ o E => t XN δ o { nx := E.nx yd, rt := fun _ _ => False, bk := E.bk yd, ct := E.ct yd }
def gYl (t : RE) : RGn := fun yd δ o E => yd.length < sizeLine ∧ t XN δ o fun d o1 => E.nx (yd ++ [d]) δ o1
def gNl : RGn := fun yd δ o E => E.nx yd δ o
def gCn (a b : RGn) : RGn := fun yd δ o E => a yd δ o { E with nx := fun yd1 δ1 o1 => force δ1 fun δ1 => b yd1 δ1 o1 E }
variable {t t1 t2 tb : RGn}
theorem gt_pl (h : TrS X τ k st ts) : TrGn X τ k st (gPl ts) := ⟨fun Γ yd δ o E q => wgn_plain (h.h _ Γ _ _ _ q)⟩
theorem gt_yl (h : TrE X τ k e ta) (hco : X.env.scope.isCoroutine = false := by rfl) (hi : interactive X.env = false := by rfl) : TrGn X τ k (.Expr (.Yield (some e) yp) pos) (gYl ta) := ⟨fun Γ yd δ o E q => wgn_yield q.1 (h.h _ Γ _ _ _ q.2) hco hi⟩
theorem gt_nil : TrGns X τ k [] gNl := ⟨fun Γ yd δ o E q => wgns_nil q⟩
theorem WGn.imp {Γ : Gm X τ k XN} {yd : List D} {δ : Δ} {o : O} {E E' : DGE} (h : WGn Γ st yd δ o E) (kn : ∀ yd δ o, E.nx yd δ o → E'.nx yd δ o) (kb : ∀ yd δ o, E.bk yd δ o → E'.bk yd δ o) (kc : ∀ yd δ o, E.ct yd δ o → E'.ct yd δ o) : WGn Γ st yd δ o E' := fun ys σ H ok r =>
  cGn_mono (h ys σ H ok r) (fun _ _ _ ⟨yd, δ, o, a, b, c, q⟩ => ⟨yd, δ, o, a, b, c, kn _ _ _ q⟩) (fun _ _ _ q => q) (fun _ _ _ ⟨yd, δ, o, a, b, c, q⟩ => ⟨yd, δ, o, a, b, c, kb _ _ _ q⟩) (fun _ _ _ ⟨yd, δ, o, a, b, c, q⟩ => ⟨yd, δ, o, a, b, c, kc _ _ _ q⟩)
theorem WGns.imp {Γ : Gm X τ k XN} {yd : List D} {δ : Δ} {o : O} {E E' : DGE} (h : WGns Γ sts yd δ o E) (kn : ∀ yd δ o, E.nx yd δ o → E'.nx yd δ o) (kb : ∀ yd δ o, E.bk yd δ o → E'.bk yd δ o) (kc : ∀ yd δ o, E.ct yd δ o → E'.ct yd δ o) : WGns Γ sts yd δ o E' := fun ys σ H ok r =>
  cGns_mono (h ys σ H ok r) (fun _ _ _ ⟨yd, δ, o, a, b, c, q⟩ => ⟨yd, δ, o, a, b, c, kn _ _ _ q⟩) (fun _ _ _ q => q) (fun _ _ _ ⟨yd, δ, o, a, b, c, q⟩ => ⟨yd, δ, o, a, b, c, kb _ _ _ q⟩) (fun _ _ _ ⟨yd, δ, o, a, b, c, q⟩ => ⟨yd, δ, o, a, b, c, kc _ _ _ q⟩)
theorem gt_cons (h1 : TrGn X τ k st t1) (h2 : TrGns X τ k sts t2) : TrGns X τ k (st :: sts) (gCn t1 t2) := ⟨fun Γ yd δ o E q => wgns_cons (WGn.imp (h1.h Γ _ _ _ _ q) (fun _ _ _ q => h2.h Γ _ _ _ _ (force_out q)) (fun _ _ _ q => q) fun _ _ _ q => q)⟩
/-- a loop in a generator: I tells what is out, too -/
@[irreducible] def GFOR (ms cs : List Nat) (g : RG) (body : RGn) (ds yd : List D) (δ : Δ) (o : O) (E : DGE) : Prop :=
  ∃ I : Nat → List D → List (Option D) → O → Prop, I 0 yd (pick δ cs) o ∧
    (∀ m d yd' cv o', ds[m]? = some d → I m yd' cv o' → force (putBack (swipe δ ms) cs cv) fun δw => g d δw o' fun δ1 o1 => body yd' δ1 o1
      { nx := fun yd2 δ2 o2 => swipe δ2 ms = swipe δ ms ∧ I (m + 1) yd2 (pick δ2 cs) o2, bk := E.nx, ct := fun yd2 δ2 o2 => swipe δ2 ms = swipe δ ms ∧ I (m + 1) yd2 (pick δ2 cs) o2 }) ∧
    ∀ yd' cv o', I ds.length yd' cv o' → force (putBack (swipe δ ms) cs cv) fun δw => E.nx yd' δw o'
theorem gfor_by {ms cs : List Nat} {ds yd : List D} {δ : Δ} {o : O} {E : DGE} (I : Nat → List D → List (Option D) → O → Prop) (h0 : I 0 yd (pick δ cs) o)
    (hs : ∀ m d yd' cv o', ds[m]? = some d → I m yd' cv o' → force (putBack (swipe δ ms) cs cv) fun δw => g d δw o' fun δ1 o1 => tb yd' δ1 o1
      { nx := fun yd2 δ2 o2 => swipe δ2 ms = swipe δ ms ∧ I (m + 1) yd2 (pick δ2 cs) o2, bk := E.nx, ct := fun yd2 δ2 o2 => swipe δ2 ms = swipe δ ms ∧ I (m + 1) yd2 (pick δ2 cs) o2 })
    (hd : ∀ yd' cv o', I ds.length yd' cv o' → force (putBack (swipe δ ms) cs cv) fun δw => E.nx yd' δw o') : GFOR ms cs g tb ds yd δ o E := by
  unfold GFOR
  exact ⟨I, h0, hs, hd⟩
theorem WGn.wk {Γ : Gm X τ k XN} {yd : List D} {δ : Δ} {o : O} {E : DGE} (h : WGn Γ st yd δ o { E with nx := fun yd => Wk (E.nx yd) }) : WGn Γ st yd δ o E := fun ys σ H ok r =>
  cGn_mono (h ys σ H ok r) (fun _ _ _ ⟨yd, _, o, a, b, c, δw, s, q⟩ => ⟨yd, δw, o, s.ok a, b, c, q⟩) (fun _ _ _ q => q) (fun _ _ _ q => q) fun _ _ _ q => q
theorem forGD_inv {Γ : Gm X τ k XN} {E : DGE} {ds : List D} (I : Nat → List D → Δ → O → Prop)
    (hs : ∀ m d yd' δ' o', ds[m]? = some d → I m yd' δ' o' → WG Γ tg d δ' o' fun δ1 o1 => WGns Γ body yd' δ1 o1 { nx := I (m + 1), bk := E.nx, ct := I (m + 1) })
    (hd : ∀ yd' δ' o', I ds.length yd' δ' o' → E.nx yd' δ' o') : ∀ (r m : Nat) (yd : List D) (δ : Δ) (o : O), ds.length - m = r → m ≤ ds.length → I m yd δ o → forGD Γ tg body E (ds.drop m) yd δ o := by
  intro r
  induction r with
  | zero =>
    intro m yd δ o hr hm h
    obtain rfl : m = ds.length := by omega
    rw [List.drop_length]
    exact hd _ _ _ h
  | succ r ih =>
    intro m yd δ o hr hm h
    have hlt : m < ds.length := by omega
    rw [List.drop_eq_getElem_cons hlt]
    exact WG.mono (hs m _ yd δ o (List.getElem?_eq_getElem hlt) h) fun δ1 o1 h1 => WGns.imp h1 (fun yd2 δ2 o2 q => ih (m + 1) yd2 δ2 o2 (by omega) hlt q) (fun _ _ _ q => q) (fun yd2 δ2 o2 q => ih (m + 1) yd2 δ2 o2 (by omega) hlt q)
theorem forGD_of {Γ : Gm X τ k XN} {ms cs : List Nat} {ds yd : List D} {δ : Δ} {o : O} {E : DGE} (hg : TrG X τ k tg g) (hb : TrGns X τ k body tb) (h : GFOR ms cs g tb ds yd δ o E) : forGD Γ tg body { E with nx := fun yd => Wk (E.nx yd) } ds yd δ o := by
  unfold GFOR at h
  obtain ⟨I, h0, hs, hd⟩ := h
  refine forGD_inv (E := { E with nx := fun yd => Wk (E.nx yd) }) (ds := ds) (fun m yd' δ' o' => swipe δ' ms = swipe δ ms ∧ I m yd' (pick δ' cs) o') (fun m d yd' δ' o' e ⟨hw, hI⟩ => ?_) (fun yd' δ' o' ⟨hw, hI⟩ => ⟨_, Sub.loop hw, force_out (hd _ _ _ hI)⟩) ds.length 0 yd δ o rfl (Nat.zero_le _) ⟨rfl, h0⟩
  refine RD.WG.weak (Sub.loop hw) (WG.mono (hg.h _ Γ _ _ _ _ (force_out (hs m d yd' _ o' e hI))) fun δ1 o1 h1 => ?_)
  exact WGns.imp (hb.h Γ _ _ _ _ h1) (fun _ _ _ q => q) (fun _ _ _ q => ⟨_, .refl, q⟩) (fun _ _ _ q => q)
theorem wi_range1 {Γ : Gm X τ k XN} {δ : Δ} {o : O} {Ψ : List D → O → Prop} {rp cpos : Pos} (hm : X.mg "range" = none) (h : WA Γ [a] δ o fun ds o1 => ∃ i : Int, ds = [.int i] ∧ (-(2 ^ 62) ≤ i ∧ i < 2 ^ 62) ∧ Ψ (rangeD 0 i.toNat) o1) (hg : Gl X "range" := by rfl)
    (hst : starEach [a] X.env = [(false, eval a X.env)] := by rfl) : WI Γ tg (.Call (.Name "range" rp) [a] [] cpos) δ o Ψ := fun σ H ok R hR =>
  ⟨_, pi_range1 hg hm pa_c hst, cA_mono (h σ H ok) fun vs H1 ⟨ds, o1, w, l, rs, i, e1, q1, q⟩ => by
    subst e1
    cases rs with
    | cons r rs =>
      cases rs
      cases r
      exact ⟨i, rfl, q1.1, q1.2, hR _ _ _ _ w l it_range q⟩⟩
def gForR1 (ms cs : List Nat) (g : RG) (a : RA) (body : RGn) : RGn := fun yd δ o E => a XN δ o fun ds o1 => rng1 ds fun ds => GFOR ms cs g body ds yd δ o1 E
theorem gt_forR1 {rp cp : Pos} (ms cs : List Nat) (hm : GloN X.mg "range") (h : TrA X τ k [a] tas) (hg' : TrG X τ k tg g) (hb : TrGns X τ k body tb) (hg : Gl X "range" := by rfl) (hc : X.calm = true := by rfl)
    (hst : starEach [a] X.env = [(false, eval a X.env)] := by rfl) (hs : ∀ x, foldedSetIterable (.Call (.Name "range" rp) [a] [] cp) X.env x = pure x := by intro _; rfl) : TrGn X τ k (.For tg (.Call (.Name "range" rp) [a] [] cp) body [] pos) (gForR1 ms cs g tas tb) := ⟨fun Γ yd δ o E q =>
  WGn.wk (wgn_for (wi_range1 hm ((h.h _ Γ _ _ _ q).mono fun ds o1 ⟨_, q⟩ => by
    unfold rng1 at q
    split at q
    · exact ⟨_, rfl, q.1, forGD_of hg' hb q.2⟩
    · exact q.elim) hg hst) hc hs)⟩
def GBODY (nn : Nat) (t : RGn) (S : GSp) : Prop := ∀ (ds : List D) (o : O) (Φ : List D → O → Prop), S ds o Φ → force (ds.map some ++ List.replicate (nn - ds.length) none) fun δ => t [] δ o { nx := fun yd _ o' => Φ yd o' }
@[irreducible] def GCALL (S : GSp) (ds : List D) (o : O) (Φ : List D → O → Prop) : Prop := S ds o Φ
theorem gcall {S : GSp} {ds : List D} {o : O} {Φ : List D → O → Prop} (h : S ds o Φ) : GCALL S ds o Φ := by unfold GCALL; exact h
def rListG (S : GSp) (t : RA) : RE := fun Ξ δ o Φ => t Ξ δ o fun ds o1 => GCALL S ds o1 fun yd o2 => Φ (.lst yd) o2
theorem t_listG [Calm X] {S : GSp} {x : Str} {p2 pos2 : Pos} (hml : GloN X.mg "list") (F : GenD X.prog X.w X.K X.mg X.base τ x j n S) (h : TrA X τ k (e :: es) tas) (hn : (e :: es).length = n := by rfl) (hj : j + 3 ≤ k := by decide) (hg : Gl X x := by rfl) (hgl : Gl X "list" := by rfl) (hdb : (x == ("__debug__" : Str)) = false := by decide)
    (he : starEach (e :: es) X.env = (false, eval e X.env) :: starEach es X.env := by rfl) (hpl : (backTo pos2 (starEach es X.env)).any (·.1) = false := by rfl)
    (he2 : starEach [.Call (.Name x p2) (e :: es) [] pos2] X.env = (false, eval (.Call (.Name x p2) (e :: es) [] pos2) X.env) :: starEach [] X.env := by rfl) :
    TrE X τ k (.Call (.Name "list" p) [.Call (.Name x p2) (e :: es) [] pos2] [] pos) (rListG S tas) := .mk fun Ξ Γ δ o Φ q =>
  we_listG F hml ((h.h _ Γ _ _ _ q).mono fun ds o1 ⟨hl, q⟩ => ⟨hl.trans hn, by unfold GCALL at q; exact q⟩) hj hg hgl hdb he hpl he2
/-! ### min by a key -/
def TrLam (X : Cx) (τ : Tx) (k : Nat) (scope : Scope) (e : Expr) (t : RE) : Prop := ∀ f c' s H, TrE (lamCxN X X.A.in1 X.stack s H (fun _ _ _ => False) scope f c') τ k e t
@[irreducible] def MINK (P : Addr) (q : Str) (key : D → O → (D → O → Prop) → Prop) (d : D) (o : O) (Φ : D → O → Prop) : Prop := minKS P q key d o Φ
def rMinK (P : Addr) (q : Str) (i : Nat) (key a : RE) : RE := fun Ξ δ o Φ => a Ξ δ o fun d o1 => MINK P q (fun d o2 Ψ => force (sset δ i (some d)) fun δ1 => key XN δ1 o2 Ψ) d o1 Φ
theorem mink {P : Addr} {q : Str} {key : D → O → (D → O → Prop) → Prop} {ds : List D} {o : O} {Φ : D → O → Prop} (kf : Nat → Int) (hne : 0 < ds.length) (hP : o P = some (.tbl q)) (hk : ∀ i d, ds[i]? = some d → key d o fun r o2 => r = .int (kf i) ∧ o2 = o)
    (h : ∀ i d, ds[i]? = some d → FirstMin kf ds.length i → Φ d o) : MINK P q key (.lst ds) o Φ := by
  unfold MINK
  exact ⟨ds, rfl, hne, hP, kf, hk, h⟩
theorem t_minK [Calm X] {c P : Addr} {q : Str} {x : Str} {params : Arguments} {scope : Scope} {body : Expr} {tk : RE} {lp kp : Pos} (i : Nat) (hml : GloN X.mg "min") (TB : TabB X.base X.mg c P) (L : Lam1 X.env.scope scope x) (hk : TrLam X τ k scope body tk) (ha : TrE X τ (k + 2) a ta)
    (hbind : ∀ (q : Str) (cl : List (Str × Addr)) (pm cv ctv u : Value), bindArgs (PySem.W.kla_fn "<lambda>" q params body scope cl pm cv ctv) ⟨[u], []⟩ = pure [(x, u)])
    (hcode : X.env.code = .ref c := by rfl) (hq : X.env.qual ++ "<lambda>" = q := by rfl)
    (hj : X.N[i]? = some x := by rfl) (hdef : defaultsOf params X.env = ([], []) := by rfl) (hgl : Gl X "min" := by rfl) (hc : X.calm = true := by rfl)
    (he : backTo pos (starEach [a] X.env) = (false, eval a X.env) :: backTo pos (starEach [] X.env) := by rfl) (hpl : (backTo pos (starEach [a] X.env)).any (·.1) = false := by rfl) :
    TrE X τ (k + 2) (.Call (.Name "min" p) [a] [⟨some "key", .Lambda params body scope lp, kp⟩] pos) (rMinK P q i tk ta) := .mk fun Ξ Γ δ o Φ hq' =>
  we_minKey (key := fun δ o Ψ => tk XN δ o Ψ) hml TB hcode L (fun f c' s H hr δ o Φ z => (hk f c' s H).h _ _ _ _ _ z) ((ha.h _ Γ _ _ _ hq').mono fun d o1 z => by
    unfold MINK at z
    obtain ⟨ds, e1, h1, h2, kf, h3, h4⟩ := z
    exact ⟨ds, e1, h1, by rw [hq]; exact h2, kf, fun i d e => by
      have z := force_out (h3 i d e)
      rw [sset_eq] at z
      exact z, h4⟩) hbind hj hdef hgl hc he hpl
end
section
variable {P : Program} {w : World} {K : PySem.W.Frag} {mg : Str → Option Value} {base : Heap} {τ : Tx}
theorem gnR {x qual : Str} {st : Stmt} {f : Addr} {fd : FuncData} {N ps : List Str} {k : Nat} {S : GSp} {t : RGn} (F : Fun K x qual st f fd) (sc : GScope N ps (defScope st))
    (tr : ∀ (cdv : Value) (A : Around) (outer : List Env) (s : Shared) (H : Hp) (E : XK) (pn : List (Addr × Obj)), TrGns (gcxOf P w K mg base N qual (defScope st) f cdv A outer s H E pn) τ k (defBody st) t)
    (h : GBODY N.length t S) : GFn P w K mg base (k + 1) f fd ps (spG K τ ps.length S) :=
  gnD F sc fun cdv A outer s H E pn Γ ds o Φ _ hS => (tr cdv A outer s H E pn).h Γ _ _ _ _ (force_out (h ds o Φ hS))
/-- THE RULE for a def with a table of code objects -/
theorem fnRC {x qual : Str} {st : Stmt} {f c : Addr} {fd : FuncData} {N ps : List Str} {k : Nat} {S : DSp} {t : RS} (F : FunC K x qual st f fd c) (sc : FnScope N ps (defScope st))
    (tr : ∀ (A : Around) (outer : List Env) (s : Shared) (H : Hp) (E : XK), TrSs (cxOf (L2N.CX P w) P w K mg base N qual (defScope st) f (.ref c) A outer s H E) τ k (defBody st) t)
    (h : BODY N.length t S) : FnOk P w K mg base (L2N.CX P w) (k + 1) f fd ps (spD K τ ps.length S) :=
  fnDC F sc fun A outer s H E Ξ Γ ds o Φ _ hS => (tr A outer s H E).h _ Γ _ _ _ (force_out (h ds o Φ Ξ hS))
end
end RD
set_option Elab.async false
set_option linter.all false
set_option maxRecDepth 100000
set_option maxHeartbeats 2000000
/-! Wd4: the least winding: what the package tells of it. -/
namespace TC
open PySem PySem.Spec PyProof.Rows L2 DL RD
/-- names in the order of the tape -/
def ordN (ss : Songs) (ns : List Str) : List Str := (ss.map (·.1)).filter fun n => decide (n ∈ ns)
def isAhead (ss : Songs) (p : Int) (n : Str) : Bool := match spanOf 0 ss n with
  | some (_, y) => decide (y ≤ p)
  | none => false
def aheadN (ss : Songs) (p : Int) (rows : List Str) : List Str := rows.filter (isAhead ss p)
def turned (rows ah : List Str) (z : Nat) : List Str := rows.drop ah.length ++ (ah.drop z).reverse ++ ah.take z
def candsN (ss : Songs) (ns : List Str) (p : Int) : List (List Str) :=
  ordN ss ns :: (List.range ((aheadN ss p (ordN ss ns)).length + 1)).map (turned (ordN ss ns) (aheadN ss p (ordN ss ns)))
abbrev lamB : Str := "best_order.<locals>.<lambda>"
def tblB (π : Str → Addr) (o : O) : Prop := o (π "best_order") = some (.tbl lamB)
section
variable (π : Str → Addr) (ε : Excs)
def S_ordered : DSp := fun ds o Φ _ => ∃ ss ns, ds = [.tape ss, .lst (List.map D.str ns)] ∧ OkTape ss ∧ ns.length ≤ 1000 ∧ Φ (.lst ((ordN ss ns).map D.str)) o
def S_cands : GSp := fun ds o Φ => ∃ ss ns p, ds = [.tape ss, .lst (List.map D.str ns), .int p] ∧ OkTape ss ∧ ns.length ≤ 1000 ∧ Φ ((candsN ss ns p).map fun l => .lst (l.map D.str)) o
def S_best : DSp := fun ds o Φ Ξ => ∃ ss ns d, ds = [.tape ss, .lst (List.map D.str ns), d] ∧ OkTape ss ∧ ns.length ≤ 1000 ∧ anyD d = true ∧ (match badName ss 0 [] ns with
  | none => if isIn d 0 (total ss) = true then ∃ p, d = .int p ∧ tblB π o ∧ ∀ l ∈ candsN ss ns p, (∀ m ∈ candsN ss ns p, wound ss p l ≤ wound ss p m) → Φ (.lst (l.map D.str)) o else Ξ ⟨ε.number, []⟩ o
  | some i => Ξ ⟨ε.songs, [("index", .int (i : Nat))]⟩ o)
end
/-! candidates are orders of different songs -/
theorem filter_down {α : Type} {q : α → Bool} : ∀ {l : List α}, l.Pairwise (fun a b => q b = true → q a = true) → l.filter q = l.take (l.filter q).length
  | [], _ => rfl
  | x :: r, h => by
    obtain ⟨h1, h2⟩ := List.pairwise_cons.mp h
    by_cases hx : q x = true
    · rw [List.filter_cons_of_pos hx, List.length_cons, List.take_succ_cons, ← filter_down h2]
    · have e : r.filter q = [] := List.filter_eq_nil_iff.mpr fun y hy z => hx (h1 y hy z)
      rw [List.filter_cons_of_neg hx, e]
      rfl
theorem spans_order : ∀ (b : Int) (ss : Songs), (∀ p ∈ ss, 1 ≤ p.2) → (spans b ss).Pairwise fun p q => p.2.2 ≤ q.2.1
  | b, [], _ => .nil
  | b, (n, l) :: r, h => by
    show ((n, b, b + l) :: spans (b + l) r).Pairwise _
    have hr : ∀ p ∈ r, 1 ≤ p.2 := fun p hp => h p (List.mem_cons_of_mem _ hp)
    refine List.pairwise_cons.mpr ⟨fun q hq => ?_, spans_order _ r hr⟩
    have : ∀ (b : Int) (r : Songs), (∀ p ∈ r, 1 ≤ p.2) → ∀ q ∈ spans b r, b ≤ q.2.1 := fun b r => by
      induction r generalizing b with
      | nil => intro _ q hq; cases hq
      | cons p r ih =>
        intro hr q hq
        rcases List.mem_cons.mp (show q ∈ (p.1, b, b + p.2) :: spans (b + p.2) r from hq) with e | hq
        · rw [e]; exact Int.le_refl _
        · have h1 := ih (b + p.2) (fun p hp => hr p (List.mem_cons_of_mem _ hp)) q hq
          have h2 := hr p (by simp)
          omega
    exact this (b + l) r hr q hq
theorem names_order {ss : Songs} (k : OkTape ss) (p : Int) : (ss.map (·.1)).Pairwise fun a b => isAhead ss p b = true → isAhead ss p a = true := by
  rw [← spans_names 0 ss, List.pairwise_map]
  refine (spans_order 0 ss k.ln).imp_of_mem fun {a b} ha hb h => ?_
  obtain ⟨n, x, y⟩ := a
  obtain ⟨m, x', y'⟩ := b
  have e1 := (spanOf_mem k.nd).mp ha
  have e2 := (spanOf_mem k.nd).mp hb
  have l2 := (spanOf_le e2 k.ln).2.1
  unfold isAhead
  rw [e1, e2]
  intro z
  have z := of_decide_eq_true z
  exact decide_eq_true (by have h : y ≤ x' := h; omega)
theorem ahead_take {ss : Songs} (k : OkTape ss) (ns : List Str) (p : Int) : aheadN ss p (ordN ss ns) = (ordN ss ns).take (aheadN ss p (ordN ss ns)).length :=
  filter_down ((names_order k p).sublist List.filter_sublist)
theorem ordN_perm {ss : Songs} (k : OkTape ss) (ns : List Str) : (ordN ss ns).Nodup ∧ ∀ n, n ∈ ordN ss ns ↔ n ∈ ss.map (·.1) ∧ n ∈ ns := by
  refine ⟨k.nd.sublist List.filter_sublist, fun n => ?_⟩
  unfold ordN
  rw [List.mem_filter, decide_eq_true_iff]
theorem turned_perm {rows ah : List Str} (h : ah = rows.take ah.length) (z : Nat) : (turned rows ah z).Perm rows := by
  unfold turned
  have e : rows = ah ++ rows.drop ah.length := by
    conv => lhs; rw [← List.take_append_drop ah.length rows]
    rw [← h]
  have e2 : (ah.drop z ++ ah.take z).Perm ah := List.perm_append_comm.trans (by rw [List.take_append_drop])
  conv => rhs; rw [e]
  rw [List.append_assoc]
  refine List.perm_append_comm.trans (List.Perm.append_right _ ?_)
  exact (List.Perm.append_right _ (List.reverse_perm _)).trans e2
theorem cands_perm {ss : Songs} (k : OkTape ss) {ns : List Str} {p : Int} {l : List Str} (h : l ∈ candsN ss ns p) : l.Perm (ordN ss ns) := by
  rcases List.mem_cons.mp h with e | h
  · rw [e]
  · obtain ⟨z, _, e⟩ := List.mem_map.mp h
    rw [← e]
    exact turned_perm (ahead_take k ns p) z
theorem cands_ok {ss : Songs} (k : OkTape ss) {ns : List Str} {p : Int} {l : List Str} (h : l ∈ candsN ss ns p) : l.Nodup ∧ (∀ n ∈ l, n ∈ ss.map (·.1)) ∧ l.length ≤ 1000 ∧ badName ss 0 [] l = none := by
  have pm := cands_perm k h
  have o := ordN_perm k ns
  have h1 : l.Nodup := pm.nodup_iff.mpr o.1
  have h2 : ∀ n ∈ l, n ∈ ss.map (·.1) := fun n hn => ((o.2 n).mp (pm.mem_iff.mp hn)).1
  refine ⟨h1, h2, ?_, badName_ok l [] 0 h2 h1⟩
  rw [pm.length_eq]
  have := List.length_filter_le (fun n => decide (n ∈ ns)) (ss.map (·.1))
  rw [List.length_map] at this
  have hs := k.few
  exact Nat.le_trans this (by omega)
end TC
set_option Elab.async false
set_option linter.all false
set_option maxRecDepth 100000
set_option maxHeartbeats 2000000
/-! Wd5 (printed by gen_tp2.py): readings of the package's defs. -/
namespace TC
open PySem PySem.Spec PyProof.Rows L2 DL RD
section
variable (τ : Tx) (ε : Excs) (π : Str → Addr)
/-- slots: 0 tape, 1 names, 2 name; loops carry [] -/
noncomputable def t_ordered : RS := (sRet (rLcT [2] (turnI (gName 2) (tVal (r2 (inStrsS false) (rVar 2) (rVar 1))) (rVar 2)) (rPrpT (S_names) (rVar 0))))
/-- slots: 0 tape, 1 names, 2 start, 3 rows, 4 ahead, 5 behind, 6 size, 7 name; loops carry [('[]', [])] -/
noncomputable def t_candidates : RGn := (gCn (gPl (sSet 3 (rCall (S_ordered) (rACons (rVar 0) (rACons (rVar 1) rANil)))))
  (gCn (gYl (rVar 3))
  (gCn (gPl (sSet 4 (rLcL [7] (turnI (gName 7) (tVal (r2 (ltS fun i j => decide (i ≤ j)) (r2 ixS (rMethT (S_span_of) (rVar 0) (rACons (rVar 7) rANil)) (rC (.int 1))) (rVar 2))) (rVar 7)) (rVar 3))))
  (gCn (gPl (sSet 5 (rSliceL (rVar 3) (rOSome (rFn lenS (rACons (rVar 4) rANil))) rONone)))
  (gCn (gForR1 [6] [] (gName 6) (rACons (r2 addS (rFn lenS (rACons (rVar 4) rANil)) (rC (.int 1))) rANil)
  (gCn (gYl (r2 addS (r2 addS (rVar 5) (rRevL (rSliceL (rVar 4) (rOSome (rVar 6)) rONone))) (rSliceL (rVar 4) rONone (rOSome (rVar 6)))))
  gNl))
  gNl)))))
/-- slots: 0 tape, 1 names, 2 start, 3 order; loops carry [] -/
noncomputable def t_best_order : RS := (sCons (sExpr (rCall (S_check_songs ε) (rACons (rVar 0) (rACons (rVar 1) rANil))))
  (sCons (sExpr (rCall (S_check ε) (rACons (rVar 2) (rACons (rC (.int 0)) (rACons (rTotal (rVar 0)) rANil)))))
  (sRet (rMinK (π "best_order") "best_order.<locals>.<lambda>" 3 (rCall (S_winding ε) (rACons (rVar 0) (rACons (rVar 3) (rACons (rVar 2) rANil)))) (rListG (S_cands) (rACons (rVar 0) (rACons (rVar 1) (rACons (rVar 2) rANil))))))))
end
end TC
set_option Elab.async false
set_option linter.all false
set_option maxRecDepth 100000
set_option maxHeartbeats 2000000
/-! Wd6: winding.py's orders do so. -/
namespace TC
open PySem PySem.Spec PyProof.Rows L2 DL RD
theorem use_wind {ε : Excs} {ss : Songs} {ns : List Str} {p : Int} {o : O} {Φ : D → O → Prop} {Ξ : DX → O → Prop} (k : OkTape ss) (hm : badName ss 0 [] ns = none) (h0 : 0 ≤ p) (h1 : p ≤ total ss) (h : Φ (.int (wound ss p ns)) o) (hl : ns.length ≤ 1000 := by omega) : S_winding ε [.tape ss, .lst (ns.map D.str), .int p] o Φ Ξ :=
  ⟨ss, ns, .int p, rfl, k, hl, rfl, by
    rw [hm]
    show if isIn (.int p) 0 (total ss) = true then _ else _
    rw [if_pos (isIn_i h0 h1)]
    exact ⟨p, rfl, h⟩⟩
theorem b_ordered : BODY 3 t_ordered S_ordered := by
  rintro ds o Φ Ξ ⟨ss, ns, rfl, k, hl, h⟩
  have hf := k.few
  refine call (use_names k ?_)
  refine lc_filter ss (fun p => .str p.1) (fun p => .str p.1) (fun p => decide (p.1 ∈ ns)) rfl (by omega) (fun p hp o' Ψ hx hh => ?_) ?_
  · refine ⟨ns, rfl, ?_⟩
    refine brD (p := p.1 ∈ ns) (fun h1 => ?_) (fun h1 => ?_)
    · rw [decide_eq_true h1] at hh; exact hh
    · rw [decide_eq_false h1] at hh; exact hh
  · have e : (ss.filter fun p => decide (p.1 ∈ ns)).map (fun p => D.str p.1) = (ordN ss ns).map D.str := by
      unfold ordN
      rw [List.filter_map, List.map_map]
      rfl
    rw [e]
    exact h
theorem cut_from {ds : List D} {n : Nat} (h : n ≤ ds.length) : DL.cutD ds (some ((n : Nat) : Int)) none = ds.drop n := by
  have e : DL.cutD ds (some ((n : Nat) : Int)) none = DL.cutD ds (some ((n : Nat) : Int)) (some ((ds.length : Nat) : Int)) := by
    unfold DL.cutD
    rw [HT.sIx_none, HT.sIx_nat, HT.sIx_nat, Nat.min_self]
  rw [e, cut_nat0 h]
where
  cut_nat0 {ds : List D} {n : Nat} (h : n ≤ ds.length) : DL.cutD ds (some ((n : Nat) : Int)) (some ((ds.length : Nat) : Int)) = ds.drop n := by
    unfold DL.cutD
    rw [HT.sIx_nat, HT.sIx_nat, Nat.min_self, Nat.min_eq_left h]
    exact List.take_of_length_le (by rw [List.length_drop]; omega)
theorem ordN_len {ss : Songs} (k : OkTape ss) (ns : List Str) : (ordN ss ns).length ≤ 30 := by
  have := List.length_filter_le (fun n => decide (n ∈ ns)) (ss.map (·.1))
  rw [List.length_map] at this
  exact Nat.le_trans this k.few
theorem b_candidates : GBODY 8 t_candidates S_cands := by
  rintro ds o Φ ⟨ss, ns, p, rfl, k, hl, h⟩
  have hrl := ordN_len k ns
  have hrow := ordN_perm k ns
  have hal : (aheadN ss p (ordN ss ns)).length ≤ (ordN ss ns).length := List.length_filter_le _ _
  refine call ⟨ss, ns, rfl, k, hl, ?_⟩
  refine ⟨by decide, ?_⟩
  refine lc_filter (ordN ss ns) D.str D.str (isAhead ss p) rfl (by omega) (fun n hn o' Ψ hx hh => ?_) ?_
  · obtain ⟨x, y, hs⟩ : ∃ x y, spanOf 0 ss n = some (x, y) := by
      cases e : spanOf 0 ss n with
      | none => exact (spanOf_none.mp e ((hrow.2 n).mp hn).1).elim
      | some q => exact ⟨q.1, q.2, rfl⟩
    have ea : isAhead ss p n = decide (y ≤ p) := by unfold isAhead; rw [hs]
    rw [ea] at hh
    refine call (use_span k hs ?_)
    refine ⟨_, rfl, ?_⟩
    refine brD (p := y ≤ p) (fun h1 => ?_) (fun h1 => ?_)
    · rw [decide_eq_true h1] at hh; exact hh
    · rw [decide_eq_false h1] at hh; exact hh
  · have hAe : (ordN ss ns).filter (isAhead ss p) = aheadN ss p (ordN ss ns) := rfl
    rw [hAe]
    have hcl : (aheadN ss p (ordN ss ns)).length ≤ 30 := Nat.le_trans hal hrl
    refine ⟨?_, ?_⟩
    · rw [List.length_map]
      omega
    refine gfor_by (fun m yd _ o' => o' = o ∧ yd = ((ordN ss ns) :: (List.range m).map (turned (ordN ss ns) (aheadN ss p (ordN ss ns)))).map fun l => .lst (l.map D.str)) ⟨rfl, rfl⟩ ?_ ?_
    · rintro m d yd' cv o' hd ⟨rfl, rfl⟩
      obtain ⟨hm, rfl⟩ := rangeD_of hd
      rw [List.length_map] at hm
      have hm' : m ≤ (aheadN ss p (ordN ss ns)).length := by omega
      have e0 : (0 : Int) + (m : Int) = ((m : Nat) : Int) := by omega
      rw [e0]
      refine ⟨fits (Nat.ble_eq.mpr (by simp; omega)), ?_⟩
      have eA : ((aheadN ss p (ordN ss ns)).map D.str).length = (aheadN ss p (ordN ss ns)).length := List.length_map ..
      have e1 : DL.cutD ((ordN ss ns).map D.str) (some ((((aheadN ss p (ordN ss ns)).map D.str).length : Nat) : Int)) none = ((ordN ss ns).drop (aheadN ss p (ordN ss ns)).length).map D.str := by
        rw [cut_from (by rw [eA, List.length_map]; exact hal), eA, List.map_drop]
      have e2 : DL.cutD ((aheadN ss p (ordN ss ns)).map D.str) (some ((m : Nat) : Int)) none = ((aheadN ss p (ordN ss ns)).drop m).map D.str := by
        rw [cut_from (by rw [eA]; exact hm'), List.map_drop]
      have e3 : DL.cutD ((aheadN ss p (ordN ss ns)).map D.str) none (some ((m : Nat) : Int)) = ((aheadN ss p (ordN ss ns)).take m).map D.str := by
        rw [cut_take (by rw [eA]; exact hm'), List.map_take]
      have e4 : (((aheadN ss p (ordN ss ns)).drop m).map D.str).reverse = ((aheadN ss p (ordN ss ns)).drop m).reverse.map D.str := List.map_reverse.symm
      rw [e1]
      refine ⟨?_, ?_⟩
      · show (((ordN ss ns).drop (aheadN ss p (ordN ss ns)).length).map D.str).length + (DL.cutD ((aheadN ss p (ordN ss ns)).map D.str) (some ((m : Nat) : Int)) none).reverse.length ≤ sizeLine
        rw [e2]
        exact fits (Nat.ble_eq.mpr (by simp; omega))
      refine ⟨?_, ?_⟩
      · show ((((ordN ss ns).drop (aheadN ss p (ordN ss ns)).length).map D.str) ++ (DL.cutD ((aheadN ss p (ordN ss ns)).map D.str) (some ((m : Nat) : Int)) none).reverse).length + (DL.cutD ((aheadN ss p (ordN ss ns)).map D.str) none (some ((m : Nat) : Int))).length ≤ sizeLine
        rw [e2, e3]
        exact fits (Nat.ble_eq.mpr (by simp; omega))
      refine ⟨rfl, rfl, ?_⟩
      rw [e2, e3, e4, ← List.map_append, ← List.map_append]
      show _ ++ [D.lst ((turned (ordN ss ns) (aheadN ss p (ordN ss ns)) m).map D.str)] = _
      rw [List.range_succ, List.map_append, ← List.cons_append, List.map_append]
      rfl
    · rintro yd' cv o' ⟨rfl, rfl⟩
      rw [rangeD_length, List.length_map]
      have e5 : (((aheadN ss p (ordN ss ns)).length : Int) + 1).toNat = (aheadN ss p (ordN ss ns)).length + 1 := by omega
      rw [e5]
      exact h
theorem b_best_order {π : Str → Addr} {ε : Excs} : BODY 4 (t_best_order ε π) (S_best π ε) := by
  rintro ds o Φ Ξ ⟨ss, ns, d, rfl, k, hl, ha, h⟩
  cases e : badName ss 0 [] ns with
  | some i =>
    rw [e] at h
    exact call <| .inl ⟨ss, ns, rfl, k, hl, by rw [e]; exact h⟩
  | none =>
    rw [e] at h
    refine call <| .inl ⟨ss, ns, rfl, k, hl, by
      rw [e]
      dsimp only
      refine call (use_checkD ha (fun p e2 h0 h1 => ?_) fun e2 => ?_)
      · subst e2
        replace h : if isIn (.int p) 0 (total ss) = true then ∃ p', D.int p = .int p' ∧ tblB π o ∧ ∀ l ∈ candsN ss ns p', (∀ m ∈ candsN ss ns p', wound ss p' l ≤ wound ss p' m) → Φ (.lst (l.map D.str)) o else Ξ ⟨ε.number, []⟩ o := h
        rw [if_pos (isIn_i h0 h1)] at h
        obtain ⟨p', e3, hT, hΦ⟩ := h
        cases e3
        refine gcall ⟨ss, ns, p, rfl, k, hl, ?_⟩
        refine mink (fun i => wound ss p (((candsN ss ns p)[i]?).getD [])) (by rw [List.length_map]; exact Nat.succ_pos _) hT (fun i d hd => ?_) (fun i d hd fm => ?_)
        · rw [List.getElem?_map] at hd
          cases e4 : (candsN ss ns p)[i]? with
          | none => rw [e4] at hd; cases hd
          | some l =>
            rw [e4] at hd
            cases hd
            have c := cands_ok k (List.mem_of_getElem? e4)
            exact call (use_wind k c.2.2.2 h0 h1 ⟨rfl, rfl⟩ c.2.2.1)
        · rw [List.getElem?_map] at hd
          cases e4 : (candsN ss ns p)[i]? with
          | none => rw [e4] at hd; cases hd
          | some l =>
            rw [e4] at hd
            cases hd
            refine hΦ l (List.mem_of_getElem? e4) fun m hm => ?_
            obtain ⟨j, hj, e5⟩ := List.getElem_of_mem hm
            have z := (fm.2 j (by rw [List.length_map]; exact hj)).1
            dsimp only at z
            rw [e4, List.getElem?_eq_getElem hj, e5] at z
            exact z
      · replace h : if isIn d 0 (total ss) = true then ∃ p', d = .int p' ∧ tblB π o ∧ ∀ l ∈ candsN ss ns p', (∀ m ∈ candsN ss ns p', wound ss p' l ≤ wound ss p' m) → Φ (.lst (l.map D.str)) o else Ξ ⟨ε.number, []⟩ o := h
        rw [if_neg (by rw [e2]; exact Bool.false_ne_true)] at h
        exact h⟩
end TC
set_option Elab.async false
set_option linter.all false
set_option maxRecDepth 100000
set_option maxHeartbeats 2000000
/-! DL44: == and != of two dicts of numbers that are equal. -/
namespace RD
open PySem PySem.Spec PyProof.Rows L2 DL
end RD
set_option Elab.async false
set_option linter.all false
set_option maxRecDepth 100000
set_option maxHeartbeats 4000000
/-! DL35: len(set(xs)), xs a list of different texts; x in xs at any depth; dict(xs) of pairs. -/
namespace RD
open PySem PySem.Spec PyProof.Rows L2 DL
end RD
set_option Elab.async false
set_option linter.all false
set_option maxRecDepth 100000
set_option maxHeartbeats 4000000
/-! DL45: sorted(set(xs)), xs a list of ints. -/
set_option Elab.async false
set_option linter.all false
set_option maxRecDepth 100000
set_option maxHeartbeats 2000000
/-! DL46: sorted(set(xs)) of ints; [y for x in xs for y in x], xs a list of tuples; xs.insert(i, y). -/
namespace RD
open PySem PySem.Spec PyProof.Rows L2 DL
end RD
set_option Elab.async false
set_option linter.all false
set_option maxRecDepth 100000
set_option maxHeartbeats 2000000
/-! DL48: a != b, a of a class with an own __eq__ and no __ne__. -/
namespace DL
open PySem PySem.Spec PyProof.Rows L2
end DL
namespace RD
open PySem PySem.Spec PyProof.Rows L2 DL
section
variable {X : Cx} {τ : Tx} {k j : Nat} {a b : Expr} {ta tb : RE} {S : DSp}
def rNeD (S : DSp) (a b : RE) : RE := fun Ξ δ o Φ => a Ξ δ o fun d1 o1 => b Ξ δ o1 fun d2 o2 => onD d1 <| onD d2 <| CALL S [d1, d2] o2 (fun d o3 => ∃ r, d = .bl r ∧ Φ (.bl (!r)) o3) fun x o3 => Ξ x δ o3
end
end RD
set_option Elab.async false
set_option linter.all false
set_option maxRecDepth 100000
set_option maxHeartbeats 2000000
/-! DL49: (*a, b, ..) of a tuple; xs.pop(i), xs owned; list(x) as an owned list. -/
namespace RD
open PySem PySem.Spec PyProof.Rows L2 DL
/-! ### (*a, b, ..) -/
/-! ### xs.pop(i), xs owned -/
/-! ### list(x), to be changed -/
section
variable {X : Cx} {τ : Tx} {k : Nat} {a b c : Expr} {ta tb tc : RE} {es : List Expr} {tas : RA} {pos p p2 apos cpos : Pos}
theorem newLO {H : Hp} {o : O} {p : Addr} {vs : List V} {ds : List D} {Φ : D → O → Prop} (w : Own X.K τ H o) (hp : H p = none) (r : Rs X.K τ H o vs ds) (h : ∀ q, o q = none → Φ (.ref q) (updO o q (.lst ds))) : PostE X.K τ H o Φ (.ref p) (upd H p (.lst vs)) := by
  have hq := w.free hp
  have l2 : Le H o (upd H p (.lst vs)) (updO o p (.lst ds)) := Le.newO hp
  refine ⟨_, _, fun a y e => ?_, l2, .ref p, h p hq⟩
  by_cases ha : a = p
  · subst ha
    rw [updO_same] at e
    cases e
    exact ⟨vs, upd_same, r.mono l2⟩
  · rw [updO_ne ha] at e
    have := w a y e
    cases y with
    | lst ds => obtain ⟨vs, h1, h2⟩ := this; exact ⟨vs, by rw [upd_ne ha]; exact h1, h2.mono l2⟩
    | ins C fs => obtain ⟨dx, gs, h1, h2⟩ := this; exact ⟨dx, gs, by rw [upd_ne ha]; exact h1, h2.mono l2⟩
    | dct kvs => obtain ⟨gs, h1, h2⟩ := this; exact ⟨gs, by rw [upd_ne ha]; exact h1, h2.mono l2⟩
    | xd gs fs => obtain ⟨h1, h2⟩ := this; exact ⟨by rw [upd_ne ha]; exact h1, h2.mono l2⟩
    | lam u c qn => obtain ⟨h1, e2, e3⟩ := this; exact ⟨by rw [upd_ne ha]; exact h1, (l2.ex e3 e2 rfl).1, (l2.ex e3 e2 rfl).2⟩
    | tbl qn => obtain ⟨ps, h1, h2, h3⟩ := this; exact ⟨ps, by rw [upd_ne ha]; exact h1, h2, fun p cv e => let ⟨c, e1, e2, e3⟩ := h3 p cv e; ⟨c, e1, (l2.ex e3 e2 rfl).1, (l2.ex e3 e2 rfl).2⟩⟩
end
end RD
set_option Elab.async false
set_option linter.all false
set_option maxRecDepth 100000
set_option maxHeartbeats 2000000
/-! DL52: xs.count(y), xs.index(y) of flat items. -/
namespace L2
open PySem PySem.Spec PyProof.Rows
end L2
namespace RD
open PySem PySem.Spec PyProof.Rows L2 DL
def flatD : D → Bool
  | .non => true | .bl _ => true | .int _ => true | .str _ => true | _ => false
end RD
set_option Elab.async false
set_option linter.all false
set_option maxRecDepth 100000
set_option maxHeartbeats 2000000
/-! DL53: a caught exception over data: isinstance(e, C), e.f. -/
namespace L2
open PySem PySem.Spec PyProof.Rows
end L2
namespace RD
open PySem PySem.Spec PyProof.Rows L2 DL LamX
instance {X : Cx} {A : Around} {outer : List Env} {s : Shared} {H : Hp} {E : XK} {scope : Scope} {f c' : Addr} : Calm (lamCxN X A outer s H E scope f c') := ⟨rfl⟩
instance {P : Program} {w : World} {K : PySem.W.Frag} {mg : Str → Option Value} {base : Heap} {N : List Str} {qual : Str} {scope : Scope} {f : Addr} {cd : Value} {A : Around} {outer : List Env} {s : Shared} {H : Hp} {E : XK} {pn : List (Addr × Obj)} : Calm (gcxOf P w K mg base N qual scope f cd A outer s H E pn) := ⟨rfl⟩
end RD
set_option Elab.async false
set_option linter.all false
set_option maxRecDepth 100000
set_option maxHeartbeats 2000000
/-! DL54: a def that calls what it gets and catches what that raises; a lambda without parameters handed to it. -/
namespace DL
open PySem PySem.Spec PyProof.Rows L2
end DL
namespace RD
open PySem PySem.Spec PyProof.Rows L2 DL LamX
/-! ### the call of the lambda -/
/-! ### g(lambda: body) -/
section
variable {X : Cx} {τ : Tx} {k kl : Nat}
def TrLam0 (X : Cx) (τ : Tx) (k : Nat) (scope : Scope) (body : Expr) (t : RE) : Prop := ∀ (f c' : Addr) (A : Around) (outer : List Env) (s : Shared) (H : Hp) (E : XK), TrE (lamCxN X A outer s H E scope f c') τ k body t
end
end RD
set_option Elab.async false
set_option linter.all false
set_option maxRecDepth 100000
set_option maxHeartbeats 2000000
/-! DL55: the rule for a def: try: a() / except T as n: suite / rest; and for try: return a() / except T as n: suite. -/
namespace RD
open PySem PySem.Spec PyProof.Rows L2 DL LamX
end RD
set_option Elab.async false
set_option linter.all false
set_option maxRecDepth 100000
set_option maxHeartbeats 2000000
/-! DL56: isinstance(x, (tuple, list)); data of bounded depth, compared with themselves. -/
namespace RD
open PySem PySem.Spec PyProof.Rows L2 DL
section
variable {X : Cx} {τ : Tx} {k : Nat} {a : Expr} {pos p p1 p2 tpos : Pos} {ta : RE}
def isTL : D → Option Bool
  | .tup _ => some true | .lst _ => some true | .bl _ => some false | .int _ => some false | .non => some false | .str _ => some false | _ => none
theorem isTL_ok {d : D} {b : Bool} {K : PySem.W.Frag} (h : isTL d = some b) : isB d = true ∧ PySem.W.kitAny K (.type (tyB d)) [.type "tuple", .type "list"] = some b := by
  cases d with
  | tup x => cases h; exact ⟨rfl, kitAny_cons (b := true) (kit_ty (by simp only [tyB]; decide +kernel)) (fun z => nomatch z) fun _ => rfl⟩
  | lst x => cases h; exact ⟨rfl, kitAny_cons (b := false) (kit_ty (by simp only [tyB]; decide +kernel)) (fun _ => kitAny_cons (b := true) (kit_ty (by simp only [tyB]; decide +kernel)) (fun z => nomatch z) fun _ => rfl) fun z => nomatch z⟩
  | bl x => cases h; exact ⟨rfl, kitAny_cons (b := false) (kit_ty (by simp only [tyB]; decide +kernel)) (fun _ => kitAny_cons (b := false) (kit_ty (by simp only [tyB]; decide +kernel)) (fun _ => rfl) fun z => nomatch z) fun z => nomatch z⟩
  | int x => cases h; exact ⟨rfl, kitAny_cons (b := false) (kit_ty (by simp only [tyB]; decide +kernel)) (fun _ => kitAny_cons (b := false) (kit_ty (by simp only [tyB]; decide +kernel)) (fun _ => rfl) fun z => nomatch z) fun z => nomatch z⟩
  | non => cases h; exact ⟨rfl, kitAny_cons (b := false) (kit_ty (by simp only [tyB]; decide +kernel)) (fun _ => kitAny_cons (b := false) (kit_ty (by simp only [tyB]; decide +kernel)) (fun _ => rfl) fun z => nomatch z) fun z => nomatch z⟩
  | str x => cases h; exact ⟨rfl, kitAny_cons (b := false) (kit_ty (by simp only [tyB]; decide +kernel)) (fun _ => kitAny_cons (b := false) (kit_ty (by simp only [tyB]; decide +kernel)) (fun _ => rfl) fun z => nomatch z) fun z => nomatch z⟩
  | _ => cases h
theorem t_isTL {x1} (hm : GloN X.mg "isinstance") (hT : GloN X.mg "tuple") (hL : GloN X.mg "list") (ha : TrE X τ k a ta) (hgT : Gl X "tuple" := by rfl) (hgL : Gl X "list" := by rfl) (hg : Gl X "isinstance" := by rfl)
    (he : starEach (a :: [.Tuple [.Name "tuple" p1, .Name "list" p2] x1 tpos]) X.env = (false, eval a X.env) :: starEach [.Tuple [.Name "tuple" p1, .Name "list" p2] x1 tpos] X.env := by rfl)
    (he2 : starEach (.Tuple [.Name "tuple" p1, .Name "list" p2] x1 tpos :: []) X.env = (false, eval (.Tuple [.Name "tuple" p1, .Name "list" p2] x1 tpos) X.env) :: starEach [] X.env := by rfl)
    (he3 : starEach [.Name "tuple" p1, .Name "list" p2] X.env = (false, eval (.Name "tuple" p1) X.env) :: starEach [.Name "list" p2] X.env := by rfl)
    (he4 : starEach [.Name "list" p2] X.env = (false, eval (.Name "list" p2) X.env) :: starEach [] X.env := by rfl)
    (hpl : (backTo pos (starEach [.Tuple [.Name "tuple" p1, .Name "list" p2] x1 tpos] X.env)).any (·.1) = false := by rfl) :
    TrE X τ k (.Call (.Name "isinstance" p) [a, .Tuple [.Name "tuple" p1, .Name "list" p2] x1 tpos] [] pos) (rIs isTL ta) := .mk fun Ξ Γ δ o Φ q σ H ok => by
  refine cE_of (pe_callB call_isiT hg hm PyProof.Rows.boot_isinstance (pa_cons pe_c (pa_cons (pe_tup (pa_cons (pe_bltn (v := .ty "tuple") hgT hT (u := .type "tuple") (by decide +kernel) rfl) (pa_cons (pe_bltn (v := .ty "list") hgL hL (u := .type "list") (by decide +kernel) rfl) pa_nil he4) he3)) pa_nil he2) he) (by decide) (by decide) he hpl) ?_
  refine cE_mono (ha.h _ Γ _ _ _ q σ H ok) fun v H1 ⟨d, o1, w1, l1, r1, q2⟩ => ?_
  refine ⟨by show 2 ≤ sizeLine; rw [sizeLine_eq]; omega, fun tp htp => ?_⟩
  obtain ⟨b, hb, q3⟩ := optC.out q2
  obtain ⟨h1, h2⟩ := isTL_ok (K := X.K) hb
  have l2 : Le H1 o1 (upd H1 tp (.tup [.ty "tuple", .ty "list"])) o1 := Le.new htp
  refine ⟨v, tp, [.ty "tuple", .ty "list"], _, [.type "tuple", .type "list"], b, rfl, upd_same, .cons (.ty "tuple") (.cons (.ty "list") .nil), (r1.mono l2).tyx h1, h2, ?_⟩
  exact ⟨.bl b, o1, own_new w1 htp, l1.trans l2, .bl b, q3⟩
end
/-! ### data as the laws compare them -/
end RD
set_option Elab.async false
set_option linter.all false
set_option maxRecDepth 100000
set_option maxHeartbeats 2000000
/-! Sp4: the end of a law whose text makes lambdas: tables of code objects. -/
namespace TC
open PySem PySem.Spec PyProof.Rows L2 DL LamX
/-- the tables, empty ahead of the law: addresses and the names of their lambdas -/
def tabsO (T : List (Addr × Str)) : O := fun b => (T.lookup b).map OS.tbl
def S_lawT (T : List (Addr × Str)) : DSp := fun ds o Φ _ => ∃ ns, ds = [.scr ns] ∧ ns.length ≤ 63 ∧ (∀ p ∈ T, o p.1 = some (.tbl p.2)) ∧ ∀ o', Φ (.bl true) o'
def spLawT (K : PySem.W.Frag) (T : List (Addr × Str)) : Sp := fun vs H Q _ => ∃ (a : Addr) (ns : List Int), vs = [.ref a] ∧ SqL K H a (ns.map V.int) ∧ ns.length ≤ 63 ∧ (∀ p ∈ T, H p.1 = some (.tbl #[])) ∧ ∀ H', Q (.bl true) H'
theorem lookup_nd : ∀ {T : List (Addr × Str)} {p : Addr × Str}, (T.map (·.1)).Nodup → p ∈ T → T.lookup p.1 = some p.2
  | (a, q) :: T, p, hn, hp => by
    obtain ⟨h1, h2⟩ := List.nodup_cons.mp hn
    rcases List.mem_cons.mp hp with e | hp
    · subst e
      simp [List.lookup]
    · have ne : p.1 ≠ a := fun z => h1 (List.mem_map.mpr ⟨p, hp, z⟩)
      rw [List.lookup_cons, beq_false_of_ne ne]
      exact lookup_nd h2 hp
theorem mem_lookup' : ∀ {T : List (Addr × Str)} {a : Addr} {q : Str}, T.lookup a = some q → (a, q) ∈ T
  | (b, r) :: T, a, q, h => by
    rw [List.lookup_cons] at h
    split at h
    · rename_i e
      cases h
      rw [beq_iff_eq.mp e]
      simp
    · exact List.mem_cons_of_mem _ (mem_lookup' h)
theorem law_endT {P : Program} {w : World} {K : PySem.W.Frag} {mg : Str → Option Value} {base : Heap} {τ : Tx} {k : Nat} {f : Addr} {fd : FuncData} {ps : List Str} {T : List (Addr × Str)} (hT : (T.map (·.1)).Nodup) (F : FnOk P w K mg base (L2N.CX P w) k f fd ps (spD K τ 1 (S_lawT T))) : FnOk P w K mg base CX0 k f fd ps (spLawT K T) := by
  have to : ∀ vs H Q, spLawT K T vs H Q (fun _ _ _ => False) → spD K τ 1 (S_lawT T) vs H Q (fun _ _ _ => False) := fun vs H Q ⟨a, ns, e, hS, hl, hH, hQ⟩ => by
    subst e
    have at_ : ∀ p ∈ T, tabsO T p.1 = some (.tbl p.2) := fun p hp => by
      unfold tabsO
      rw [lookup_nd hT hp]
      rfl
    have of_ : ∀ b x, tabsO T b = some x → ∃ q, (b, q) ∈ T ∧ x = .tbl q := fun b x e => by
      unfold tabsO at e
      cases e2 : T.lookup b with
      | none => rw [e2] at e; cases e
      | some q => rw [e2] at e; cases e; exact ⟨q, mem_lookup' e2, rfl⟩
    refine ⟨[.scr ns], tabsO T, fun d _ => d = .bl true, fun _ _ => False, .cons (.scr ?_) .nil, fun b x z => ?_, rfl, ⟨ns, rfl, hl, at_, fun _ => rfl⟩, fun v H' ⟨d, o', _, _, r, e⟩ => ?_, fun _ _ _ _ _ _ _ _ f => f⟩
    · rcases hS with h | h
      · refine .inl ⟨h, ?_⟩
        cases e : tabsO T a with
        | none => rfl
        | some x =>
          obtain ⟨q, hq, _⟩ := of_ a x e
          have z := hH _ hq
          rcases h with h | ⟨ob, h⟩ <;> rw [h] at z <;> cases z
      · exact .inr (.inr h)
    · obtain ⟨q, hq, rfl⟩ := of_ b x z
      refine ⟨#[], hH _ hq, True.intro, fun pos cv hc => ?_⟩
      have hc : codeAmong pos [] = some cv := hc
      simp [codeAmong] at hc
    · subst e
      cases r
      exact hQ H'
  refine ⟨fun vs H Q E h => F.len vs H Q _ (to vs H Q h), fun A outer s H args us vs Q E hr e0 hb r hsp => ?_⟩
  refine codeAny_mono (F.run A outer s H args us vs Q (fun _ _ _ => False) hr e0 hb r (to vs H Q hsp)) fun r s' hq => ?_
  cases r with
  | error e => obtain ⟨_, _, _, _, _, _, _, _, _, _, _, _, f⟩ := hq; exact f.elim
  | ok fl => cases fl <;> exact hq
/-- what the end of such a law gives: E: code object, table, name of the lambdas -/
def LawT (l : PySem.W.OpenLaw) (w : World) (K : PySem.W.Frag) (k : Nat) (mg : Str → Option Value) (fa : Addr) (ts : List Addr) : Prop :=
  ∃ (E : List (Addr × Addr × Str)) (fd : FuncData), (∀ e ∈ E, e.2.1 ∈ ts ∧ K.lookup e.2.1 = none ∧ PySem.W.codeHdIn K e.1 e.2.1 = true) ∧ (∀ (s : Shared) (u : Value), BindsTo s fd ⟨[u], []⟩ [("_law_script", u)]) ∧
    ∀ base : Heap, K.In base → base.Ns mainGlobals mg → (∀ e ∈ E, TabB base mg e.1 e.2.1) → FnOk l.prog w K mg base CX0 k fa fd ["_law_script"] (spLawT K (E.map (·.2)))
end TC
set_option Elab.async false
set_option linter.all false
set_option maxRecDepth 100000
set_option maxHeartbeats 2000000
/-! Tq1: Tape.equal. -/
set_option Elab.async false
set_option linter.all false
set_option maxRecDepth 100000
set_option maxHeartbeats 2000000
/-! Tq2 (printed by gen_tp2.py): readings of the package's defs. -/
set_option Elab.async false
set_option linter.all false
set_option maxRecDepth 100000
set_option maxHeartbeats 2000000
set_option Elab.async false
set_option linter.all false
set_option maxRecDepth 100000
set_option maxHeartbeats 2000000
/-! Tq4: Deck(..) as it is made; decks whose turns all take as many cells; tapes of songs of one length. -/
namespace TC
open PySem PySem.Spec PyProof.Rows L2 DL RD
def SM_Deck (ε : Excs) : DSp := fun ds o Φ Ξ => ∃ d1 d2, ds = [d1, d2] ∧ anyD d1 = true ∧ anyD d2 = true ∧ deckMk ε d1 d2 o Φ Ξ
theorem use_Deck {ε : Excs} {c g : Int} {o : O} {Φ : D → O → Prop} {Ξ : DX → O → Prop} (k : OkDeck c g) (h : Φ (.deck c g) o) : SM_Deck ε [.int c, .int g] o Φ Ξ := ⟨_, _, rfl, rfl, rfl, deckMk_ok k h⟩
end TC
set_option Elab.async false
set_option linter.all false
set_option maxRecDepth 100000
set_option maxHeartbeats 2000000
/-! Rz0: what the laws' helpers do: _law_raised, _law_alike, _law_pair; the exceptions of the text. -/
namespace TC
open PySem PySem.Spec PyProof.Rows L2 DL RD
/-- what _law_alike compares with itself: depth m -/
def alkD : Nat → D → Prop
  | 0, d => Pn 0 d
  | m + 1, d => Pn (m + 1) d ∧ match d with | .tup xs => xs.length ≤ 1000000 ∧ ∀ x ∈ xs, alkD m x | .lst xs => xs.length ≤ 1000000 ∧ ∀ x ∈ xs, alkD m x | _ => True
theorem alkD.pn {m : Nat} {d : D} (h : alkD m d) : Pn m d := by
  cases m with
  | zero => exact h
  | succ m => exact h.1
def S_alk (m : Nat) : DSp := fun ds o Φ _ => ∃ d, ds = [d, d] ∧ alkD m d ∧ Φ (.bl true) o
theorem use_alk {m : Nat} {d e : D} {o : O} {Φ : D → O → Prop} {Ξ : DX → O → Prop} (h : d = e) (k : alkD m e) (q : Φ (.bl true) o) : S_alk m [d, e] o Φ Ξ := ⟨e, by rw [h], k, q⟩
theorem alk_int {m : Nat} {i : Int} : alkD m (.int i) := by cases m with | zero => exact .int | succ m => exact ⟨.int, trivial⟩
theorem alk_str {m : Nat} {x : Str} (h : PyData.strOk x = true) : alkD m (.str x) := by cases m with | zero => exact .str h | succ m => exact ⟨.str h, trivial⟩
theorem alk_tup {m : Nat} {xs : List D} (hl : xs.length ≤ 1000000) (h : ∀ x ∈ xs, alkD m x) : alkD (m + 1) (.tup xs) := ⟨.tup (.of fun d hd => (h d hd).pn), hl, h⟩
theorem alk_lst {m : Nat} {xs : List D} (hl : xs.length ≤ 1000000) (h : ∀ x ∈ xs, alkD m x) : alkD (m + 1) (.lst xs) := ⟨.lst (.of fun d hd => (h d hd).pn), hl, h⟩
def S_no : DSp := fun _ _ _ _ => False
def S_pair : DSp := fun ds o Φ _ => ∃ r ns, ds = [.ref r] ∧ Rowed r ns o ∧ ∀ c g o', 1 ≤ c → c ≤ 200 → 0 ≤ g → g < 30 → Rowed r ns o' → But r o o' → Φ (.tup [.int c, .int g]) o'
/-! the exceptions of the text, as one question -/
theorem fnNo {P : Program} {w : World} {K : PySem.W.Frag} {mg : Str → Option Value} {base : Heap} {τ : Tx} {k : Nat} {f : Addr} {fd : FuncData} {ps : List Str} {n : Nat} : FnOk P w K mg base (L2N.CX P w) k f fd ps (spD K τ n S_no) :=
  ⟨fun vs H Q E ⟨_, _, _, _, _, _, _, h, _⟩ => h.elim, fun A outer s H args us vs Q E _ _ _ _ ⟨_, _, _, _, _, _, _, h, _⟩ => h.elim⟩
end TC
set_option Elab.async false
set_option linter.all false
set_option maxRecDepth 100000
set_option maxHeartbeats 2000000
/-! Rz1: readings (printed from the law's text). -/
namespace TC
open PySem DL RD
section
variable (τ : Tx) (ε : Excs) (π : Str → Addr)
/-- slots: 0 _law_one, 1 _law_due, 2 _law_k; loops carry [] -/
noncomputable def t_alike (Sr : DSp) : RS := (sCons (sIf (tAnd (tVal (rIs isTL (rVar 0))) (tVal (rIs isTL (rVar 1))))
  (sCons (sIf (tOr (tVal (r2 neQ (rIs isTu (rVar 0)) (rIs isTu (rVar 1)))) (tVal (r2 neQ (rFn lenS (rACons (rVar 0) rANil)) (rFn lenS (rACons (rVar 1) rANil)))))
  (sRet (rC (.bl false)))
  sNil)
  (sRet (r2 eqQ (rLcR1 [2] (turnI (gName 2) (tNot (tVal (rCall Sr (rACons (r2 ixS (rVar 0) (rVar 2)) (rACons (r2 ixS (rVar 1) (rVar 2)) rANil))))) (rVar 2)) (rACons (rFn lenS (rACons (rVar 0) rANil)) rANil)) (rLst rANil))))
  sNil)
  (sRet (rAnd (r2 eqQ (rVar 0) (rVar 1)) (r2 eqQ (rIs isBo (rVar 0)) (rIs isBo (rVar 1))))))
/-- slots: 0 _law_row, 1 _law_core; loops carry [] -/
noncomputable def t_pair : RS := (sCons (sSet 1 (r2 addS (rC (.int 1)) (rCall (S_taken) (rACons (rVar 0) (rACons (r2 ixS (rLst (rACons (rC (.int 3)) (rACons (rC (.int 12)) (rACons (rC (.int 200)) rANil)))) (rCall (S_taken) (rACons (rVar 0) (rACons (rC (.int 3)) rANil)))) rANil)))))
  (sRet (rTup (rACons (rVar 1) (rACons (rCall (S_taken) (rACons (rVar 0) (rACons (r2 ixS (rLst (rACons (rC (.int 1)) (rACons (rC (.int 4)) (rACons (rC (.int 30)) rANil)))) (rCall (S_taken) (rACons (rVar 0) (rACons (rC (.int 3)) rANil)))) rANil))) rANil)))))
end
end TC
set_option Elab.async false
set_option linter.all false
set_option maxRecDepth 100000
set_option maxHeartbeats 2000000
/-! Rz2: _law_raised, _law_alike, _law_pair do what Rz0 says; long comprehensions; tables of lambdas in a law. -/
namespace RD
open PySem PySem.Spec PyProof.Rows L2 DL
theorem lt_big {n : Nat} (h : n < 1000000) : n < sizeLine := Nat.lt_of_lt_of_le h (by decide)
section
variable {α : Type} {ds : List D} {o : O} {Φ : D → O → Prop}
theorem lcq_genB {turn : D → O → (Option D → O → Prop) → Prop} (f : α → D) (g : α → Option D) (xs : List α) (hg : ∀ x ∈ xs, ∀ o' Ψ, Ext o o' → Ψ (g x) o' → turn (f x) o' Ψ) {q : Addr} (hq : o q = none) :
    ∀ (acc : List D), acc.length + xs.length ≤ 1000000 → Φ (.lst (acc ++ xs.filterMap g)) o → lcQ turn q (lcEnd q Φ) (xs.map f) (updO o q (.lst acc)) := by
  induction xs with
  | nil =>
    intro acc _ h
    rw [List.filterMap_nil, List.append_nil] at h
    exact .inl ⟨o, acc, rfl, hq, h⟩
  | cons x xs ih =>
    intro acc hl h
    rw [List.length_cons] at hl
    refine hg x (by simp) _ _ (Ext.updO hq) ?_
    cases e : g x with
    | none =>
      rw [List.filterMap_cons_none e] at h
      exact ih (fun x hx => hg x (List.mem_cons_of_mem _ hx)) acc (by omega) h
    | some d =>
      rw [List.filterMap_cons_some e] at h
      refine ⟨acc, updO_same, lt_big (by omega), ?_⟩
      rw [updO_updO]
      refine ih (fun x hx => hg x (List.mem_cons_of_mem _ hx)) (acc ++ [d]) (by rw [List.length_append, List.length_singleton]; omega) ?_
      rw [List.append_assoc]
      exact h
/-- a long comprehension with a test -/
theorem lc_filterB {turn : D → O → (Option D → O → Prop) → Prop} (xs : List α) (f g : α → D) (c : α → Bool) (hds : ds = xs.map f) (hl : xs.length ≤ 1000000) (hg : ∀ x ∈ xs, ∀ o' Ψ, Ext o o' → Ψ (if c x = true then some (g x) else none) o' → turn (f x) o' Ψ) (h : Φ (.lst ((xs.filter c).map g)) o) : LC turn ds o Φ :=
  lc_by fun q hq => by
    subst hds
    refine lcq_genB f (fun x => if c x = true then some (g x) else none) xs hg hq [] (by simpa using hl) ?_
    have e : xs.filterMap (fun x => if c x = true then some (g x) else none) = (xs.filter c).map g := by
      clear hg h hl
      induction xs with
      | nil => rfl
      | cons x xs ih =>
        rw [List.filter_cons]
        by_cases hc : c x = true
        · rw [List.filterMap_cons_some (b := g x) (by rw [if_pos hc]), if_pos hc, List.map_cons, ih]
        · rw [List.filterMap_cons_none (by rw [if_neg hc]), if_neg hc, ih]
    rw [List.nil_append, e]; exact h
end
theorem Pns.get {n : Nat} : ∀ {ds : List D} {i : Nat} {d : D}, Pns n ds → ds[i]? = some d → Pn n d
  | _, i, d, .nil, h => by simp at h
  | d0 :: _, 0, d, .cons h _, e => by
    have e1 : d0 = d := by simpa using e
    rw [← e1]; exact h
  | _, i + 1, d, .cons _ r, e => Pns.get r (by simpa using e)
theorem at_nat {ds : List D} {i : Nat} {d : D} (h : ds[i]? = some d) : atI ds (0 + (i : Int)) = some d := by
  have hm := (List.getElem?_eq_some_iff.mp h).1
  unfold atI ixN
  rw [if_pos (by omega), if_pos (by omega)]
  show ds[(0 + (i : Int)).toNat]? = _
  rw [show (0 + (i : Int)).toNat = i by omega]
  exact h
end RD
namespace TC
open PySem PySem.Spec PyProof.Rows L2 DL RD
/-! ### tables -/
def Tbls (T : List (Addr × Str)) (o : O) : Prop := ∀ p ∈ T, o p.1 = some (.tbl p.2)
theorem Tbls.ext {T : List (Addr × Str)} {o o' : O} (t : Tbls T o) (h : Ext o o') : Tbls T o' := fun p hp => h _ _ (t p hp)
/-! ### _law_alike -/
theorem alk_flat {Sr : DSp} {d : D} {m : Nat} {o : O} {Φ : D → O → Prop} {Ξ : DX → O → Prop} (hp : Pn m d) (hf : flatD d = true) (hm : m ≤ 60) (h : Φ (.bl true) o) : force ([d, d].map some ++ List.replicate (3 - [d, d].length) none) fun δ => t_alike Sr (fun x _ o' => Ξ x o') δ o { nx := fun _ o' => Φ .non o', rt := Φ } := by
  cases d <;> first | cases hf; done | skip
  all_goals exact brF rfl (brF rfl (eqq_same rfl hp (brT rfl (eqq_same (n := 0) rfl .bl h)) hm))
theorem b_alike0 : BODY 3 (t_alike S_no) (S_alk 0) := by
  rintro ds o Φ Ξ ⟨d, rfl, hp, h⟩
  exact alk_flat hp (by cases hp <;> rfl) (by decide) h
theorem alk_seq {Sr : DSp} {m : Nat} {xs : List D} {o : O} {Ψ : D → O → Prop} (hp : ∀ x ∈ xs, alkD m x) (hl : xs.length ≤ 1000000) (hS : ∀ d o' (Φ : D → O → Prop) Ξ, alkD m d → Φ (.bl true) o' → Sr [d, d] o' Φ Ξ) (h : Ψ (.lst []) o) {turn : D → O → (Option D → O → Prop) → Prop}
    (ht : ∀ (k : Nat) d o' (Χ : Option D → O → Prop), xs[k]? = some d → (∀ (Φ : D → O → Prop) Ξ, Φ (.bl true) o' → CALL Sr [d, d] o' Φ Ξ) → Χ none o' → turn (.int (0 + (k : Int))) o' Χ) : LC turn (rangeD 0 xs.length) o Ψ := by
  refine lc_filterB (List.range xs.length) (fun m : Nat => .int (0 + (m : Int))) (fun m : Nat => .int (0 + (m : Int))) (fun _ => false) rfl (by rw [List.length_range]; exact hl) (fun k hk o' Χ _ hh => ?_) ?_
  · have hk := List.mem_range.mp hk
    have e := List.getElem?_eq_getElem hk
    exact ht k _ o' Χ e (fun Φ Ξ q => call (hS _ _ _ _ (hp _ (List.getElem_mem hk)) q)) hh
  · have e : (List.range xs.length).filter (fun _ => false) = [] := by
      rw [List.filter_eq_nil_iff]; intro a _ z; cases z
    rw [e]
    exact h
theorem b_alikeS {m : Nat} (hm : m + 1 ≤ 60) {Sr : DSp} (hS : ∀ d o' (Φ : D → O → Prop) Ξ, alkD m d → Φ (.bl true) o' → Sr [d, d] o' Φ Ξ) : BODY 3 (t_alike Sr) (S_alk (m + 1)) := by
  rintro ds o Φ Ξ ⟨d, rfl, ⟨hp, hx⟩, h⟩
  by_cases hf : flatD d = true
  · exact alk_flat hp hf hm h
  cases hp with
  | tup hs =>
    rename_i xs
    refine brT rfl (brT rfl ?_)
    refine neq_same (n := 0) rfl .bl (brF rfl (neq_same (n := 0) rfl .int (brF rfl ?_)))
    refine ⟨by have := hx.1; omega, ?_⟩
    rw [Int.toNat_natCast]
    refine alk_seq hx.2 hx.1 hS (eqq_same (n := 1) rfl (.lst .nil) h) fun k d o' Χ e hc hn => ?_
    exact ⟨d, at_nat e, d, at_nat e, hc _ _ (brF rfl hn)⟩
  | lst hs =>
    rename_i xs
    refine brT rfl (brT rfl ?_)
    refine neq_same (n := 0) rfl .bl (brF rfl (neq_same (n := 0) rfl .int (brF rfl ?_)))
    refine ⟨by have := hx.1; omega, ?_⟩
    rw [Int.toNat_natCast]
    refine alk_seq hx.2 hx.1 hS (eqq_same (n := 1) rfl (.lst .nil) h) fun k d o' Χ e hc hn => ?_
    exact ⟨d, at_nat e, d, at_nat e, hc _ _ (brF rfl hn)⟩
  | _ => exact absurd rfl hf
theorem b_alike1 : BODY 3 (t_alike (S_alk 0)) (S_alk 1) := b_alikeS (by decide) fun d o' Φ Ξ k q => use_alk rfl k q
theorem b_alike2 : BODY 3 (t_alike (S_alk 1)) (S_alk 2) := b_alikeS (by decide) fun d o' Φ Ξ k q => use_alk rfl k q
theorem b_alike3 : BODY 3 (t_alike (S_alk 2)) (S_alk 3) := b_alikeS (by decide) fun d o' Φ Ξ k q => use_alk rfl k q
theorem b_alike4 : BODY 3 (t_alike (S_alk 3)) (S_alk 4) := b_alikeS (by decide) fun d o' Φ Ξ k q => use_alk rfl k q
/-! ### _law_pair -/
theorem use_pair {r : Addr} {ns : List Int} {o : O} {Φ : D → O → Prop} {Ξ : DX → O → Prop} (hr : Rowed r ns o) (h : ∀ c g o', 1 ≤ c → c ≤ 200 → 0 ≤ g → g < 30 → Rowed r ns o' → But r o o' → Φ (.tup [.int c, .int g]) o') : S_pair [.ref r] o Φ Ξ := ⟨r, ns, rfl, hr, h⟩
end TC
set_option Elab.async false
set_option linter.all false
set_option maxRecDepth 100000
set_option maxHeartbeats 2000000
/-! Wd7: what must be wound, piece by piece. -/
set_option Elab.async false
set_option linter.all false
set_option maxRecDepth 100000
set_option maxHeartbeats 2000000
/-! Wd8 (printed by gen_tp2.py): readings of the package's defs. -/
set_option Elab.async false
set_option linter.all false
set_option maxRecDepth 100000
set_option maxHeartbeats 2000000
/-! Wd9: passes, pieces, needed_winding do so. -/
set_option Elab.async false
set_option linter.all false
set_option maxRecDepth 100000
set_option maxHeartbeats 2000000
/-! DL47: a slice of a text. -/
namespace RD
open PySem PySem.Spec PyProof.Rows L2 DL
end RD
set_option Elab.async false
set_option linter.all false
set_option maxRecDepth 100000
set_option maxHeartbeats 2000000
/-! L14: joined tapes, parted songs: the mathematics. -/
set_option Elab.async false
set_option linter.all false
set_option maxRecDepth 100000
set_option maxHeartbeats 2000000
/-! L14s: what k14's own defs do. -/
set_option Elab.async false
set_option linter.all false
set_option maxRecDepth 100000
set_option maxHeartbeats 2000000
/-! L14t: readings (printed from the law's text). -/
set_option Elab.async false
set_option linter.all false
set_option maxRecDepth 100000
set_option maxHeartbeats 2000000
/-! L14b: _law_later, _law_mixed, _law_is_parted do so. -/
set_option Elab.async false
set_option linter.all false
set_option maxRecDepth 100000
set_option maxHeartbeats 2000000
/-! L14c: k14's law itself. -/
set_option Elab.async false
set_option linter.all false
set_option maxRecDepth 100000
set_option maxHeartbeats 2000000
/-! DL57: list(d.items()). -/
namespace DL
open PySem PySem.Spec PyProof.Rows L2 LiI
section
variable {K : PySem.W.Frag} {τ : Tx} {H H' : Hp} {o : O}
theorem own_ext (w : Own K τ H o) (k : ∀ b u, H b = some u → H' b = some u) : Own K τ H' o ∧ Le H o H' o := by
  have le : Le H o H' o := Le.mk fun a x n e => ⟨k a x e, n⟩
  refine ⟨fun a x e => ?_, le⟩
  have hw := w a x e
  cases x with
  | lst ds => obtain ⟨vs, h1, h2⟩ := hw; exact ⟨vs, k _ _ h1, h2.mono le⟩
  | ins C fs => obtain ⟨dx, gs, h1, h2⟩ := hw; exact ⟨dx, gs, k _ _ h1, h2.mono le⟩
  | dct kvs => obtain ⟨gs, h1, h2⟩ := hw; exact ⟨gs, k _ _ h1, h2.mono le⟩
  | xd gs fs => obtain ⟨h1, h2⟩ := hw; exact ⟨k _ _ h1, h2.mono le⟩
  | lam u c qn => obtain ⟨h1, e2, e3⟩ := hw; exact ⟨k _ _ h1, (le.ex e3 e2 rfl).1, (le.ex e3 e2 rfl).2⟩
  | tbl qn => obtain ⟨ps, h1, h2, h3⟩ := hw; exact ⟨ps, k _ _ h1, h2, fun p cv e => let ⟨c, e1, e2, e3⟩ := h3 p cv e; ⟨c, e1, (le.ex e3 e2 rfl).1, (le.ex e3 e2 rfl).2⟩⟩
theorem items_R (w : Own K τ H o) (k : ∀ b u, H b = some u → H' b = some u) : ∀ {ts : List Addr} {kvs : List (Key × V)} {kds : List (Key × D)}, Paired (fun (t : Addr) (q : Key × V) => H' t = some (.tup [kV q.1, q.2])) ts kvs → (∀ t ∈ ts, H t = none) → Rk K τ H o kvs kds → Rs K τ H' o (ts.map V.ref) (itemsD kds)
  | _, _, _, .nil, _, .nil => .nil
  | t :: ts, (key, v) :: kvs, (_, d) :: kds, .cons h hs, hn, .cons r rs => by
    have le := (own_ext w k).2
    have rk : R K τ H' o (kV key) (keyDat key) := by
      cases key with
      | inl i => exact .int i
      | inr x => exact .str x
    exact .cons (.tup (.inl ⟨.inl h, w.free (hn t (by simp))⟩) (.cons rk (.cons (r.mono le) .nil))) (items_R w k hs (fun t ht => hn t (List.mem_cons_of_mem _ ht)) rs)
end
section
variable {X : Cx} {τ : Tx} {k : Nat} {Ξ : DX → Δ → O → Prop} {Γ : Gm X τ k Ξ} {δ : Δ} {o : O} {e a b c : Expr} {pos p apos cpos : Pos} {Φ : D → O → Prop}
theorem we_listItems (hm : X.mg "list" = none) (h : WE Γ e δ o fun d o1 => ∃ kvs, dctOf o1 d = some kvs ∧ Φ (.lst (itemsD kvs)) o1) (hc : X.calm = true := by rfl) (hg : Gl X "list" := by rfl)
    (hbase : attributeBase e "items" X.env (eval e X.env) = eval e X.env := by rfl) (hline : (apos.endLine == cpos.line) = true := by rfl)
    (na : starEach [.Call (.Attribute e "items" apos) [] [] cpos] X.env = (false, eval (.Call (.Attribute e "items" apos) [] [] cpos) X.env) :: starEach [] X.env := by rfl) :
    WE Γ (.Call (.Name "list" p) [.Call (.Attribute e "items" apos) [] [] cpos] [] pos) δ o Φ := fun σ H ok pins s I => by
  refine Call_ (ld_blt I hg hm boot_list (PyProof.Rows.callWith_type1 (args_cons ?_ na) na))
  refine wpAny_Call_method (T := "dict") (id := "dict.items") hbase rfl hline F.plainAttrs_dict F.slot_dict_items F.type_dict_items (thn (h σ H ok pins s I) fun u s1 ⟨x, H1, I1, rx, d, o1, w, l, r, kds, e1, q⟩ => ?_)
  obtain ⟨da, kvs, ex, hd, rk⟩ := r.dct_at w e1
  subst ex
  obtain rfl : u = Value.ref da := rx
  obtain ⟨z, hs, vs, kv, dd⟩ := dk_rd I1.hok hd
  have hl : kvs.length = vs.length := Paired.length kv
  refine ⟨dd.typeIs, dd.mapOf.noDict, ?_⟩
  have I2 : Inv X pins σ H1 { s1 with heap := s1.heap.push { cls := .type "dict_items", data := .fields #[.ref da] } } := I1.kept (t' := s1.toks) fun b ob q => Heap.get?_push_of_some _ q
  refine method_meetsIn F.slot_dict_items F.entry_dict_items rfl (PySem.evalArgs_none ⟨rfl, dd.typeIs, F.args_dict_items_1 _, _, meets_dict_items (mixKind X.prog X.w) da hs, ⟨vs, dd⟩, ?_⟩)
  refine args_nil ?_
  obtain ⟨ep, hat⟩ := dd.dictAt
  refine PySem.W.kdx_call (knd := mixKind X.prog X.w) (kvs := vs) (ep := ep) (I1.ok.hd hc) ⟨_, Heap.get?_push_size _ rfl, rfl, rfl⟩ (hat.push _) (by omega) fun h' tk acc c as hk hS hl hG hacc => ?_
  obtain ⟨H', k1, k2, k3, k4, k5, k6, J⟩ := items_laid (tk := tk) I2 z kv hk hS hl hG hacc
  obtain ⟨w2, l2⟩ := own_ext w k1
  exact ⟨.ref _, H', J, rfl, _, o1, w2, l.trans l2, .lst k5 (w.free k2) (items_R w k1 k6 k3 rk), q⟩
end
end DL
namespace RD
open PySem PySem.Spec PyProof.Rows L2 DL
section
variable {X : Cx} {τ : Tx} {k : Nat} {e : Expr} {ta : RE} {pos p apos cpos : Pos}
def rListItems (a : RE) : RE := fun Ξ δ o Φ => a Ξ δ o fun d o1 => dctC o1 d fun kvs => Φ (.lst (itemsD kvs)) o1
theorem t_listItems (hm : GloN X.mg "list") (h : TrE X τ k e ta) (hc : X.calm = true := by rfl) (hg : Gl X "list" := by rfl)
    (hbase : attributeBase e "items" X.env (eval e X.env) = eval e X.env := by rfl) (hline : (apos.endLine == cpos.line) = true := by rfl)
    (na : starEach [.Call (.Attribute e "items" apos) [] [] cpos] X.env = (false, eval (.Call (.Attribute e "items" apos) [] [] cpos) X.env) :: starEach [] X.env := by rfl) :
    TrE X τ k (.Call (.Name "list" p) [.Call (.Attribute e "items" apos) [] [] cpos] [] pos) (rListItems ta) := .mk fun Ξ Γ δ o Φ q => we_listItems hm ((h.h _ _ _ _ _ q).mono fun d o1 q => dctC.out q) hc hg hbase hline na
end
end RD
set_option Elab.async false
set_option linter.all false
set_option maxRecDepth 100000
set_option maxHeartbeats 2000000
/-! DL58: comprehensions whose target is three names. -/
namespace DL
open PySem PySem.Spec PyProof.Rows L2
end DL
namespace RD
open PySem PySem.Spec PyProof.Rows L2 DL
end RD
set_option Elab.async false
set_option linter.all false
set_option maxRecDepth 100000
set_option maxHeartbeats 2000000
/-! DL59: a class's constant. -/
namespace RD
open PySem PySem.Spec PyProof.Rows L2 DL
/-! a tape == a tuple -/
end RD
/-! len(x), x of an own class with __len__ -/
namespace PySem.W
open PySem PySem.Calls PyProof.Rows
end PySem.W
namespace RD
open PySem PySem.Spec PyProof.Rows L2 DL
end RD
/-! isinstance(x, Tape) in a law without decks -/
namespace RD
open PySem PySem.Spec PyProof.Rows L2 DL
end RD
set_option Elab.async false
set_option linter.all false
set_option maxRecDepth 100000
set_option maxHeartbeats 2000000
/-! DL60: sorted(list of texts), sorted(list of ints); two sorted lists of the same items are one. -/
namespace RD
open PySem PySem.Spec PyProof.Rows L2 DL
/-! ### order of texts -/
/-! ### sorted -/
end RD
set_option Elab.async false
set_option linter.all false
set_option maxRecDepth 100000
set_option maxHeartbeats 2000000
/-! DL61: a list comprehension whose test may lean on the def's own frame (what lambdas capture). -/
namespace L2
open PySem PySem.Spec PyProof.Rows
end L2
set_option Elab.async false
set_option linter.all false
set_option maxRecDepth 100000
set_option maxHeartbeats 2000000
/-! DL62: lambdas as things: made with or without a default, put into the abstract heap, called by a def that gets them. -/
namespace L2
open PySem PySem.Spec PyProof.Rows LamX
section
variable {X : Cx} {pins : List (Addr × Obj)} {σ : L2.St} {H : Hp} {s : Shared}
/-- the object of a lambda -/
abbrev lamFd (X : Cx) (params : Arguments) (body : Expr) (scope : Scope) (dV doc pm ctv : Value) (c' : Addr) : FuncData := PySem.W.kdv_fn "<lambda>" (X.env.qual ++ "<lambda>") params (.expr body) scope (cloFrom X.env.cells scope.names []) dV doc pm (.ref c') ctv
abbrev lamOb (X : Cx) (params : Arguments) (body : Expr) (scope : Scope) (dV doc pm ctv : Value) (c' : Addr) : Obj := { cls := .type "function", data := .func (lamFd X params body scope dV doc pm ctv c') }
def seenAt (f : Addr) (ob : Obj) : HO := .ext fun h => h.get? f = some ob
end
end L2
set_option Elab.async false
set_option linter.all false
set_option maxRecDepth 100000
set_option maxHeartbeats 2000000
/-! DL63: lambdas as things: the call in the def that got one. -/
namespace L2
open PySem PySem.Spec PyProof.Rows LamX
/-- a lambda's names: captured ones and globals; its parameters are names that the def has not -/
structure LamA (N : List Str) (sc scope : Scope) : Prop where
  kind : scope.kind = .function
  co : scope.isCoroutine = false
  gen : scope.isGenerator = false
  own : ∀ y ∈ scope.names, y.2 ≠ .cell ∧ (y.2 = .local → y.1 ∉ N)
  free : ∀ y ∈ scope.names, y.2 = .free → sc.names.lookup y.1 = some .cell ∨ sc.names.lookup y.1 = some .free
theorem LamA.has {X : Cx} {N : List Str} {scope : Scope} (L : LamA N X.env.scope scope) (ok : X.Ok) : ∀ y ∈ scope.names, y.2 = .free → ∃ c, X.env.cells.lookup y.1 = some c := fun y hy e => ok.has _ (L.free y hy e)
theorem Un.more {fs fs' ex : List Addr} {H H' : Hp} {h h' : Heap} (u : Un fs ex H H' h h') (m : ∀ b ∈ fs, b ∈ fs') : Un fs' ex H H' h h' where
  keep := fun b o e n hb hx => u.keep b o e n (fun z => hb (m b z)) hx
  slot := fun b o e n _ hx => u.any e n hx
  free := u.free
  there := u.there
  tups := u.tups
  frzs := u.frzs
  tbls := u.tbls
end L2
set_option Elab.async false
set_option linter.all false
set_option maxRecDepth 100000
set_option maxHeartbeats 2000000
/-! DL64: readings of lambdas as things: made, and called one by one by [w for w in ws if raised(w) != e]. -/
namespace RD
open PySem PySem.Spec PyProof.Rows L2 DL LamX
/-- what is known of a lambda: its default's tuple, itself, its object, its code object -/
abbrev KT := Addr → Addr → HO → Addr → Prop
def LamD (X : Cx) (params : Arguments) (body : Expr) (scope : Scope) (d : Bool) : KT := fun T f u c => ∃ doc pm ctv, u = seenAt f (lamOb X params body scope (if d = true then .ref T else .none) doc pm ctv c)
def kf (l : List KT) (i : Nat) : KT := l.getD i fun _ _ _ _ => False
/-! ### made -/
end RD
set_option Elab.async false
set_option linter.all false
set_option maxRecDepth 100000
set_option maxHeartbeats 2000000
/-! DL65: [w for w in ws if raised(w) != e], ws a list of lambdas; the rule for a def that makes such lambdas. -/
namespace RD
open PySem PySem.Spec PyProof.Rows L2 DL LamX
/-! ### the kinds of lambdas in a list -/
abbrev Alt := KT × Bool × RE
def Bind0 (params : Arguments) (scope : Scope) (body : Expr) : Prop := ∀ (q : Str) (cl : List (Str × Addr)) (doc pm cv ctv : Value), bindArgs (PySem.W.kdv_fn "<lambda>" q params (.expr body) scope cl .none doc pm cv ctv) ⟨[], []⟩ = pure []
def Bind1 (params : Arguments) (scope : Scope) (body : Expr) : Prop := ∃ a : Str, scope.names.lookup a = some .local ∧ ∀ (q : Str) (cl : List (Str × Addr)) (T : Addr) (doc pm cv ctv v : Value), ∃ k, bindArgs (PySem.W.kdv_fn "<lambda>" q params (.expr body) scope cl (.ref T) doc pm cv ctv) ⟨[], []⟩ = seqItems? (.ref T) >>= k ∧ k (some #[v]) = pure [(a, v)]
inductive AltsOk (X : Cx) (τ : Tx) (kl : Nat) : List Alt → Prop
  | nil : AltsOk X τ kl []
  | cons0 {params : Arguments} {body : Expr} {scope : Scope} {tb : RE} {r : List Alt} (L : LamA X.N X.env.scope scope) (b : Bind0 params scope body) (h : TrLam0 X τ kl scope body tb) (hr : AltsOk X τ kl r) : AltsOk X τ kl ((LamD X params body scope false, false, tb) :: r)
  | cons1 {params : Arguments} {body : Expr} {scope : Scope} {tb : RE} {r : List Alt} (L : LamA X.N X.env.scope scope) (b : Bind1 params scope body) (h : TrLam0 X τ kl scope body tb) (hr : AltsOk X τ kl r) : AltsOk X τ kl ((LamD X params body scope true, true, tb) :: r)
theorem AltsOk.get {X : Cx} {τ : Tx} {kl : Nat} : ∀ {l : List Alt}, AltsOk X τ kl l → ∀ a ∈ l, ∃ params body scope, a.1 = LamD X params body scope a.2.1 ∧ LamA X.N X.env.scope scope ∧ TrLam0 X τ kl scope body a.2.2 ∧ (a.2.1 = false → Bind0 params scope body) ∧ (a.2.1 = true → Bind1 params scope body)
  | _, .nil, a, h => nomatch h
  | _, .cons0 (params := p) (body := b) (scope := sc) L bb ht hr, a, h => by
    rcases List.mem_cons.mp h with rfl | h
    · exact ⟨p, b, sc, rfl, L, ht, fun _ => bb, fun z => nomatch z⟩
    · exact hr.get a h
  | _, .cons1 (params := p) (body := b) (scope := sc) L bb ht hr, a, h => by
    rcases List.mem_cons.mp h with rfl | h
    · exact ⟨p, b, sc, rfl, L, ht, (fun z => nomatch z), fun _ => bb⟩
    · exact hr.get a h
end RD
set_option Elab.async false
set_option linter.all false
set_option maxRecDepth 100000
set_option maxHeartbeats 2000000
/-! DL66: the rules for these readings. -/
namespace RD
open PySem PySem.Spec PyProof.Rows L2 DL LamX
end RD
set_option Elab.async false
set_option linter.all false
set_option maxRecDepth 100000
set_option maxHeartbeats 2000000
/-! DL67: a lambda with a default handed to a def that calls it; THE RULE for a def whose reading speaks of lambdas as things. -/
namespace RD
open PySem PySem.Spec PyProof.Rows L2 DL LamX
end RD
set_option Elab.async false
set_option linter.all false
set_option maxRecDepth 100000
set_option maxHeartbeats 2000000
/-! DL68: deck op a thing of one of some plain kinds; deck == tuple. -/
namespace RD
open PySem PySem.Spec PyProof.Rows L2 DL
end RD
set_option Elab.async false
set_option linter.all false
set_option maxRecDepth 100000
set_option maxHeartbeats 2000000
/-! DL69: x in y, len(y), y an own instance that stays owned. -/
namespace RD
open PySem PySem.Spec PyProof.Rows L2 DL
def onI (C : Addr) (d : D) (o : O) (P : Prop) : Prop := match d with | .ref a => (∃ fs, o a = some (.ins C fs)) ∧ P | _ => False
theorem onI.out {C : Addr} {d : D} {o : O} {P : Prop} (h : onI C d o P) : ∃ a fs, d = .ref a ∧ o a = some (.ins C fs) ∧ P := by
  unfold onI at h
  split at h
  · obtain ⟨⟨fs, h1⟩, h2⟩ := h
    exact ⟨_, fs, rfl, h1, h2⟩
  · exact h.elim
end RD
set_option Elab.async false
set_option linter.all false
set_option maxRecDepth 100000
set_option maxHeartbeats 2000000
/-! DL70: targets that are attributes of an own instance; tuples of such targets. -/
namespace L2
open PySem PySem.Spec PyProof.Rows
end L2
namespace RD
open PySem PySem.Spec PyProof.Rows L2 DL
section
variable {X : Cx} {τ : Tx} {k : Nat} {x : Str} {p pos apos : Pos} {es : List Expr} {f : Str} {C : Addr} {e : Expr} {g : RG} {gs : List RG}
theorem TrG.mono {tg : Expr} (h : TrG X τ k tg g) {Ξ : XW} {Γ : Gm X τ k Ξ} {d : D} {δ : Δ} {o : O} {Ψ Ψ' : Δ → O → Prop} (q : DL.WG Γ tg d δ o Ψ) (m : ∀ δ1 o1, Ψ δ1 o1 → Ψ' δ1 o1) : DL.WG Γ tg d δ o Ψ' := fun σ H v ok r =>
  cG_mono (q σ H v ok r) fun _ _ ⟨δ', o', h1, h2, h3⟩ => ⟨δ', o', h1, h2, m _ _ h3⟩
end
end RD
set_option Elab.async false
set_option linter.all false
set_option maxRecDepth 100000
set_option maxHeartbeats 2000000
/-! DL71: a comprehension of two names over an owned list, with or without a test; of one name with a test. -/
namespace DL
open PySem PySem.Spec PyProof.Rows L2
end DL
namespace RD
open PySem PySem.Spec PyProof.Rows L2 DL
end RD
set_option Elab.async false
set_option linter.all false
set_option maxRecDepth 100000
set_option maxHeartbeats 2000000
/-! DL72: *a, b = a tuple: the last item and the list of the others. -/
namespace L2
open PySem PySem.Spec PySem.Calls PySem.W PyProof.Rows
end L2
namespace RD
open PySem PySem.Spec PyProof.Rows L2 DL
theorem Rs.snoc {K : PySem.W.Frag} {τ : Tx} {H : Hp} {o : O} {z : D} : ∀ {xs : List D} {vs : List V}, Rs K τ H o vs (xs ++ [z]) → ∃ ws w, vs = ws ++ [w] ∧ Rs K τ H o ws xs ∧ R K τ H o w z
  | [], _, .cons r .nil => ⟨[], _, rfl, .nil, r⟩
  | _ :: xs, _, .cons r rr => by
    obtain ⟨ws, w, e, r1, r2⟩ := Rs.snoc rr
    exact ⟨_ :: ws, w, by rw [e]; rfl, .cons r r1, r2⟩
end RD
set_option Elab.async false
set_option linter.all false
set_option maxRecDepth 100000
set_option maxHeartbeats 2000000
/-! DL73: a tuple of anything == (). -/
namespace DL
open PySem PySem.Spec PySem.W PyProof.Rows L2
end DL
namespace RD
open PySem PySem.Spec PyProof.Rows L2 DL
end RD
set_option Elab.async false
set_option linter.all false
set_option maxRecDepth 100000
set_option maxHeartbeats 2000000
/-! DL74: [told(w) for w in ws], ws a list of lambdas. -/
namespace L2
open PySem PySem.Spec PyProof.Rows
end L2
namespace RD
open PySem PySem.Spec PyProof.Rows L2 DL LamX
end RD
set_option Elab.async false
set_option linter.all false
set_option maxRecDepth 100000
set_option maxHeartbeats 2000000
/-! DL75: told(e), e a lambda of a list. -/
namespace RD
open PySem PySem.Spec PyProof.Rows L2 DL LamX
end RD
set_option Elab.async false
set_option linter.all false
set_option maxRecDepth 100000
set_option maxHeartbeats 2000000
/-! DL76: a, b, .. = a list. -/
namespace RD
open PySem PySem.Spec PyProof.Rows L2 DL
end RD
set_option Elab.async false
set_option linter.all false
set_option maxRecDepth 100000
set_option maxHeartbeats 2000000
/-! DL79: comprehensions whose name is read by a comprehension within. -/
namespace DL
open PySem PySem.Spec PyProof.Rows L2
end DL
namespace RD
open PySem PySem.Spec PyProof.Rows L2 DL
end RD
set_option Elab.async false
set_option linter.all false
set_option maxRecDepth 100000
set_option maxHeartbeats 2000000
/-! DL80: o.m( *e): a method called with all items of a list or tuple. -/
namespace DL
open PySem PySem.Spec PySem.Calls PyProof.Rows L2
end DL
namespace RD
open PySem PySem.Spec PyProof.Rows L2 DL
end RD
set_option Elab.async false
set_option linter.all false
set_option maxRecDepth 100000
set_option maxHeartbeats 2000000
/-! DL81: a, *b = a tuple; match e: case [a, *b] if g: .. case _: .. -/
namespace L2
open PySem PySem.Spec PySem.Calls PySem.W PyProof.Rows
end L2
namespace RD
open PySem PySem.Spec PyProof.Rows L2 DL
end RD
namespace DL
open PySem PySem.Spec PyProof.Rows L2
end DL
namespace RD
open PySem PySem.Spec PyProof.Rows L2 DL
end RD
set_option Elab.async false
set_option linter.all false
set_option maxRecDepth 100000
set_option maxHeartbeats 2000000
/-! DL82: X.get(e, f), X a dict of the module's with text keys and numbers. -/
namespace DL
open PySem PySem.Spec PySem.Calls PyProof.Rows L2
end DL
namespace RD
open PySem PySem.Spec PyProof.Rows L2 DL
end RD
set_option Elab.async false
set_option linter.all false
set_option maxRecDepth 100000
set_option maxHeartbeats 2000000
/-! DL83: try: suite / finally: suite, where the suite raises nothing and comes through. -/
namespace DL
open PySem PySem.Spec PySem.Calls PyProof.Rows L2
instance {X : Cx} [Calm X] {E : Value → Shared → Prop} : Calm (X.wish E) := ⟨Calm.h (X := X)⟩
end DL
namespace RD
open PySem PySem.Spec PyProof.Rows L2 DL
end RD
set_option Elab.async false
set_option linter.all false
set_option maxRecDepth 100000
set_option maxHeartbeats 2000000
/-! DL84: a list of anything == []; False in a list of bools. -/
namespace DL
open PySem PySem.Spec PySem.W PyProof.Rows L2
end DL
namespace RD
open PySem PySem.Spec PyProof.Rows L2 DL
end RD
set_option Elab.async false
set_option linter.all false
set_option maxRecDepth 100000
set_option maxHeartbeats 2000000
/-! DL85: {n:>2}, {n:_>26,}: a number in a field (by the way of PyProof/Rows/StrIntSpec, with a comma between groups). -/
set_option Elab.async false
set_option linter.all false
set_option maxRecDepth 100000
set_option maxHeartbeats 2000000
/-! DL86: {x:_<8}: a text in a field. -/
set_option Elab.async false
set_option linter.all false
set_option maxRecDepth 100000
set_option maxHeartbeats 2000000
/-! DL87: texts over data: text * int, str(n), int(text), join, split, strip(signs), f-strings. -/
namespace L2
open PySem PySem.Spec PyProof.Rows
end L2
namespace RD
open PySem PySem.Spec PyProof.Rows L2 DL
def asS (d : D) (f : Str → Prop) : Prop := match d with | .str z => f z | _ => False
theorem asS.out {d : D} {f : Str → Prop} (h : asS d f) : ∃ z, d = .str z ∧ f z := by
  unfold asS at h
  split at h
  · exact ⟨_, rfl, h⟩
  · exact h.elim
/-- a list of texts, frozen or owned -/
def strsC (o : O) (d : D) (f : List Str → Prop) : Prop := match d with
  | .lst ds => ∃ ys : List Str, ds = ys.map D.str ∧ f ys
  | .ref q => ∃ ys : List Str, o q = some (.lst (ys.map D.str)) ∧ f ys
  | _ => False
theorem strsC.out {o : O} {d : D} {f : List Str → Prop} (h : strsC o d f) : ∃ ys : List Str, (d = .lst (ys.map D.str) ∨ ∃ q, d = .ref q ∧ o q = some (.lst (ys.map D.str))) ∧ f ys := by
  unfold strsC at h
  split at h
  · obtain ⟨ys, e, q⟩ := h; exact ⟨ys, .inl (by rw [e]), q⟩
  · obtain ⟨ys, e, q⟩ := h; exact ⟨ys, .inr ⟨_, rfl, e⟩, q⟩
  · exact h.elim
end RD
set_option Elab.async false
set_option linter.all false
set_option maxRecDepth 100000
set_option maxHeartbeats 2000000
/-! DL88: for i, (k, v) in enumerate(d.items()). -/
namespace EnI
open PySem PySem.Spec PyProof.Rows PySem.Builtin
/-- an iterator over a dict's items, whatever pair it gave last -/
def It8 (h : Heap) (it d : Addr) (i n ep : Nat) : Prop := ∃ (x0 : Value) (f : Bool) (u v : Value), (x0 = .none ∨ ∃ a : Addr, x0 = rawInt a) ∧
  h.get? it = some { cls := .type "dict_itemiterator", dict := none, data := .fields #[x0, .bool f, .ref d, .int i 0, .int n 0, .int ep 0, u, v], slots := #[] }
section
variable {prog : Program} {w : World} {A : Around} {E : Value → Shared → Prop} {s : Shared}
theorem It8.ty {it d : Addr} {i n ep : Nat} (h : It8 s.heap it d i n ep) : s.TypeIs (.ref it) "dict_itemiterator" := let ⟨_, _, _, _, _, q⟩ := h; ⟨_, q, rfl⟩
end
end EnI
set_option Elab.async false
set_option linter.all false
set_option maxRecDepth 100000
set_option maxHeartbeats 2000000
/-! DL89: for i, (k, v) in enumerate(d.items()): the walk. -/
namespace EnI
open PySem PySem.Spec PyProof.Rows PySem.Builtin
end EnI
namespace L2
open PySem PySem.Spec PyProof.Rows EnI
end L2
namespace DL
open PySem PySem.Spec PyProof.Rows L2
end DL
namespace RD
open PySem PySem.Spec PyProof.Rows L2 DL
end RD
set_option Elab.async false
set_option linter.all false
set_option maxRecDepth 100000
set_option maxHeartbeats 2000000
/-! DL90: own exceptions of two numbers. -/
namespace DL
open PySem PySem.Spec PyProof.Rows L2
end DL
namespace RD
open PySem PySem.Spec PyProof.Rows L2 DL
end RD
set_option Elab.async false
set_option linter.all false
set_option maxRecDepth 100000
set_option maxHeartbeats 2000000
/-! DL91: bytes over data; lists with stars; x op= e; self.f += e; xs.extend; a text's index of a sign. -/
namespace RD
open PySem PySem.Spec PyProof.Rows L2 DL
section
variable {X : Cx} {τ : Tx} {k : Nat} {a b c e : Expr} {es : List Expr} {ta tb tc : RE} {tas : RA} {pos p p2 apos cpos : Pos} {x : Str}
/-! ### x op= e -/
/-! ### self.f += e -/
/-! ### lists with stars -/
def lstC (o : O) (d : D) (f : List D → Prop) : Prop := match d with
  | .lst ds => f ds
  | .ref q => ∃ ds, o q = some (.lst ds) ∧ f ds
  | _ => False
theorem lstC.out {o : O} {d : D} {f : List D → Prop} (h : lstC o d f) : ∃ ds, (d = .lst ds ∨ ∃ q, d = .ref q ∧ o q = some (.lst ds)) ∧ f ds := by
  unfold lstC at h
  split at h
  · exact ⟨_, .inl rfl, h⟩
  · obtain ⟨ds, e, q⟩ := h; exact ⟨ds, .inr ⟨_, rfl, e⟩, q⟩
  · exact h.elim
/-! ### xs.extend(e), xs owned -/
/-! ### z.index(sign) -/
/-! ### bytes -/
end
end RD
set_option Elab.async false
set_option linter.all false
set_option maxRecDepth 100000
set_option maxHeartbeats 2000000
/-! DL92: a number in a tuple of numbers. -/
namespace DL
open PySem PySem.Spec PySem.W PyProof.Rows L2
end DL
namespace RD
open PySem PySem.Spec PyProof.Rows L2 DL
end RD
set_option Elab.async false
set_option linter.all false
set_option maxRecDepth 100000
set_option maxHeartbeats 2000000
/-! DL93: with o as x (an own object's __enter__ and __exit__, nothing raised within); list(x) of an owned list; list(x) frozen or owned; a list frozen or not. -/
namespace RD
open PySem PySem.Spec PySem.Calls PyProof.Rows L2 DL
/-! ### list(x) -/
/-! ### frozen or not -/
/-! ### comprehensions whose list is to be written -/
end RD
set_option Elab.async false
set_option linter.all false
set_option maxRecDepth 100000
set_option maxHeartbeats 2000000
/-! DL94: [w() for w in ws], ws a list of lambdas (which stay). -/
namespace L2
open PySem PySem.Spec PyProof.Rows
end L2
namespace RD
open PySem PySem.Spec PyProof.Rows L2 DL LamX
end RD
set_option Elab.async false
set_option linter.all false
set_option maxRecDepth 100000
set_option maxHeartbeats 2000000
/-! DL95: o.m( *e), e a starred parameter. -/
namespace RD
open PySem PySem.Spec PySem.Calls PyProof.Rows L2 DL
end RD
set_option Elab.async false
set_option linter.all false
set_option maxRecDepth 100000
set_option maxHeartbeats 2000000
/-! DL96: try: suite / finally: suite, where the first may raise: the reading. -/
namespace DL
open PySem PySem.Spec PySem.Calls PyProof.Rows L2
theorem RX.step {K : PySem.W.Frag} {τ : Tx} {H H' : Hp} {o o' : O} {cls : Value} {d : Option Addr} {x : DX} (r : RX K τ H o cls d x) (l : Le H o H' o') : RX K τ H' o' cls d x := by
  obtain ⟨e, h⟩ := r
  refine ⟨e, ?_⟩
  rcases h with h | ⟨dd, gs, e1, e2, e3, e4⟩
  · exact .inl h
  · exact .inr ⟨dd, gs, e1, (l.ex e3 e2 rfl).1, (l.ex e3 e2 rfl).2, e4.mono l⟩
end DL
namespace RD
open PySem PySem.Spec PySem.Calls PyProof.Rows L2 DL
end RD
set_option Elab.async false
set_option linter.all false
set_option maxRecDepth 100000
set_option maxHeartbeats 2000000
/-! DL97: defs called while an exception is handled; they raise nothing. -/
namespace DL
open PySem PySem.Spec PySem.Calls PyProof.Rows L2 L2H
/-- what such a def promises -/
structure FnQ (P : Program) (w : World) (K : PySem.W.Frag) (mg : Str → Option Value) (base : Heap) (τ : Tx) (k : Nat) (f : Addr) (n : Nat) (S : DSp) : Prop where
  run : ∀ (A : Around) (outer : List Env) (s : Shared) (H : Hp) (us : List Value) (vs : List V) (ds : List D) (o : O) (Φ : D → O → Prop) (p : Addr × Obj), RoomH k A → PinOk outer H s p → Env0 P w K mg base A outer s H →
    Vals vs us → Rs K τ H o vs ds → Own K τ H o → ds.length = n → S ds o Φ (fun _ _ => False) → codeAny (model P w) A (.call (.ref f) ⟨us, []⟩) (CR (L2N.CX P w) outer P w H s (PostE K τ H o Φ) (fun _ _ _ => False)) s
section
variable {P : Program} {w : World} {K : PySem.W.Frag} {mg : Str → Option Value} {base : Heap} {τ : Tx}
theorem FnQ.of {x qual : Str} {st : Stmt} {f : Addr} {fd : FuncData} {N ps : List Str} {k : Nat} {S : DSp} {t : RD.RS} (F : Fun K x qual st f fd) (sc : FnScope N ps (defScope st)) (bd : Binds K fd ps [])
    (tr : ∀ (cdv : Value) (A : Around) (outer : List Env) (s : Shared) (H : Hp) (E : XK) (p : Addr × Obj), RD.TrSs (cxH (L2N.CX P w) P w K mg base N qual (defScope st) f cdv A outer s H E p) τ k (defBody st) t)
    (h : RD.BODY N.length t S) : FnQ P w K mg base τ (k + 1) f ps.length S := by
  obtain ⟨oc, od, kV, doc, pm, an, cdv, ct, osl, rfl, lk, hcd⟩ := F.ex
  refine ⟨fun A outer s H us vs ds o Φ p hr hpin e0 rv rs ow hn hS => ?_⟩
  have kin : K.In s.heap := e0.mod.kin.keeps fun b ob eb => (e0.bs b ob eb).1
  have nlim : s.heap.NoLimit := e0.mod.nolimit.keeps fun b ob eb => (e0.bs b ob eb).1
  have hv : vs.length = ps.length := rs.length.trans hn
  have hu : us.length = ps.length := rv.length.symm.trans hv
  have bb := bd s us kin (by rw [List.append_nil]; exact hu)
  rw [List.append_nil] at bb
  refine codeAny_call_function hr.depth (kin _ _ lk) rfl sc.co sc.gen rfl (PySem.W.codeRec_of kin hcd) (bb _ _ _ _ ?_)
  refine wpAny_newFunctionEnv_cells sc.kind (fun ⟨a, b⟩ hy => (sc.par a (List.of_mem_zip hy).1).imp id fun z => ⟨z, PySem.W.cellsFrom_some _ _ _ (.inl z)⟩) fun env he s1 xc => ?_
  subst he
  refine ⟨nlim.keeps xc.toInCall.keep, codeAny_func ?_⟩
  have I0 : Inv (cxH (L2N.CX P w) P w K mg base N qual (defScope st) f cdv A outer s H (fun _ _ _ => False) p) [] (L2.start N vs) H s1 := inv_startH sc hpin e0 hv rv xc
  have hrd := hr.deeper (envOfC qual (defScope st) s.heap.objs.size f cdv)
  let Γ : Gm (cxH (L2N.CX P w) P w K mg base N qual (defScope st) f cdv A outer s H (fun _ _ _ => False) p) τ k (fun _ _ _ => False) :=
    { H0 := H, o0 := o, W := fun cls d _ H' => False, tk := L2N.takes_of rfl rfl rfl rfl, po := passes_of rfl, rm := (fun z => nomatch z), un := hrd.un, nd := sc.nd, hW := fun _ _ _ _ _ _ _ _ _ z => z }
  have hlen : (L2.start N vs).length = (ds.map some ++ List.replicate (N.length - ds.length) none).length := by
    unfold L2.start
    rw [List.length_append, List.length_append, List.length_map, List.length_map, List.length_replicate, List.length_replicate, rs.length]
  have z := (tr cdv A outer s H _ p).h _ Γ _ _ _ (RD.force_out (h ds o Φ (fun _ _ => False) hS)) (L2.start N vs) H ⟨Le.refl, ow, hlen, fun i d hd => rs.start N i d hd⟩
  refine wpAny_mono (z [] s1 I0) (fun fl s' hs => ?_) fun e s' hs => hs
  cases fl with
  | next =>
    obtain ⟨σ', H', J, δ', o', ok', _, q⟩ := hs
    exact ⟨V.non, H', J.os, J.bare, J.base, J.hok, rfl, .non, o', ok'.own, ok'.le, .non, q⟩
  | ret u =>
    obtain ⟨v, σ', H', J, rvu, d, o', l, ow', rd, q⟩ := hs
    exact ⟨v, H', J.os, J.bare, J.base, J.hok, rvu, d, o', ow', l, rd, q⟩
  | brk =>
    obtain ⟨_, _, _, _, _, _, _, q⟩ := hs
    exact q.elim
  | cont =>
    obtain ⟨_, _, _, _, _, _, _, q⟩ := hs
    exact q.elim
end
end DL
set_option Elab.async false
set_option linter.all false
set_option maxRecDepth 100000
set_option maxHeartbeats 2000000
/-! DL98: with o as x, where the block may raise. -/
namespace L2
open PySem PySem.Spec PySem.Calls PyProof.Rows
end L2
set_option Elab.async false
set_option linter.all false
set_option maxRecDepth 100000
set_option maxHeartbeats 2000000
/-! DL99: with o as x, where the block may raise: the run. -/
namespace L2
open PySem PySem.Spec PySem.Calls PyProof.Rows PySem.W
end L2
set_option Elab.async false
set_option linter.all false
set_option maxRecDepth 100000
set_option maxHeartbeats 2000000
/-! DL100: with o as x, where the block may raise: the rule. -/
namespace DL
open PySem PySem.Spec PySem.Calls PyProof.Rows L2 L2H
end DL
namespace RD
open PySem PySem.Spec PySem.Calls PyProof.Rows L2 DL L2H
end RD
set_option Elab.async false
set_option linter.all false
set_option maxRecDepth 100000
set_option maxHeartbeats 2000000
/-! DL101: a tuple taken apart while an exception is handled; try: suite / finally: suite, where the first may raise. -/
namespace L2
open PySem PySem.Spec PySem.Calls PyProof.Rows L2H DL
end L2
namespace RD
open PySem PySem.Spec PySem.Calls PyProof.Rows L2 DL L2H
end RD
set_option Elab.async false
set_option linter.all false
set_option maxRecDepth 100000
set_option maxHeartbeats 2000000
/-! DL102: a list comprehension whose element may raise: the run. -/
namespace L2
open PySem PySem.Spec PySem.Calls PyProof.Rows
end L2
set_option Elab.async false
set_option linter.all false
set_option maxRecDepth 100000
set_option maxHeartbeats 2000000
/-! DL103: a list comprehension whose element may raise: the rule. -/
namespace L2
open PySem PySem.Spec PySem.Calls PyProof.Rows DL
end L2
set_option Elab.async false
set_option linter.all false
set_option maxRecDepth 100000
set_option maxHeartbeats 2000000
/-! DL104: a list comprehension whose element may raise, over data. -/
namespace DL
open PySem PySem.Spec PyProof.Rows L2
instance {X : Cx} [Calm X] {xe : Value → Shared → Prop} : Calm (X.wish xe) := ⟨Calm.h (X := X)⟩
end DL
namespace RD
open PySem PySem.Spec PyProof.Rows L2 DL
end RD
set_option Elab.async false
set_option linter.all false
/-! DL106: a raising comprehension's block is calm. -/
namespace DL
open PySem PySem.Spec PyProof.Rows L2
instance {X : Cx} [Calm X] {s : Shared} {H : Hp} {scope : Scope} {env : Env} {fp : List Addr} {xe : Value → Shared → Prop} : Calm ((X.blk s H scope env fp).wish xe) := ⟨Calm.h (X := X)⟩
end DL
set_option Elab.async false
set_option linter.all false
set_option maxRecDepth 100000
set_option maxHeartbeats 2000000
/-! DL78: comprehensions of three names over a tuple. -/
namespace DL
open PySem PySem.Spec PyProof.Rows L2
end DL
namespace RD
open PySem PySem.Spec PyProof.Rows L2 DL
end RD
set_option Elab.async false
set_option linter.all false
set_option maxRecDepth 100000
set_option maxHeartbeats 2000000
/-! DL107: defs, methods, properties called while an exception is handled; they raise nothing. -/
namespace DL
open PySem PySem.Spec PySem.Calls PyProof.Rows L2 L2H
/-- room, and the handled exception is known -/
def HotR (X : Cx) (k : Nat) : Prop := HotC X ∧ RoomH k X.A
/-- what such a def promises -/
structure FnW (P : Program) (w : World) (K : PySem.W.Frag) (mg : Str → Option Value) (base : Heap) (τ : Tx) (k : Nat) (f : Addr) (n : Nat) (S : DSp) : Prop where
  run : ∀ (A : Around) (outer : List Env) (s : Shared) (H : Hp) (us : List Value) (vs : List V) (ds : List D) (o : O) (Φ : D → O → Prop) (p : Addr × Obj), RoomH k A → Hot1 A p → PinOk outer H s p → Env0 P w K mg base A outer s H →
    Vals vs us → Rs K τ H o vs ds → Own K τ H o → ds.length = n → S ds o Φ (fun _ _ => False) → codeAny (model P w) A (.call (.ref f) ⟨us, []⟩) (CR (L2N.CX P w) outer P w H s (PostE K τ H o Φ) (fun _ _ _ => False)) s
  kp : PySem.W.keepIn K (.ref f) = true
section
variable {P : Program} {w : World} {K : PySem.W.Frag} {mg : Str → Option Value} {base : Heap} {τ : Tx}
theorem FnW.of {x qual : Str} {st : Stmt} {f : Addr} {fd : FuncData} {N ps : List Str} {k : Nat} {S : DSp} {t : RD.RS} (F : Fun K x qual st f fd) (sc : FnScope N ps (defScope st)) (bd : Binds K fd ps [])
    (tr : ∀ (cdv : Value) (A : Around) (outer : List Env) (s : Shared) (H : Hp) (E : XK) (p : Addr × Obj), HotR (cxH (L2N.CX P w) P w K mg base N qual (defScope st) f cdv A outer s H E p) k → RD.TrSs (cxH (L2N.CX P w) P w K mg base N qual (defScope st) f cdv A outer s H E p) τ k (defBody st) t)
    (h : RD.BODY N.length t S) : FnW P w K mg base τ (k + 1) f ps.length S := by
  refine ⟨?_, F.kp⟩
  obtain ⟨oc, od, kV, doc, pm, an, cdv, ct, osl, rfl, lk, hcd⟩ := F.ex
  refine fun A outer s H us vs ds o Φ p hr h1 hpin e0 rv rs ow hn hS => ?_
  have kin : K.In s.heap := e0.mod.kin.keeps fun b ob eb => (e0.bs b ob eb).1
  have nlim : s.heap.NoLimit := e0.mod.nolimit.keeps fun b ob eb => (e0.bs b ob eb).1
  have hv : vs.length = ps.length := rs.length.trans hn
  have hu : us.length = ps.length := rv.length.symm.trans hv
  have bb := bd s us kin (by rw [List.append_nil]; exact hu)
  rw [List.append_nil] at bb
  refine codeAny_call_function hr.depth (kin _ _ lk) rfl sc.co sc.gen rfl (PySem.W.codeRec_of kin hcd) (bb _ _ _ _ ?_)
  refine wpAny_newFunctionEnv_cells sc.kind (fun ⟨a, b⟩ hy => (sc.par a (List.of_mem_zip hy).1).imp id fun z => ⟨z, PySem.W.cellsFrom_some _ _ _ (.inl z)⟩) fun env he s1 xc => ?_
  subst he
  refine ⟨nlim.keeps xc.toInCall.keep, codeAny_func ?_⟩
  have I0 : Inv (cxH (L2N.CX P w) P w K mg base N qual (defScope st) f cdv A outer s H (fun _ _ _ => False) p) [] (L2.start N vs) H s1 := inv_startH sc hpin e0 hv rv xc
  have hrd := hr.deeper (envOfC qual (defScope st) s.heap.objs.size f cdv)
  let Γ : Gm (cxH (L2N.CX P w) P w K mg base N qual (defScope st) f cdv A outer s H (fun _ _ _ => False) p) τ k (fun _ _ _ => False) :=
    { H0 := H, o0 := o, W := fun cls d _ H' => False, tk := L2N.takes_of rfl rfl rfl rfl, po := passes_of rfl, rm := (fun z => nomatch z), un := hrd.un, nd := sc.nd, hW := fun _ _ _ _ _ _ _ _ _ z => z }
  have hlen : (L2.start N vs).length = (ds.map some ++ List.replicate (N.length - ds.length) none).length := by
    unfold L2.start
    rw [List.length_append, List.length_append, List.length_map, List.length_map, List.length_replicate, List.length_replicate, rs.length]
  have hotR : HotR (cxH (L2N.CX P w) P w K mg base N qual (defScope st) f cdv A outer s H (fun _ _ _ => False) p) k := ⟨⟨p, h1, List.mem_singleton.mpr rfl⟩, hrd⟩
  have z := (tr cdv A outer s H _ p hotR).h _ Γ _ _ _ (RD.force_out (h ds o Φ (fun _ _ => False) hS)) (L2.start N vs) H ⟨Le.refl, ow, hlen, fun i d hd => rs.start N i d hd⟩
  refine wpAny_mono (z [] s1 I0) (fun fl s' hs => ?_) fun e s' hs => hs
  cases fl with
  | next =>
    obtain ⟨σ', H', J, δ', o', ok', _, q⟩ := hs
    exact ⟨V.non, H', J.os, J.bare, J.base, J.hok, rfl, .non, o', ok'.own, ok'.le, .non, q⟩
  | ret u =>
    obtain ⟨v, σ', H', J, rvu, d, o', l, ow', rd, q⟩ := hs
    exact ⟨v, H', J.os, J.bare, J.base, J.hok, rvu, d, o', ow', l, rd, q⟩
  | brk =>
    obtain ⟨_, _, _, _, _, _, _, q⟩ := hs
    exact q.elim
  | cont =>
    obtain ⟨_, _, _, _, _, _, _, q⟩ := hs
    exact q.elim
end
section
variable {X : Cx} {τ : Tx} {k j n : Nat} {Ξ : DX → Δ → O → Prop} {Γ : Gm X τ k Ξ} {e a b c : Expr} {es : List Expr} {δ : Δ} {o : O} {pos p apos : Pos} {Φ : D → O → Prop} {S : DSp} {g C : Addr} {x m : Str}
theorem RoomH.in1 {A : Around} (r : RoomH (j + 1) A) : RoomH j A.in1 := ⟨by have := r.dp; show A.in1.depth + 3 * j + 5 < _; simp only [Around.in1]; omega, by have := r.un; show A.in1.units + 16 * j + 200 < _; simp only [Around.in1]; omega⟩
end
end DL
namespace RD
open PySem PySem.Spec PySem.Calls PyProof.Rows L2 DL L2H
end RD
set_option Elab.async false
set_option linter.all false
set_option maxRecDepth 100000
set_option maxHeartbeats 2000000
/-! DL108: a list comprehension over a tuple while an exception is handled. -/
namespace L2
open PySem PySem.Spec PySem.Calls PyProof.Rows L2H DL
end L2
namespace DL
open PySem PySem.Spec PySem.Calls PyProof.Rows L2 L2H
end DL
namespace RD
open PySem PySem.Spec PyProof.Rows L2 DL L2H
end RD
set_option Elab.async false
set_option linter.all false
set_option maxRecDepth 100000
set_option maxHeartbeats 2000000
/-! DL109: a, b = e1, e2 while an exception is handled; try: suite / except C: suite, the second returns. -/
namespace L2
open PySem PySem.Spec PySem.Calls PyProof.Rows L2H DL
end L2
namespace RD
open PySem PySem.Spec PySem.Calls PyProof.Rows L2 DL L2H
end RD
set_option Elab.async false
set_option linter.all false
set_option maxRecDepth 100000
set_option maxHeartbeats 2000000
/-! DL110: x == y == z of numbers. -/
namespace RD
open PySem PySem.Spec PyProof.Rows L2 DL
end RD
set_option Elab.async false
set_option linter.all false
set_option maxRecDepth 100000
set_option maxHeartbeats 2000000
/-! DL50: C(e, ..), the object stays owned. -/
namespace DL
open PySem PySem.Spec PyProof.Rows L2
end DL
namespace RD
open PySem PySem.Spec PyProof.Rows L2 DL
end RD
set_option Elab.async false
set_option linter.all false
set_option maxRecDepth 100000
set_option maxHeartbeats 2000000
/-! RD8: loops whose state is told (for defs with many slots: the state is compared by the kernel). -/
namespace RD
open PySem PySem.Spec PyProof.Rows L2 DL
end RD
set_option Elab.async false
set_option linter.all false
set_option maxRecDepth 100000
set_option maxHeartbeats 2000000
/-! DL111: list + list that is to be written; a new list is written no more; x.reverse(), d.clear(); for over an owned list. -/
namespace L2
open PySem PySem.Spec PyProof.Rows
def rClearD : V → List V → Hp → VK → Prop := fun x vs H Q => ∃ d kvs, x = .ref d ∧ vs = [] ∧ H d = some (.dK kvs) ∧ Q .non (upd H d (.dK []))
theorem mt_clearD {X : Cx} : MtM X "dict.clear" rClearD := by
  intro pins s σ H x vs v us Q I rx rv h
  obtain ⟨d, kvs, rfl, rfl, hH, q⟩ := h
  cases rx
  have hus := rv.zero
  subst hus
  exact d_clear I hH fun s' I' => ⟨.non, _, I', rfl, q⟩
end L2
namespace RD
open PySem PySem.Spec PyProof.Rows L2 DL
/-- a list and a list, a new owned list -/
def addLO (d1 d2 : D) (o : O) (Φ : D → O → Prop) : Prop := match d1, d2 with
  | .lst xs, .lst ys => xs.length + ys.length ≤ sizeLine ∧ ∀ T, o T = none → Φ (.ref T) (updO o T (.lst (xs ++ ys)))
  | _, _ => False
/-- a new list is written no more -/
def rFz (a : RE) : RE := fun Ξ δ o Φ => a Ξ δ o fun d o1 => (match d with | .ref q => ∃ oo ds, o1 = updO oo q (.lst ds) ∧ oo q = none ∧ Φ (.lst ds) oo | _ => False)
def rReverse0 (a : RE) : RE := fun Ξ δ o Φ => a Ξ δ o fun d o1 => (match d with | .ref q => ∃ ds, o1 q = some (.lst ds) ∧ Φ .non (updO o1 q (.lst ds.reverse)) | _ => False)
def rClear0 (a : RE) : RE := fun Ξ δ o Φ => a Ξ δ o fun d o1 => (match d with | .ref q => ∃ oo ds, o1 = updO oo q (.dct ds) ∧ oo q = none ∧ Φ .non oo | _ => False)
section
variable {X : Cx} {τ : Tx} {k : Nat} {a b iter : Expr} {ta tb : RE} {pos apos cpos : Pos} {body : List Stmt} {ts : RS} {g : RG}
theorem op2_addLO : Op2 X τ (rAddA X.K) addLO := by
  intro H o x y d1 d2 Φ Q r1 r2 w s k
  cases r1 <;> cases r2 <;> try (exact False.elim s)
  rename_i h1 n1 q1 _ _ _ h2 n2 q2
  exact .inr (.inr (.inl ⟨_, _, _, _, rfl, rfl, h1, h2, by rw [q1.length, q2.length]; exact s.1, fun p hp => k _ _ (newLO w hp (q1.append q2) s.2)⟩))
theorem t_addLO (ha : TrE X τ k a ta) (hb : TrE X τ k b tb) : TrE X τ k (.BinOp a .Add b pos) (r2 addLO ta tb) := .mk fun Ξ Γ δ o Φ h => we_bin op_addA op2_addLO ((ha.h _ _ _ _ _ h).mono fun _ _ h => hb.h _ _ _ _ _ h)
theorem t_fz (ha : TrE X τ k a ta) : TrE X τ k a (rFz ta) := .mk fun Ξ Γ δ o Φ q σ H ok =>
  cE_mono (ha.h _ Γ _ _ _ q σ H ok) fun v H1 ⟨d, o1, w, l, r, q⟩ => by
    cases d <;> first | exact q.elim | skip
    rename_i p
    obtain ⟨oo, ds, rfl, hoq, q⟩ := q
    cases r
    obtain ⟨w2, l2⟩ := w.less (updO_less hoq)
    obtain ⟨ws, hw1, hw2⟩ := w p _ updO_same
    exact ⟨.lst ds, oo, w2, l.trans l2, .lst hw1 hoq (hw2.mono l2), q⟩
theorem t_reverse0 (ha : TrE X τ k a ta) (hbase : attributeBase a "reverse" X.env (eval a X.env) = eval a X.env := by rfl) (hline : (apos.endLine == cpos.line) = true := by rfl) : TrE X τ k (.Call (.Attribute a "reverse" apos) [] [] cpos) (rReverse0 ta) := .mk fun Ξ Γ δ o Φ q σ H ok => by
  refine cE_of (pe_bm0 PySem.F.plainAttrs_list PySem.F.slot_list_reverse PySem.F.type_list_reverse mt_reverse pe_c hbase hline) ?_
  refine cE_mono (ha.h _ Γ _ _ _ q σ H ok) fun v H1 ⟨d, o1, w, l, r, q⟩ => ?_
  cases d <;> first | exact q.elim | skip
  rename_i p
  obtain ⟨ds, e, q⟩ := q
  cases r
  obtain ⟨vs, g1, g2⟩ := w _ _ e
  have lw : Le H1 o1 (upd H1 p (.lst vs.reverse)) (updO o1 p (.lst ds.reverse)) := Le.write e
  exact ⟨.inl ⟨rfl, vs, .of g1⟩, p, vs, rfl, rfl, g1, .non, updO o1 p (.lst ds.reverse), w.write e ⟨_, upd_same, g2.reverse_.mono lw⟩, l.trans lw, .non, q⟩
theorem t_clear0 (ha : TrE X τ k a ta) (hbase : attributeBase a "clear" X.env (eval a X.env) = eval a X.env := by rfl) (hline : (apos.endLine == cpos.line) = true := by rfl) : TrE X τ k (.Call (.Attribute a "clear" apos) [] [] cpos) (rClear0 ta) := .mk fun Ξ Γ δ o Φ q σ H ok => by
  refine cE_of (pe_bm0 PySem.F.plainAttrs_dict PySem.F.slot_dict_clear PySem.F.type_dict_clear mt_clearD pe_c hbase hline) ?_
  refine cE_mono (ha.h _ Γ _ _ _ q σ H ok) fun v H1 ⟨d, o1, w, l, r, q⟩ => ?_
  cases d <;> first | exact q.elim | skip
  rename_i p
  obtain ⟨oo, ds, rfl, hoq, q⟩ := q
  cases r
  obtain ⟨vs, g1, g2⟩ := w p _ updO_same
  have lw : Le H1 (updO oo p (.dct ds)) (upd H1 p (.dK [])) (updO (updO oo p (.dct ds)) p (.dct [])) := Le.write updO_same
  have w1 : Own X.K τ (upd H1 p (.dK [])) (updO (updO oo p (.dct ds)) p (.dct [])) := w.write updO_same ⟨_, upd_same, .nil⟩
  rw [updO_updO] at lw w1
  obtain ⟨w2, l2⟩ := w1.less (updO_less hoq)
  exact ⟨.inr (.inr (.inl ⟨rfl, .inl ⟨vs, g1⟩⟩)), p, vs, rfl, rfl, g1, .non, oo, w2, (l.trans lw).trans l2, .non, q⟩
/-- over a list that is to be written, but not by the loop -/
def sForO (ms cs : List Nat) (g : RG) (a : RE) (body : RS) : RS := fun Ξ δ o E => a Ξ δ o fun d o1 => (match d with
  | .ref src => ∃ xs, ∃ I : Nat → List (Option D) → O → Prop, I 0 (pick δ cs) o1 ∧ (∀ m cv o', I m cv o' → o' src = some (.lst xs)) ∧
    (∀ m d cv o', xs[m]? = some d → I m cv o' → force (putBack (swipe δ ms) cs cv) fun δw => g d δw o' fun δ1 o1 => body Ξ δ1 o1
      { nx := fun δ2 o2 => swipe δ2 ms = swipe δ ms ∧ I (m + 1) (pick δ2 cs) o2, rt := E.rt, bk := E.nx, ct := fun δ2 o2 => swipe δ2 ms = swipe δ ms ∧ I (m + 1) (pick δ2 cs) o2 }) ∧
    ∀ cv o', I xs.length cv o' → force (putBack (swipe δ ms) cs cv) fun δw => E.nx δw o'
  | _ => False)
theorem ws_forO {Ξ : DX → Δ → O → Prop} {Γ : Gm X τ k Ξ} {δ : Δ} {o : O} {E : DE} {tg : Expr} (h : WE Γ iter δ o fun d o1 => ∃ src xs, d = .ref src ∧ ∃ I : Nat → Δ → O → Prop, I 0 δ o1 ∧ (∀ m δ' o', I m δ' o' → o' src = some (.lst xs)) ∧
      (∀ m d δ' o', xs[m]? = some d → I m δ' o' → WG Γ tg d δ' o' fun δ1 o1 => WSs Γ body δ1 o1 { nx := I (m + 1), rt := E.rt, bk := E.nx, ct := I (m + 1) }) ∧ ∀ δ' o', I xs.length δ' o' → E.nx δ' o')
    (hc : X.calm = true := by rfl) (hs : ∀ x, foldedSetIterable iter X.env x = pure x := by intro _; rfl) : WS Γ (.For tg iter body [] pos) δ o E := fun σ H ok => by
  refine cS_of (ps_for Γ.po hc (pi_list pe_c) pg_c pss_c hs) ?_
  refine cE_mono (h σ H ok) fun v H1 ⟨d, o1, w, l, r, src, xs, e1, I, h0, hI, hb, hd⟩ => ?_
  subst e1
  cases r
  obtain ⟨vs, g1, g2⟩ := w src _ (hI _ _ _ h0)
  refine ⟨src, rfl, ⟨vs, .of g1⟩, fun i m σ' H' => m = xs.length - i ∧ i ≤ xs.length ∧ ∃ δ' o', Okk X.K τ Γ.H0 Γ.o0 σ' H' δ' o' ∧ Le H1 o1 H' o' ∧ I i δ' o', ⟨xs.length, by simp, Nat.zero_le _, δ, o1, ok.step l w, Le.refl, h0⟩, ?_⟩
  rintro i m σ' H' ⟨rfl, hi, δ', o', ok', l', hi'⟩
  obtain ⟨vs', k1, k2⟩ := ok'.own src _ (hI _ _ _ hi')
  have hlen := k2.length
  by_cases hlt : i < xs.length
  · obtain ⟨y, ey, ry⟩ := k2.get (List.getElem?_eq_getElem hlt)
    refine .inr ⟨⟨vs', y, .of k1, ey⟩, fun σ2 H2 => ∃ δ2 o2, Okk X.K τ Γ.H0 Γ.o0 σ2 H2 δ2 o2 ∧ Le H1 o1 H2 o2 ∧ I (i + 1) δ2 o2, fun σ2 H2 p2 => ⟨xs.length - (i + 1), by omega, rfl, hlt, p2⟩, fun x H2 yl => ?_⟩
    obtain ⟨rfl, yl⟩ := yl
    have ex := yl vs' (.of k1)
    obtain rfl : y = x := Option.some.inj (ey.symm.trans ex)
    refine cG_mono (hb i _ δ' o' (List.getElem?_eq_getElem hlt) hi' σ' _ y ok' ry) fun σ3 H3 ⟨δ3, o3, ok3, l3, q3⟩ => ?_
    exact cSs_mono (q3 σ3 H3 ok3) (fun _ _ ⟨δ4, o4, ok4, l4, q4⟩ => ⟨δ4, o4, ok4, (l'.trans l3).trans l4, q4⟩) (fun _ _ q => q) (fun _ _ ⟨δ4, o4, ok4, l4, q4⟩ => ⟨δ4, o4, ok4, ((l.trans l').trans l3).trans l4, q4⟩) fun _ _ ⟨δ4, o4, ok4, l4, q4⟩ => ⟨δ4, o4, ok4, (l'.trans l3).trans l4, q4⟩
  · have e : i = xs.length := by omega
    subst e
    exact .inl ⟨⟨vs', .of k1, by omega⟩, δ', o', ok', l.trans l', hd _ _ hi'⟩
theorem s_forO {tg : Expr} (ms cs : List Nat) (h : TrE X τ k iter ta) (hg : TrG X τ k tg g) (hb : TrSs X τ k body ts) (hc : X.calm = true := by rfl) (hs : ∀ x, foldedSetIterable iter X.env x = pure x := by intro _; rfl) : TrS X τ k (.For tg iter body [] pos) (sForO ms cs g ta ts) := .mk fun Ξ Γ δ o E q =>
  WS.wk (ws_forO ((h.h _ _ _ _ _ q).mono fun d o1 q => by
    cases d <;> first | exact q.elim | skip
    rename_i src
    obtain ⟨xs, I, h0, hI, hb1, hd⟩ := q
    refine ⟨src, xs, rfl, fun m δ' o' => swipe δ' ms = swipe δ ms ∧ I m (pick δ' cs) o', ⟨rfl, h0⟩, fun m δ' o' h => hI _ _ _ h.2, fun m d δ' o' e ⟨hw, hi⟩ => ?_, fun δ' o' ⟨hw, hi⟩ => ⟨_, Sub.loop hw, force_out (hd _ _ hi)⟩⟩
    refine RD.WG.weak (Sub.loop hw) (WG.mono (hg.h _ Γ _ _ _ _ (force_out (hb1 m d _ o' e hi))) fun δ1 o1 h1 => ?_)
    exact WSs.mono (hb.h _ Γ _ _ _ h1) (fun _ _ q => q) (fun _ _ q => q) (fun _ _ q => ⟨_, .refl, q⟩) (fun _ _ q => q)) hc hs)
end
end RD
set_option Elab.async false
set_option linter.all false
set_option maxRecDepth 100000
set_option maxHeartbeats 2000000
/-! DL112: a call that knows no list; a test that leaves lists alone. -/
namespace DL
open PySem PySem.Spec PyProof.Rows L2
/-- a list is tracked there -/
def isLs : Option HO → Bool
  | some (.lst _) => true
  | _ => false
theorem isLs_of {u : Option HO} (h : isLs u = true) : ∃ vs, u = some (.lst vs) := by
  unfold isLs at h
  split at h
  · exact ⟨_, rfl⟩
  · cases h
/-- lists are tracked no more -/
def cutH (H : Hp) : Hp := fun b => if isLs (H b) = true then none else H b
theorem cutH_some {H : Hp} {b : Addr} {x : HO} (h : cutH H b = some x) : H b = some x ∧ isLs (some x) = false := by
  unfold cutH at h
  split at h
  · cases h
  · rename_i e
    refine ⟨h, ?_⟩
    rw [← h]
    simpa using e
theorem cutH_no {H : Hp} {b : Addr} {x : HO} (h : H b = some x) (hx : isLs (some x) = false) : cutH H b = some x := by
  unfold cutH
  rw [h, if_neg (by rw [hx]; exact Bool.false_ne_true)]
/-- .. are owned no more -/
def cutO (o : O) : O := fun b => match o b with | some (.lst _) => none | y => y
theorem cutO_some {o : O} {b : Addr} {y : OS} (h : cutO o b = some y) : o b = some y ∧ ∀ ds, y ≠ .lst ds := by
  unfold cutO at h
  split at h
  · cases h
  · rename_i hn
    refine ⟨h, fun ds e => ?_⟩
    subst e
    exact hn ds h
theorem cutO_none {o : O} {b : Addr} (h : o b = none) : cutO o b = none := by unfold cutO; rw [h]
/-- lists, and tables of code objects -/
def LT (o : O) : Prop := ∀ a y, o a = some y → (∃ ds, y = .lst ds) ∨ ∃ q, y = .tbl q
theorem cutO_tbl {o : O} (l : LT o) {b : Addr} {y : OS} (h : cutO o b = some y) : o b = some y ∧ ∃ q, y = .tbl q := by
  obtain ⟨h1, h2⟩ := cutO_some h
  rcases l b y h1 with ⟨ds, e⟩ | h3
  · exact absurd e (h2 ds)
  · exact ⟨h1, h3⟩
theorem cutO_was {o : O} {b : Addr} (h : cutO o b = none) : o b = none ∨ ∃ ds, o b = some (.lst ds) := by
  unfold cutO at h
  split at h
  · rename_i ds e; exact .inr ⟨ds, e⟩
  · exact .inl h
/-- .. come back -/
def joinH (H H1 : Hp) : Hp := fun b => if isLs (H b) = true then H b else H1 b
theorem joinH_ls {H H1 : Hp} {b : Addr} (h : isLs (H b) = true) : joinH H H1 b = H b := by unfold joinH; rw [if_pos h]
theorem joinH_no {H H1 : Hp} {b : Addr} (h : isLs (H b) = false) : joinH H H1 b = H1 b := by unfold joinH; rw [if_neg (by rw [h]; exact Bool.false_ne_true)]
/-! ### data without lists -/
mutual
def noL : D → Bool
  | .tup ds => noLs ds
  | .ptup ds => noLs ds
  | .lst _ => false
  | .scr _ => false
  | .dct _ => false
  | _ => true
def noLs : List D → Bool
  | [] => true
  | d :: ds => noL d && noLs ds
end
theorem noL_songs : ∀ ss : List (Str × Int), noLs (ss.map songD) = true
  | [] => by rw [List.map_nil, noLs.eq_def]
  | p :: ss => by
    rw [List.map_cons, noLs.eq_def]
    show (noL (.tup [.str p.1, .int p.2]) && noLs (ss.map songD)) = true
    rw [noL_songs ss, noL.eq_def]
    simp [noLs, noL]
section
variable {K : PySem.W.Frag} {τ : Tx} {H : Hp} {o : O}
theorem Rd.cutL {a : Addr} {u : HO} (h : Rd H a u) (h1 : isLs (some u) = false) (h2 : ∀ ob, isLs (some (.frz ob u)) = false := by intro _; rfl) : Rd (cutH H) a u := by
  rcases h with h | ⟨ob, h⟩
  · exact .inl (cutH_no h h1)
  · exact .inr ⟨ob, cutH_no h (h2 ob)⟩
theorem SqTm.cutL {a : Addr} {xs : List V} (h : SqTm K H o a xs) : SqTm K (cutH H) o a xs := by
  rcases h with h | h
  · exact .inl ⟨Rd.cutL h.1 rfl, h.2⟩
  · exact .inr h
mutual
theorem R.cutL {v : V} {d : D} : R K τ H o v d → noL d = true → R K τ (cutH H) o v d
  | .non, _ => .non
  | .bl b, _ => .bl b
  | .int i, _ => .int i
  | .str x, _ => .str x
  | .byt x, _ => .byt x
  | .ref a, _ => .ref a
  | .ty n, _ => .ty n
  | .tup h r, e => .tup h.cutL (r.cutL (by rw [noL.eq_def] at e; exact e))
  | .ptup h hp n r, e => .ptup (cutH_no h rfl) hp n (r.cutL (by rw [noL.eq_def] at e; exact e))
  | .lst h n r, e => by rw [noL.eq_def] at e; cases e
  | .scr h, e => by rw [noL.eq_def] at e; cases e
  | .dct h n r, e => by rw [noL.eq_def] at e; cases e
  | .deck h n, _ => .deck (cutH_no h rfl) n
  | .tape h n r hb nb, _ => .tape (cutH_no h rfl) n (r.cutL (by rw [noL.eq_def]; exact noL_songs _)) (Rd.cutL hb rfl) nb
theorem Rs.cutL {vs : List V} {ds : List D} : Rs K τ H o vs ds → noLs ds = true → Rs K τ (cutH H) o vs ds
  | .nil, _ => .nil
  | .cons h r, e => by
    rw [noLs.eq_def] at e
    have e := Bool.and_eq_true_iff.mp e
    exact .cons (h.cutL e.1) (r.cutL e.2)
end
theorem Own.tbls (w : Own K τ H o) (l : LT o) : Own K τ (cutH H) (cutO o) := fun a y e => by
  obtain ⟨e1, q, rfl⟩ := cutO_tbl l e
  obtain ⟨ps, h1, h2, h3⟩ := w a _ e1
  exact ⟨ps, cutH_no h1 rfl, h2, fun p cv z => let ⟨c, y1, y2, y3⟩ := h3 p cv z; ⟨c, y1, cutH_no y2 rfl, cutO_none y3⟩⟩
end
/-! ### the call -/
theorem cut_hok {P : Program} {w : World} {H : Hp} {h : Heap} (x : HOk P w H h) : HOk P w (cutH H) h := fun a u e => by
  obtain ⟨e1, _⟩ := cutH_some e
  exact (x a u e1).stay (fun _ _ _ k => k) (fun b hb => cutH_no hb rfl) fun b xs hb => cutH_no hb rfl
theorem ls_get {P : Program} {w : World} {H : Hp} {h : Heap} {a : Addr} (x : HOk P w H h) (e : isLs (H a) = true) : ∃ vs its n, H a = some (.lst vs) ∧ vs.length ≤ sizeLine ∧ Vals vs its ∧ h.get? a = some { cls := .type "list", data := .seq its.toArray n } := by
  obtain ⟨vs, e⟩ := isLs_of e
  obtain ⟨z, its, n, r, g⟩ := x a _ e
  exact ⟨vs, its, n, e, z, r, g⟩
section
variable {X : Cx} {τ : Tx} {k j n : Nat} {Ξ : DX → Δ → O → Prop} {Γ : Gm X τ k Ξ} {e : Expr} {es : List Expr} {δ : Δ} {o : O} {pos p : Pos} {Φ : D → O → Prop} {S : DSp} {g : Addr} {x : Str}
/-- what has come of a call that knew no list -/
def Smal (X : Cx) (τ : Tx) (H : Hp) (o : O) (Φ : D → O → Prop) (v : V) (H' : Hp) : Prop := ∃ H1 d o1, H' = joinH H H1 ∧ (∀ b, isLs (H b) = true → H1 b = none) ∧ Own X.K τ H1 o1 ∧ Le (cutH H) (cutO o) H1 o1 ∧ R X.K τ H1 o1 v d ∧ Φ d o1
theorem runS {pins : List (Addr × Obj)} {s : Shared} {σ : L2.St} {H : Hp} {vs : List V} {us : List Value} {ds : List D} (F : FnX X τ j g n S) (hr : Room j X.A) (I : Inv X pins σ H s)
    (w : Own X.K τ H o) (l : LT o) (r : Vals vs us) (rd : Rs X.K τ H o vs ds) (nl : noLs ds = true) (hn : ds.length = n) (h : S ds (cutO o) Φ fun _ _ => False) : wpAny (model X.prog X.w) X.A (call (.ref g) us) (EP X pins σ (Smal X τ H o Φ)) X.xe s := by
  have e0 := I.env0
  have e1 : Env0 X.prog X.w X.K X.mg X.base X.A X.stack s (cutH H) := ⟨e0.frames, e0.mod, fun b ob eb => ⟨(e0.bs b ob eb).1, by unfold cutH; rw [(e0.bs b ob eb).2]; rfl⟩, e0.bsz, e0.funs, fun b hb => by unfold cutH; rw [e0.frf b hb]; rfl, cut_hok e0.hok, e0.bare⟩
  have lo : Le H o H (cutO o) := Le.mk fun a y na e => ⟨e, cutO_none na⟩
  refine wpAny_call (codeAny_mono (F.run X.A X.stack s (cutH H) us vs (PostE X.K τ (cutH H) (cutO o) Φ) (fun _ _ _ => False) hr e1 r ⟨ds, cutO o, Φ, fun _ _ => False, (rd.mono lo).cutL nl, w.tbls l, hn, h, fun _ _ q => q, fun _ _ _ _ _ _ _ _ f => f⟩) fun r s' hq => ?_)
  cases r with
  | error er => obtain ⟨_, _, _, _, _, _, _, _, _, _, _, _, f⟩ := hq; exact f.elim
  | ok fl =>
    cases fl with
    | next => exact False.elim hq
    | brk => exact False.elim hq
    | cont => exact False.elim hq
    | ret u =>
      obtain ⟨v, H1, os, bare, un, hok, rv, d, o1, w1, l1, r1, q⟩ := hq
      have gone : ∀ b, isLs (H b) = true → H1 b = none ∧ s'.heap.get? b = s.heap.get? b := fun b hb => by
        obtain ⟨vs, its, n, e, z, rr, gg⟩ := ls_get I.hok hb
        have c0 : cutH H b = none := by unfold cutH; rw [if_pos hb]
        have nf : b ∉ frs X.stack := fun hm => by rw [I.stkFree b hm] at e; cases e
        exact ⟨un.free b _ gg c0 (by simp), (un.keep b _ gg c0 nf (by simp)).trans gg.symm⟩
      have was : ∀ {b : Addr} {ob : Obj}, H b = none → cutH H b = none := fun {b ob} e => by unfold cutH; rw [e]; rfl
      refine I.after ⟨v, joinH H H1, os, bare, ⟨fun b ob eb nb => un.keep b ob eb (was (ob := ob) nb), fun b ob eb nb => un.slot b ob eb (was (ob := ob) nb), fun b ob eb nb hx => ?_, un.there, fun b xs e => ?_, fun b ob u e => ?_, fun b ps e => ?_⟩, fun b u e => ?_, rv, H1, d, o1, rfl, fun b hb => (gone b hb).1, w1, l1, r1, q⟩
      · rw [joinH_no (by rw [nb]; rfl)]
        exact un.free b ob eb (was (ob := ob) nb) hx
      · rw [joinH_no (by rw [e]; rfl)]
        exact un.tups b xs (cutH_no e rfl)
      · rw [joinH_no (by rw [e]; rfl)]
        exact un.frzs b ob u (cutH_no e rfl)
      · rw [joinH_no (by rw [e]; rfl)]
        exact un.tbls b ps (cutH_no e rfl)
      · cases hb : isLs (H b) with
        | true =>
          rw [joinH_ls hb] at e
          obtain ⟨vs, its, n, e2, z, rr, gg⟩ := ls_get I.hok hb
          rw [e2] at e
          cases e
          exact ⟨z, its, n, rr, (gone b hb).2.trans gg⟩
        | false =>
          rw [joinH_no hb] at e
          have up : ∀ b2 u2, H1 b2 = some u2 → joinH H H1 b2 = some u2 := fun b2 u2 e2 => by
            cases hb2 : isLs (H b2) with
            | true => rw [(gone b2 hb2).1] at e2; cases e2
            | false => rw [joinH_no hb2]; exact e2
          exact (hok b u e).stay (fun _ _ _ k => k) (fun b2 h2 => up b2 _ h2) fun b2 xs h2 => up b2 _ h2
/-- f(e, ..), f knows no list -/
theorem cE_callS [Calm X] {σ : L2.St} {H : Hp} (F : DefD X.prog X.w X.K X.mg X.base τ x j n S) (ok : Okk X.K τ Γ.H0 Γ.o0 σ H δ o) (l : LT o) (h : WA Γ (e :: es) δ o fun ds o1 => o1 = o ∧ ds.length = n ∧ noLs ds = true ∧ S ds (cutO o) Φ fun _ _ => False)
    (hj : j ≤ k := by decide) (hg : Gl X x := by rfl) (hdb : (x == ("__debug__" : Str)) = false := by decide)
    (he : starEach (e :: es) X.env = (false, eval e X.env) :: starEach es X.env := by rfl) (hpl : (backTo pos (starEach es X.env)).any (·.1) = false := by rfl) :
    cE X (.Call (.Name x p) (e :: es) [] pos) σ H fun v H' => ∃ Ha, Le H o Ha o ∧ Own X.K τ Ha o ∧ Smal X τ Ha o Φ v H' := by
  obtain ⟨f, hm, F⟩ := F.ex
  intro pins s I
  refine wpAny_Call_Name_kw (ld_glob I hg hm ?_ hdb)
  refine PySem.W.callWith_K (h₀ := X.base) I.ok.mod.kin F.kp (thn (h σ H ok pos pins s I) fun us s1 ⟨vs, H1, I1, r, ds, o1, w1, l1, rd, e1, hn, nl, q⟩ => ⟨I1.kIn, ?_⟩) he hpl
  subst e1
  exact thn (runS F (Γ.room.mono hj) I1 w1 l r rd nl hn q) fun u s2 z => EP.imp z fun v H' q => ⟨H1, l1, w1, q⟩
end
/-! ### the test -/
section
variable {X : Cx} {c : Expr}
/-- lists that the test leaves alone: Dp -/
theorem cT_frame {σ : L2.St} {H : Hp} {Dp : Addr → Bool} {Q : Bool → Hp → Prop} (hD : ∀ b, Dp b = true → isLs (H b) = true) (h : cT X c σ (fun b => if Dp b = true then none else H b) Q) :
    cT X c σ H fun b H2 => ∃ Hc, Q b Hc ∧ (∀ b, Dp b = true → Hc b = none) ∧ H2 = fun b => if Dp b = true then H b else Hc b := by
  intro pins s I
  have dn : ∀ {b : Addr}, H b = none → Dp b = false := fun {b} e => by
    cases q : Dp b with
    | false => rfl
    | true => have := hD b q; rw [e] at this; cases this
  have dno : ∀ {b : Addr} {u : HO}, H b = some u → isLs (some u) = false → Dp b = false := fun {b u} e hu => by
    cases q : Dp b with
    | false => rfl
    | true => have := hD b q; rw [e, hu] at this; cases this
  have offN : ∀ {b : Addr}, H b = none → (if Dp b = true then none else H b) = none := fun {b} e => by rw [e]; split <;> rfl
  have offS : ∀ {b : Addr} {u : HO}, H b = some u → isLs (some u) = false → (if Dp b = true then none else H b) = some u := fun {b u} e hu => by rw [dno e hu, e]; rfl
  have fsFree : ∀ b ∈ X.fs, H b = none := fun b hb => by
    rcases I.ok.stk with e | ⟨e, hf⟩
    · exact I.stkFree b (by rw [e]; exact hb)
    · exact I.stkFree b (by rw [e]; unfold frs; rw [List.filterMap_cons, hf]; exact List.mem_cons_of_mem _ hb)
  let L := (List.range s.heap.objs.size).filter fun b => Dp b
  have inL : ∀ b, Dp b = true → b ∈ L := fun b hb => by
    obtain ⟨vs, its, n, e, z, r, gg⟩ := ls_get I.hok (hD b hb)
    exact List.mem_filter.mpr ⟨List.mem_range.mpr (Heap.lt_size gg), hb⟩
  have J0 : Inv X (pins ++ pinsAt L s.heap) σ (fun b => if Dp b = true then none else H b) s := by
    refine ⟨I.ok, I.os, I.bare, ⟨I.base.keep, I.base.slot, fun b ob eb nb hx => offN (I.base.free b ob eb nb hx), I.base.there, fun b xs e => offS (I.base.tups b xs e) rfl, fun b ob u e => offS (I.base.frzs b ob u e) rfl, fun b ps e => ?_⟩, I.loc, I.cell, offN I.free, fun y c ec => offN (I.freeC y c ec), fun q hq => ?_, fun b u e => ?_, I.len⟩
    · obtain ⟨more, hm⟩ := I.base.tbls b ps e
      exact ⟨more, offS hm rfl⟩
    · rcases List.mem_append.mp hq with hq | hq
      · have y := I.pin q (List.mem_append_left _ hq)
        exact ⟨y.1, offN y.2.1, y.2.2⟩
      · rcases List.mem_append.mp hq with hq | hq
        · have y := I.pin q (List.mem_append_right _ hq)
          exact ⟨y.1, offN y.2.1, y.2.2⟩
        · obtain ⟨hb, e⟩ := of_pinsAt hq
          have hb := (List.mem_filter.mp hb).2
          obtain ⟨vs, its, n, e2, z, r, gg⟩ := ls_get I.hok (hD q.1 hb)
          refine ⟨e, by rw [if_pos hb], fun y => ?_, fun y => ?_, fun v y => ?_⟩
          · rw [y, I.free] at e2; cases e2
          · rw [fsFree _ y] at e2; cases e2
          · rw [gg] at e
            rw [← Option.some.inj e] at y
            cases y
    · have hb : Dp b = false := by
        cases q : Dp b with
        | false => rfl
        | true => rw [if_pos q] at e; cases e
      rw [hb] at e
      exact (I.hok b u e).stay (fun _ _ _ k => k) (fun b2 h2 => offS h2 rfl) fun b2 xs h2 => offS h2 rfl
  refine thn (h _ s J0) fun b s2 ⟨Hc, J, q⟩ => ?_
  have pinD : ∀ b, Dp b = true → s2.heap.get? b = s.heap.get? b ∧ Hc b = none := fun b hb => by
    obtain ⟨vs, its, n, e2, z, r, gg⟩ := ls_get I.hok (hD b hb)
    have y := J.pin (b, _) (List.mem_append_right _ (List.mem_append_right _ (mem_pinsAt (inL b hb) gg)))
    exact ⟨y.1.trans gg.symm, y.2.1⟩
  have onN : ∀ {b : Addr}, Dp b = false → (if Dp b = true then H b else Hc b) = Hc b := fun {b} e => by rw [e]; rfl
  refine ⟨_, ⟨J.ok, J.os, J.bare, ⟨J.base.keep, J.base.slot, fun b ob eb nb hx => ?_, J.base.there, fun b xs e => ?_, fun b ob u e => ?_, fun b ps e => ?_⟩, J.loc, J.cell, ?_, fun y c ec => ?_, fun q hq => ?_, fun b u e => ?_, J.len⟩, Hc, q, fun b hb => (pinD b hb).2, rfl⟩
  · exact (onN (dn (I.base.free b ob eb nb hx))).trans (J.base.free b ob eb nb hx)
  · exact (onN (dno (I.base.tups b xs e) rfl)).trans (J.base.tups b xs e)
  · exact (onN (dno (I.base.frzs b ob u e) rfl)).trans (J.base.frzs b ob u e)
  · obtain ⟨more, hm⟩ := I.base.tbls b ps e
    obtain ⟨more2, hm2⟩ := J.base.tbls b ps e
    exact ⟨more2, (onN (dno hm rfl)).trans hm2⟩
  · exact (onN (dn I.free)).trans J.free
  · exact (onN (dn (I.freeC y c ec))).trans (J.freeC y c ec)
  · have a := I.pin q hq
    have b := J.pin q (by rcases List.mem_append.mp hq with z | z; exact List.mem_append_left _ z; exact List.mem_append_right _ (List.mem_append_left _ z))
    exact ⟨b.1, (onN (dn a.2.1)).trans b.2.1, b.2.2⟩
  · have up : ∀ b2 u2, Hc b2 = some u2 → (if Dp b2 = true then H b2 else Hc b2) = some u2 := fun b2 u2 e2 => by
      cases hb2 : Dp b2 with
      | true => rw [(pinD b2 hb2).2] at e2; cases e2
      | false => exact e2
    cases hb : Dp b with
    | true =>
      rw [if_pos hb] at e
      obtain ⟨vs, its, n, e2, z, r, gg⟩ := ls_get I.hok (hD b hb)
      rw [e2] at e
      cases e
      exact ⟨z, its, n, r, (pinD b hb).1.trans gg⟩
    | false =>
      rw [hb] at e
      exact (J.hok b u e).stay (fun _ _ _ k => k) (fun b2 h2 => up b2 _ h2) fun b2 xs h2 => up b2 _ h2
end
end DL
set_option Elab.async false
set_option linter.all false
set_option maxRecDepth 100000
set_option maxHeartbeats 2000000
/-! DL113: x = f(..); if c: ..: what f gave is compared, then its lists are to be written. -/
namespace DL
open PySem PySem.Spec PyProof.Rows L2
def okV : V → Bool
  | .flt _ => false
  | _ => true
def toD : V → D
  | .non => .non
  | .bl b => .bl b
  | .int i => .int i
  | .str x => .str x
  | .byt b => .byt b
  | .ref a => .ref a
  | .ty n => .ty n
  | .flt _ => .non
section
variable {K : PySem.W.Frag} {τ : Tx} {H : Hp} {o : O}
theorem toD_R {v : V} (h : okV v = true) : R K τ H o v (toD v) := by
  cases v <;> first | exact .non | exact .bl _ | exact .int _ | exact .str _ | exact .byt _ | exact .ref _ | exact .ty _ | cases h
theorem toD_Rs : ∀ {vs : List V}, vs.all okV = true → Rs K τ H o vs (vs.map toD)
  | [], _ => .nil
  | v :: vs, h => by
    rw [List.all_cons] at h
    have h := Bool.and_eq_true_iff.mp h
    exact .cons (toD_R h.1) (toD_Rs h.2)
theorem R.okV {v : V} {d : D} (r : R K τ H o v d) : DL.okV v = true := by cases r <;> rfl
theorem Rs.okV : ∀ {vs : List V} {ds : List D}, Rs K τ H o vs ds → vs.all DL.okV = true
  | _, _, .nil => rfl
  | _, _, .cons h r => by rw [List.all_cons, h.okV, r.okV] <;> rfl
end
/-- all lists that are new are owned -/
def thawO (o : O) (Ha H2 : Hp) : O := fun b => match o b with
  | some y => some y
  | none => match Ha b, H2 b with
    | none, some (.lst vs) => if vs.all okV = true then some (.lst (vs.map toD)) else none
    | _, _ => none
theorem thaw_old {o : O} {Ha H2 : Hp} {b : Addr} {y : OS} (h : o b = some y) : thawO o Ha H2 b = some y := by unfold thawO; rw [h]
theorem thaw_new {o : O} {Ha H2 : Hp} {b : Addr} {vs : List V} (h : o b = none) (ha : Ha b = none) (h2 : H2 b = some (.lst vs)) (k : vs.all okV = true) : thawO o Ha H2 b = some (.lst (vs.map toD)) := by
  unfold thawO; rw [h, ha, h2]; exact if_pos k
theorem thaw_was {o : O} {Ha H2 : Hp} {b : Addr} {x : HO} (h : o b = none) (ha : Ha b = some x) : thawO o Ha H2 b = none := by
  unfold thawO; rw [h, ha]
theorem thaw_not {o : O} {Ha H2 : Hp} {b : Addr} {x : HO} (h : o b = none) (h2 : H2 b = some x) (hx : isLs (some x) = false) : thawO o Ha H2 b = none := by
  unfold thawO
  rw [h, h2]
  cases Ha b with
  | some y => rfl
  | none => cases x <;> first | rfl | cases hx
theorem thaw_inv {o : O} {Ha H2 : Hp} {b : Addr} {y : OS} (h : thawO o Ha H2 b = some y) : o b = some y ∨ (o b = none ∧ ∃ vs, H2 b = some (.lst vs) ∧ vs.all okV = true ∧ y = .lst (vs.map toD)) := by
  unfold thawO at h
  cases e : o b with
  | some z => rw [e] at h; exact .inl h
  | none =>
    rw [e] at h
    dsimp only at h
    split at h
    · rename_i vs h1 h2
      split at h
      · rename_i k
        cases h
        exact .inr ⟨rfl, vs, h2, k, rfl⟩
      · cases h
    · cases h
/-- T's lists, T itself are owned; so may others be that are new -/
def Thawed (o : O) (ds : List D) (T : Addr) (oJ : O) : Prop := (∀ a y, o a = some y → oJ a = some y) ∧ (∀ a y, oJ a = some y → o a = some y ∨ ∃ l, y = .lst l) ∧ o T = none ∧
  ∃ items, oJ T = some (.lst items) ∧ items.length = ds.length ∧ ∀ (j : Nat) (l : List D), ds[j]? = some (.lst l) → ∃ a, items[j]? = some (.ref a) ∧ a ≠ T ∧ o a = none ∧ ∃ l', oJ a = some (.lst l') ∧ l'.length = l.length
end DL
namespace RD
open PySem PySem.Spec PyProof.Rows L2 DL
/-- i = f(..), f a def that knows no list and gives a new one; the test c comes out false -/
def sFresh (i : Nat) (S : DSp) (ta : RA) (tc : RT) (trest : RS) : RS := fun Ξ δ o E => LT o ∧ ta Ξ δ o fun ds o1 => o1 = o ∧ noLs ds = true ∧ CALL S ds (cutO o) (fun d o2 => ∃ T ds', d = .ref T ∧ o2 = updO (cutO o) T (.lst ds') ∧ cutO o T = none ∧
  force (sset δ i (some (.lst ds'))) fun δ1 => tc XN δ1 (cutO o) fun b o3 => b = false ∧ o3 = cutO o ∧ ∀ T' oJ, Thawed o ds' T' oJ → force (sset δ i (some (.ref T'))) fun δ2 => trest Ξ δ2 oJ E) (fun _ _ => False)
section
variable {X : Cx} {τ : Tx} {k j n : Nat} {e c : Expr} {es : List Expr} {pos p px spos ipos : Pos} {tas : RA} {tc : RT} {tr : RS} {x f : Str} {S : DSp} {tt rest : List Stmt}
theorem ss_fresh [Calm X] (i : Nat) (F : DefD X.prog X.w X.K X.mg X.base τ f j n S) (ha : TrA X τ k (e :: es) tas) (hc : TrT X τ k c tc) (hr : TrSs X τ k rest tr) (hn : (e :: es).length = n := by rfl) (hj : j ≤ k := by decide) (hg : Gl X f := by rfl) (hdb : (f == ("__debug__" : Str)) = false := by decide)
    (he : starEach (e :: es) X.env = (false, eval e X.env) :: starEach es X.env := by rfl) (hpl : (backTo pos (starEach es X.env)).any (·.1) = false := by rfl)
    (hi : X.N[i]? = some x := by rfl) (hx : Loc X.env.scope x := by first | exact Or.inl rfl | exact Or.inr rfl) (hs : swapsWith (.Call (.Name f p) (e :: es) [] pos) (some (.Name x px)) spos.line X.env = pure false := by rfl)
    (hfx : X.fn x = true ∨ X.env.scope.names.lookup x = some .local := by first | exact .inl rfl | exact .inr rfl) :
    TrSs X τ k (.Assign [.Name x px] (.Call (.Name f p) (e :: es) [] pos) spos :: .If c tt [] ipos :: rest) (sFresh i S tas tc tr) := .mk fun Ξ Γ δ o E q => fun σ H ok => by
  obtain ⟨lt, q⟩ := q
  refine cSs_of (pss_cons ps_c pss_c) ?_
  refine cS_of (ps_set Γ.nd hi hx pe_c hs hfx) ?_
  refine cE_mono (cE_callS F ok lt ((ha.h _ Γ _ _ _ q).mono fun ds o1 ⟨hl, e1, nl, q⟩ => ⟨e1, hl.trans hn, nl, q.out⟩) hj hg hdb he hpl) fun v H' ⟨Ha, la, wa, H1, d, o1, eH, gone, w1, l1, r1, T, ds', ed, eo, hT, q⟩ => ?_
  subst ed
  cases r1
  have okA := ok.step la wa
  -- lists that are owned are old
  have lsOwn : ∀ a ds, o a = some (.lst ds) → isLs (Ha a) = true := fun a ds e => by
    obtain ⟨vs, g, _⟩ := wa a _ e
    rw [g]; rfl
  have oNone : ∀ {a : Addr} {u : HO}, cutO o a = none → H1 a = some u → o a = none := fun {a u} na e => by
    rcases cutO_was na with z | ⟨ds, z⟩
    · exact z
    · rw [gone a (lsOwn a ds z)] at e; cases e
  have oldNo : ∀ {a : Addr} {u : HO}, H1 a = some u → isLs (Ha a) = false := fun {a u} e => by
    cases z : isLs (Ha a) with
    | false => rfl
    | true => rw [gone a z] at e; cases e
  have newA : ∀ {a : Addr} {vs : List V}, cutO o a = none → H1 a = some (.lst vs) → Ha a = none := fun {a vs} na e => by
    cases z : Ha a with
    | none => rfl
    | some u =>
      have zl : isLs (some u) = false := by rw [← z]; exact oldNo e
      obtain ⟨⟨y, ey, s⟩, _⟩ := l1 a u na (cutH_no z zl)
      rw [e] at ey
      cases ey
      rcases s with s | ⟨kvs, ob, s, t⟩
      · subst s; cases zl
      · cases t
  obtain ⟨vsT, hT1, rsT⟩ := w1 T (.lst ds') (by rw [eo]; exact updO_same)
  have hoT : o T = none := oNone hT hT1
  have haT : Ha T = none := newA hT hT1
  have o1_ne : ∀ {a : Addr}, o1 a = none → a ≠ T ∧ cutO o a = none := fun {a} na => by
    have ne : a ≠ T := fun z => by rw [z, eo, updO_same] at na; cases na
    rw [eo, updO_ne ne] at na
    exact ⟨ne, na⟩
  have joinE : ∀ {a : Addr} {u : HO}, H1 a = some u → H' a = some u := fun {a u} e => by rw [eH, joinH_no (oldNo e)]; exact e
  have leF : Le H1 o1 H' o := Le.mk fun a u na e => ⟨joinE e, oNone (o1_ne na).2 e⟩
  have leA : Le Ha o H' o := fun a u na e => by
    cases z : isLs (Ha a) with
    | true => exact ⟨⟨u, by rw [eH, joinH_ls z]; exact e, .inl rfl⟩, na⟩
    | false =>
      obtain ⟨⟨y, ey, s⟩, _⟩ := l1 a u (cutO_none na) (cutH_no e (by rw [← e]; exact z))
      exact ⟨⟨y, joinE ey, s⟩, na⟩
  have own' : Own X.K τ H' o := fun a y ey => by
    rcases lt a y ey with ⟨ds, rfl⟩ | ⟨tq, rfl⟩
    · obtain ⟨vs, g1, g2⟩ := wa a _ ey
      exact ⟨vs, by rw [eH, joinH_ls (lsOwn a ds ey)]; exact g1, g2.mono leA⟩
    · have ne : a ≠ T := fun z => by rw [z, hoT] at ey; cases ey
      have ec : cutO o a = some (.tbl tq) := by unfold cutO; rw [ey]
      obtain ⟨ps, h1, h2, h3⟩ := w1 a (.tbl tq) (by rw [eo, updO_ne ne]; exact ec)
      exact ⟨ps, joinE h1, h2, fun p cv z => let ⟨cc, y1, y2, y3⟩ := h3 p cv z; ⟨cc, y1, joinE y2, oNone (o1_ne y3).2 y2⟩⟩
  have okB := (okA.step leA own').set i (R.lst (joinE hT1) hoT (rsT.mono leF))
  refine cSs_of (pss_cons ps_c pss_c) ?_
  refine cS_of (ps_if pt_c pss_c pss_c) ?_
  let Dp : Addr → Bool := fun b => match o b with | some (.lst _) => true | _ => false
  have dp_of : ∀ {b : Addr}, Dp b = true → ∃ ds, o b = some (.lst ds) := fun {b} h => by
    have h : (match o b with | some (.lst _) => true | _ => false) = true := h
    split at h
    · exact ⟨_, by assumption⟩
    · cases h
  have dp_no : ∀ {b : Addr}, o b = none → Dp b = false := fun {b} h => by show (match o b with | some (.lst _) => true | _ => false) = false; rw [h]
  have dp_tbl : ∀ {b : Addr} {tq : Str}, o b = some (.tbl tq) → Dp b = false := fun {b tq} h => by show (match o b with | some (.lst _) => true | _ => false) = false; rw [h]
  have dp_lst : ∀ {b : Addr} {ds : List D}, o b = some (.lst ds) → Dp b = true := fun {b ds} h => by show (match o b with | some (.lst _) => true | _ => false) = true; rw [h]
  have hD : ∀ b, Dp b = true → isLs (H' b) = true := fun b h => by
    obtain ⟨ds, e⟩ := dp_of h
    rw [eH, joinH_ls (lsOwn b ds e)]
    exact lsOwn b ds e
  have offE : ∀ {b : Addr} {u : HO}, Dp b = false → H' b = some u → (fun b => if Dp b = true then none else H' b) b = some u := fun {b u} d e => by
    show (if Dp b = true then none else H' b) = some u
    rw [d]; exact e
  have leD : Le H' o (fun b => if Dp b = true then none else H' b) (cutO o) := Le.mk fun a u na e => ⟨offE (dp_no na) e, cutO_none na⟩
  have ownD : Own X.K τ (fun b => if Dp b = true then none else H' b) (cutO o) := fun a y ey => by
    obtain ⟨e1, tq, rfl⟩ := cutO_tbl lt ey
    obtain ⟨ps, h1, h2, h3⟩ := own' a _ e1
    exact ⟨ps, offE (dp_tbl e1) h1, h2, fun p cv z => let ⟨cc, y1, y2, y3⟩ := h3 p cv z; ⟨cc, y1, offE (dp_no y3) y2, cutO_none y3⟩⟩
  have okD : Okk X.K τ (fun b => if Dp b = true then none else H' b) (cutO o) (σ.set i (some (.ref T))) (fun b => if Dp b = true then none else H' b) (δ.set i (some (.lst ds'))) (cutO o) :=
    ⟨Le.refl, ownD, okB.len, fun m d h => let ⟨v, e1, r⟩ := okB.slot m d h; ⟨v, e1, r.mono leD⟩⟩
  let Γc : Gm X τ k XN := { H0 := fun b => if Dp b = true then none else H' b, o0 := cutO o, W := fun _ _ _ _ => False, tk := takes0N, po := Γ.po, hW := fun _ _ _ _ _ _ _ _ _ z => z, rm := Γ.rm, un := Γ.un, nd := Γ.nd }
  have q := force_out q
  rw [sset_eq] at q
  refine cT_mono (cT_frame hD (hc.h _ Γc _ _ _ q _ _ okD)) fun b H2 ⟨Hc, ⟨o3, w3, l3, eb, eo3, q3⟩, gone3, eH2⟩ => ?_
  subst eb
  subst eo3
  rw [if_neg Bool.false_ne_true]
  refine cSs_of pss_nil ?_
  have backE : ∀ {a : Addr}, Dp a = false → H2 a = Hc a := fun {a} d => by rw [eH2]; show (if Dp a = true then H' a else Hc a) = Hc a; rw [d]; rfl
  have keepE : ∀ {a : Addr}, Dp a = true → H2 a = H' a := fun {a} d => by rw [eH2]; show (if Dp a = true then H' a else Hc a) = H' a; rw [d]; rfl
  have chain : ∀ {a : Addr} {u : HO}, o a = none → H' a = some u → ∃ y, H2 a = some y ∧ Sm u y := fun {a u} na e => by
    obtain ⟨⟨y, ey, s⟩, _⟩ := l3 a u (cutO_none na) (offE (dp_no na) e)
    exact ⟨y, (backE (dp_no na)).trans ey, s⟩
  have chainL : ∀ {a : Addr} {vs : List V}, o a = none → H' a = some (.lst vs) → H2 a = some (.lst vs) := fun {a vs} na e => by
    obtain ⟨y, ey, s⟩ := chain na e
    rcases s with s | ⟨kvs, ob, s, t⟩
    · subst s; exact ey
    · cases s
  have leJ : Le Ha o H2 (thawO o Ha H2) := fun a u na e => by
    obtain ⟨⟨y, ey, s⟩, _⟩ := leA a u na e
    obtain ⟨z, ez, s2⟩ := chain na ey
    exact ⟨⟨z, ez, s.trans s2⟩, thaw_was na e⟩
  have ownJ : Own X.K τ H2 (thawO o Ha H2) := fun a y ey => by
    rcases thaw_inv ey with e | ⟨e, vs, h2, kk, rfl⟩
    · rcases lt a y e with ⟨ds, rfl⟩ | ⟨tq, rfl⟩
      · obtain ⟨vs, g1, g2⟩ := wa a _ e
        exact ⟨vs, by rw [keepE (dp_lst e), eH, joinH_ls (lsOwn a ds e)]; exact g1, g2.mono leJ⟩
      · have ec : cutO o a = some (.tbl tq) := by unfold cutO; rw [e]
        obtain ⟨ps, h1, h2, h3⟩ := w3 a _ ec
        refine ⟨ps, (backE (dp_tbl e)).trans h1, h2, fun p cv z => ?_⟩
        obtain ⟨cc, y1, y2, y3⟩ := h3 p cv z
        have dc : Dp cc = false := by
          cases zz : Dp cc with
          | false => rfl
          | true => rw [gone3 cc zz] at y2; cases y2
        have oc : o cc = none := by
          rcases cutO_was y3 with z | ⟨ds, z⟩
          · exact z
          · rw [dp_lst z] at dc; cases dc
        have h2c : H2 cc = some (LamX.CodeO cc tq) := (backE dc).trans y2
        exact ⟨cc, y1, h2c, thaw_not oc h2c rfl⟩
    · exact ⟨vs, h2, toD_Rs kk⟩
  have thawed : Thawed o ds' T (thawO o Ha H2) := by
    have h2T := chainL hoT (joinE hT1)
    refine ⟨fun a y h => thaw_old h, fun a y h => ?_, hoT, vsT.map toD, thaw_new hoT haT h2T rsT.okV, by rw [List.length_map, rsT.length], fun jj l hl => ?_⟩
    · rcases thaw_inv h with e | ⟨_, vs, _, _, e⟩
      · exact .inl e
      · exact .inr ⟨_, e⟩
    · obtain ⟨v, ev, rv⟩ := rsT.get hl
      cases rv with
      | @lst a vs _ hv na rs =>
        obtain ⟨ne, nc⟩ := o1_ne na
        have oa := oNone nc hv
        refine ⟨a, by rw [List.getElem?_map, ev]; rfl, ne, oa, vs.map toD, thaw_new oa (newA nc hv) (chainL oa (joinE hv)) rs.okV, by rw [List.length_map, rs.length]⟩
  have okJ := (okA.step leJ ownJ).set i (R.ref (K := X.K) (τ := τ) (H := H2) (o := thawO o Ha H2) T)
  have q4 := force_out (q3 T _ thawed)
  rw [sset_eq] at q4
  exact toE_cSs (la.trans leJ) (hr.h _ Γ _ _ _ q4 _ _ okJ)
end
end RD
set_option Elab.async false
set_option linter.all false
set_option maxRecDepth 100000
set_option maxHeartbeats 2000000
/-! DL114: what is owned is written no more. -/
namespace RD
open PySem PySem.Spec PyProof.Rows L2 DL
def sDrop (t : RS) : RS := fun Ξ δ o E => ∃ o' : O, (∀ a y, o' a = some y → o a = some y) ∧ t Ξ δ o' E
theorem ss_drop {X : Cx} {τ : Tx} {k : Nat} {sts : List Stmt} {ts : RS} (h : TrSs X τ k sts ts) : TrSs X τ k sts (sDrop ts) := .mk fun Ξ Γ δ o E ⟨o', hl, q⟩ => fun σ H ok => by
  obtain ⟨w, l⟩ := ok.own.less hl
  exact toE_cSs l (h.h _ Γ _ _ _ q σ H (ok.step l w))
end RD
set_option Elab.async false
set_option linter.all false
set_option maxRecDepth 100000
set_option maxHeartbeats 2000000
/-! L08s: k08: what its defs do. -/
namespace TC
open PySem PySem.Spec PyProof.Rows L2 DL RD
/-- the first of the best orders -/
def IsFirst (ss : Songs) (ns : List Str) (p : Int) (l : List Str) : Prop := ∃ i, (candsN ss ns p)[i]? = some l ∧ FirstMin (fun i => wound ss p (((candsN ss ns p)[i]?).getD [])) (candsN ss ns p).length i
theorem IsFirst.one {ss : Songs} {ns : List Str} {p : Int} {l l' : List Str} (h : IsFirst ss ns p l) (h' : IsFirst ss ns p l') : l = l' := by
  obtain ⟨i, e, a, b⟩ := h
  obtain ⟨i', e', a', b'⟩ := h'
  have c1 := b i' a'
  have c2 := b' i a
  rcases Nat.lt_trichotomy i i' with z | z | z
  · have := c2.2 z; omega
  · subst z; rw [e] at e'; exact Option.some.inj e'
  · have := c1.2 z; omega
open Classical in
noncomputable def bestN (ss : Songs) (ns : List Str) (p : Int) : List Str := if h : ∃ l, IsFirst ss ns p l then h.choose else []
theorem bestN_is {ss : Songs} {ns : List Str} {p : Int} {l : List Str} (h : IsFirst ss ns p l) : bestN ss ns p = l := by
  have e : ∃ l, IsFirst ss ns p l := ⟨l, h⟩
  unfold bestN
  rw [dif_pos e]
  exact e.choose_spec.one h
/-- what the calls of a case give -/
noncomputable def told8 (c g : Int) (ss : Songs) : List D :=
  [.lst ((alike c g ss).map fun ns => .lst (ns.map D.str)), .lst ((songsAt c g ss 1).map D.str), .lst ((bestN ss (ss.map (·.1)) (total ss)).map D.str), .lst (itemsD (readingsD c g ss)),
   .lst [.tup [.int (turns c g (total ss / 2)), .int (turns c g (total ss - total ss / 2))], .tup [.int (turns 4 1 (len c g 3)), .int (turns 4 1 (len c g (3 + 1) - 1))]],
   .lst [.tup [.int (len c g 5), .int (len c g (5 + 1) - 1)], .tup (ss.map songD)],
   .lst [.int (wound ss 0 (ss.map (·.1))), .tup (ss.map fun p => .str p.1), .tup (ss.reverse.map songD)]]
section
variable (π : Str → Addr) (ε : Excs)
noncomputable def S_bestD : DSp := fun ds o Φ Ξ => ∃ ss ns p, ds = [.tape ss, .lst (List.map D.str ns), .int p] ∧ OkTape ss ∧ ns.length ≤ 1000 ∧ badName ss 0 [] ns = none ∧ 0 ≤ p ∧ p ≤ total ss ∧ tblB π o ∧ Φ (.lst ((bestN ss ns p).map D.str)) o
noncomputable def S_begin_readingsO : DSp := fun ds o Φ _ => ∃ c g ss, ds = [.deck c g, .tape ss] ∧ OkDeck c g ∧ OkTape ss ∧ ∀ q, o q = none → Φ (.ref q) (updO o q (.dct (readingsD c g ss)))
noncomputable def S_told8 : DSp := fun ds o Φ _ => ∃ c g ss, ds = [.tup [.deck c g, .tape ss]] ∧ OkDeck c g ∧ OkTape ss ∧ tblB π o ∧ ∀ T, o T = none → Φ (.ref T) (updO o T (.lst (told8 c g ss)))
def S_kept (m : Nat) : DSp := fun ds o Φ _ => ∃ d, ds = [d] ∧ alkD m d ∧ Φ d o
end
end TC
set_option Elab.async false
set_option linter.all false
set_option maxRecDepth 100000
set_option maxHeartbeats 2000000
/-! L08t: readings (printed from the law's text). -/
namespace TC
open PySem DL RD
section
variable (τ : Tx) (ε : Excs) (π : Str → Addr)
/-- slots: 0 _law_thing, 1 _law_part; loops carry [] -/
noncomputable def t_kept (Sr : DSp) : RS := (sCons (sIf (tVal (rIs isLi (rVar 0)))
  (sRet (rLcL [1] (turn1 (gName 1) (rCall Sr (rACons (rVar 1) rANil))) (rVar 0)))
  sNil)
  (sRet (rIf (tVal (rIs isTu (rVar 0))) (r1 tupleS (rLcT [1] (turn1 (gName 1) (rCall Sr (rACons (rVar 1) rANil))) (rVar 0))) (rVar 0))))
/-- slots: 0 _law_case, 1 _law_deck, 2 _law_tape_here, 3 _law_names, 4 _law_told_here; loops carry [] -/
noncomputable def t_told8 : RS := (sCons (sAsg (gTup [1, 2]) (rVar 0))
  (sCons (sSet 3 (r1 listS (rPrpT (S_names) (rVar 2))))
  (sCons (sSet 4 (rLstO (rACons (rCall (S_alike) (rACons (rVar 1) (rACons (rVar 2) rANil))) (rACons (rCall (S_songs_at ε) (rACons (rVar 1) (rACons (rVar 2) (rACons (rC (.int 1)) rANil)))) (rACons (rCall (S_bestD π) (rACons (rVar 2) (rACons (rVar 3) (rACons (rPrpT (S_size) (rVar 2)) rANil)))) rANil)))))
  (sCons (sExpr (rAppend (rVar 4) (rListItems (rCall (S_begin_readings) (rACons (rVar 1) (rACons (rVar 2) rANil))))))
  (sCons (sExpr (rAppend (rVar 4) (rLst (rACons (rCall (S_counters ε) (rACons (rVar 1) (rACons (rVar 2) (rACons (r2 fdivS (rPrpT (S_size) (rVar 2)) (rC (.int 2))) rANil)))) (rACons (rCall (S_rrange ε) (rACons (rVar 1) (rACons (rCall (SM_Deck ε) (rACons (rC (.int 4)) (rACons (rC (.int 1)) rANil))) (rACons (rC (.int 3)) rANil)))) rANil)))))
  (sCons (sExpr (rAppend (rVar 4) (rLst (rACons (rMethD (S_cells_at ε) (rVar 1) (rACons (rC (.int 5)) rANil)) (rACons (rPrpT (S_songs) (rVar 2)) rANil)))))
  (sFrz 4 (sRet (r2 addLO (rVar 4) (rLst (rACons (rLst (rACons (rCall (S_winding ε) (rACons (rVar 2) (rACons (rVar 3) (rACons (rC (.int 0)) rANil)))) (rACons (rPrpT (S_names) (rVar 2)) (rACons (rPrpT (S_songs) (rMethT (S_tape_inv) (rVar 2) rANil)) rANil)))) rANil)))))))))))
noncomputable def t_law08_c1 : RS := (sCons (sForR1 [3, 6, 7, 8] [] (gName 6) (rACons (rCall (S_taken) (rACons (rVar 1) (rACons (rC (.int 9)) rANil))) rANil)
  (sCons (sSet 3 (rCall (S_taken) (rACons (rVar 1) (rACons (rC (.int 2)) rANil))))
  (sFresh 7 (S_told8 π) (rACons (r2 ixS (rVar 2) (rVar 3)) rANil) (tNot (tVal (rCall (S_alk 4) (rACons (rVar 7) (rACons (r2 ixS (rVar 5) (rVar 3)) rANil)))))
  (sCons (sExpr (rClear0 (rCall (S_begin_readingsO) (rACons (r2 ixS (r2 ixS (rVar 2) (rVar 3)) (rC (.int 0))) (rACons (r2 ixS (r2 ixS (rVar 2) (rVar 3)) (rC (.int 1))) rANil)))))
  (sForO [8] [] (gName 8) (rVar 7)
  (sCons (sExpr (rAppend (rVar 8) (rC (.int 5))))
  (sExpr (rReverse0 (rVar 8)))))))))
  (sRet (rC (.bl true))))
/-- slots: 0 _law_script, 1 _law_row, 2 _law_cases, 3 _law_k, 4 _law_pair_here, 5 _law_kept_here, 6 _law_turn, 7 _law_told_here, 8 _law_thing, 9 _law_case; loops carry [('[]', []), ('[]', []), ('[]', [])] -/
noncomputable def t_law08 : RS := (sDrop (sCons (sSet 1 (rLstO (rACons (rVar 0) (rACons (rC (.int 0)) (rACons (rC (.int 0)) (rACons (rC (.int 0)) rANil))))))
  (sCons (sSet 2 (rLstO rANil))
  (sCons (sForR1 [3, 4] [] (gName 3) (rACons (rC (.int 2)) rANil)
  (sCons (sSet 4 (rCall (S_pair) (rACons (rVar 1) rANil)))
  (sExpr (rAppend (rVar 2) (rTup (rACons (rCall (SM_Deck ε) (rACons (r2 ixS (rVar 4) (rC (.int 0))) (rACons (r2 ixS (rVar 4) (rC (.int 1))) rANil))) (rACons (rCall (S_ltape) (rACons (r2 addS (rLst (rACons (rTup (rACons (rC (.str "q")) (rACons (rC (.int 1)) rANil))) (rACons (rTup (rACons (rC (.str "w")) (rACons (rC (.int 1)) rANil))) rANil))) (rCall (S_lsongs) (rACons (rVar 1) (rACons (rC (.int 6)) (rACons (rC (.int 20)) rANil))))) rANil)) rANil)))))))
  (sFrz 2 (sCons (sSet 5 (rLcL [9] (turn1 (gName 9) (rCall (S_kept 4) (rACons (rFz (rCall (S_told8 π) (rACons (rVar 9) rANil))) rANil))) (rVar 2)))
  (t_law08_c1 π)))))))
end
end TC
set_option Elab.async false
set_option linter.all false
set_option maxRecDepth 100000
set_option maxHeartbeats 2000000
/-! L19: songs of one length, turns of one length. -/
namespace TC
open PySem PySem.Spec PyProof.Rows L2 DL RD
theorem mkM_Deck {P : Program} {w : World} {K : PySem.W.Frag} {mg : Str → Option Value} {base : Heap} {τ : Tx} {ε : Excs} (G : MakD P w K mg base τ "Deck" τ.deck 3 3 (S_Deck_init τ ε)) : MkM P w K mg base τ "Deck" τ.deck 3 2 (SM_Deck ε) :=
  ⟨S_Deck_init τ ε, G, fun ds o Φ Ξ δ q hq _ ⟨d1, d2, e, a1, a2, h⟩ => by subst e; exact use_Deck_init hq h a1 a2⟩
end TC
set_option Elab.async false
set_option linter.all false
set_option maxRecDepth 100000
set_option maxHeartbeats 2000000
/-! L12: the first cell behind; decks and tapes of so many times as many cells. -/
set_option Elab.async false
set_option linter.all false
set_option maxRecDepth 100000
set_option maxHeartbeats 2000000
/-! L20: readings of songs: maths. -/
set_option Elab.async false
set_option linter.all false
set_option maxRecDepth 100000
set_option maxHeartbeats 2000000
/-! L20t: readings (printed from the law's text). -/
set_option Elab.async false
set_option linter.all false
set_option maxRecDepth 100000
set_option maxHeartbeats 2000000
/-! L20b: law k20's defs. -/
namespace TC
open PySem PySem.Spec PyProof.Rows L2 DL RD
structure Tb (o : O) (tb : List (Str × Addr)) (f : Str → List Int) (o' : O) : Prop where
  ext : Ext o o'
  nd : (tb.map (·.2)).Nodup
  at_ : ∀ p ∈ tb, o p.2 = none ∧ o' p.2 = some (.lst ((f p.1).map D.int))
theorem Tb.put {o o' : O} {tb : List (Str × Addr)} {f : Str → List Int} (h : Tb o tb f o') (hn : (tb.map (·.1)).Nodup) {n : Str} {q : Addr} (hm : (n, q) ∈ tb) (r : Int) : Tb o tb (fun x => if x = n then f x ++ [r] else f x) (updO o' q (.lst ((f n).map D.int ++ [.int r]))) := by
  refine ⟨fun a y e => ?_, h.nd, fun p hp => ⟨(h.at_ p hp).1, ?_⟩⟩
  · have : a ≠ q := fun z => by have := (h.at_ _ hm).1; rw [← z, e] at this; cases this
    rw [updO_ne this]
    exact h.ext a y e
  · by_cases e : p.1 = n
    · have : p = (n, q) := nodup_inj hn hp hm e
      subst this
      dsimp only
      rw [updO_same, if_pos rfl, List.map_append]
      rfl
    · have : p.2 ≠ q := fun z => e (by have := nodup_inj h.nd hp hm z; rw [this])
      rw [updO_ne this, (h.at_ p hp).2, if_neg e]
end TC
set_option Elab.async false
set_option linter.all false
set_option maxRecDepth 100000
set_option maxHeartbeats 2000000
/-! L07: mathematics of k07: all songs of a tape wound; decks that fall behind. -/
set_option Elab.async false
set_option linter.all false
set_option maxRecDepth 100000
set_option maxHeartbeats 2000000
/-! Dk1 (printed by gen_tp2.py): readings of the package's defs. -/
set_option Elab.async false
set_option linter.all false
set_option maxRecDepth 100000
set_option maxHeartbeats 2000000
/-! L12t: readings (printed from the law's text). -/
set_option Elab.async false
set_option linter.all false
set_option maxRecDepth 100000
set_option maxHeartbeats 2000000
/-! L12b: first_behind; k12's own defs. -/
set_option Elab.async false
set_option linter.all false
set_option maxRecDepth 100000
set_option maxHeartbeats 2000000
/-! L07s: k07's own defs: what they do; decks that differ. -/
set_option Elab.async false
set_option linter.all false
set_option maxRecDepth 100000
set_option maxHeartbeats 2000000
/-! L02s: k02: what its own defs do; cells in a row. -/
set_option Elab.async false
set_option linter.all false
set_option maxRecDepth 100000
set_option maxHeartbeats 2000000
/-! L02t: readings (printed from the law's text). -/
set_option Elab.async false
set_option linter.all false
set_option maxRecDepth 100000
set_option maxHeartbeats 2000000
/-! L02: k02's own defs and the law. -/
namespace TC
open PySem PySem.Spec PyProof.Rows L2 DL RD
theorem b_pair : BODY 2 t_pair S_pair := by
  rintro ds o Φ Ξ ⟨r, ns, rfl, hr, h⟩
  refine call (use_taken (many := 3) hr fun i o1 i0 i1 hr1 hb1 => ?_)
  refine pickL3 i0 i1 ?_ ?_ ?_
  all_goals
    refine call (use_taken hr1 fun a o2 a0 a1 hr2 hb2 => ?_)
    refine call (use_taken (many := 3) hr2 fun j o3 j0 j1 hr3 hb3 => ?_)
    refine pickL3 j0 j1 ?_ ?_ ?_
    all_goals
      refine call (use_taken hr3 fun b o4 b0 b1 hr4 hb4 => ?_)
      exact h (1 + a) b o4 (by omega) (by omega) (by omega) (by omega) hr4 (((hb1.trans hb2).trans hb3).trans hb4)
theorem rr_ok {ε : Excs} {c g c' g' r : Int} {o : O} {Φ : D → O → Prop} {Ξ : DX → O → Prop} (k : OkDeck c g) (k' : OkDeck c' g') (h0 : 0 ≤ r) (h1 : r ≤ M18) (h : Φ (.tup [.int (turns c' g' (len c g r)), .int (turns c' g' (len c g (r + 1) - 1))]) o) : S_rrange ε [.deck c g, .deck c' g', .int r] o Φ Ξ :=
  ⟨c, g, c', g', _, rfl, k, k', rfl, by rw [if_pos (isIn_i h0 h1)]; exact ⟨r, rfl, h0, h1, h⟩⟩
end TC
set_option Elab.async false
set_option linter.all false
set_option maxRecDepth 100000
set_option maxHeartbeats 4000000
/-! L08: k08: best_order tells the first of the best orders; begin_readings; _law_kept; _law_told. -/
namespace TC
open PySem PySem.Spec PyProof.Rows L2 DL RD
theorem b_bestD {π : Str → Addr} {ε : Excs} : BODY 4 (t_best_order ε π) (S_bestD π) := by
  rintro ds o Φ Ξ ⟨ss, ns, p, rfl, k, hl, e, h0, h1, hT, hΦ⟩
  refine call <| .inl ⟨ss, ns, rfl, k, hl, by
    rw [e]
    dsimp only
    refine call (use_checkD (d := .int p) rfl (fun p' e2 _ _ => ?_) fun e2 => ?_)
    · cases e2
      refine gcall ⟨ss, ns, p, rfl, k, hl, ?_⟩
      refine mink (fun i => wound ss p (((candsN ss ns p)[i]?).getD [])) (by rw [List.length_map]; exact Nat.succ_pos _) hT (fun i d hd => ?_) (fun i d hd fm => ?_)
      · rw [List.getElem?_map] at hd
        cases e4 : (candsN ss ns p)[i]? with
        | none => rw [e4] at hd; cases hd
        | some l =>
          rw [e4] at hd
          cases hd
          have c := cands_ok k (List.mem_of_getElem? e4)
          exact call (use_wind k c.2.2.2 h0 h1 ⟨rfl, rfl⟩ c.2.2.1)
      · rw [List.getElem?_map] at hd
        cases e4 : (candsN ss ns p)[i]? with
        | none => rw [e4] at hd; cases hd
        | some l =>
          rw [e4] at hd
          cases hd
          rw [List.length_map] at fm
          rw [bestN_is ⟨i, e4, fm⟩] at hΦ
          exact hΦ
    · rw [isIn_i h0 h1] at e2
      cases e2⟩
theorem dc_mapO {α : Type} {ds : List D} {o : O} {Φ : D → O → Prop} {turn : D → O → (D → D → O → Prop) → Prop} (xs : List α) (f : α → D) (kf : α → Key) (vf : α → D) (hds : ds = xs.map f) (hl : xs.length ≤ 1000) (hn : (xs.map kf).Nodup) (hg : ∀ x ∈ xs, ∀ o' Ψ, Ext o o' → Ψ (keyDat (kf x)) (vf x) o' → turn (f x) o' Ψ) (h : ∀ q, o q = none → Φ (.ref q) (updO o q (.dct (xs.map fun x => (kf x, vf x))))) : DC turn ds o Φ :=
  dc_by fun q hq => by
    subst hds
    have main : ∀ (ys zs : List α), zs ++ ys = xs → dcQ turn q (dcEnd q Φ) (ys.map f) (updO o q (.dct (zs.map fun x => (kf x, vf x)))) := by
      intro ys
      induction ys with
      | nil =>
        intro zs e
        rw [List.append_nil] at e
        subst e
        exact .inr (h q hq)
      | cons y ys ih =>
        intro zs e
        have hy : y ∈ xs := by rw [← e]; simp
        refine hg y hy _ _ (Ext.updO hq) ⟨_, kf y, by cases kf y <;> rfl, updO_same, ?_, ?_⟩
        · have : xs.length = zs.length + (ys.length + 1) := by rw [← e, List.length_append, List.length_cons]
          rw [List.length_map]
          exact lt_size (by omega)
        · rw [updO_updO, storeD_new]
          · have z := ih (zs ++ [y]) (by rw [List.append_assoc]; exact e)
            rw [List.map_append] at z
            exact z
          · intro p hp e2
            obtain ⟨x, hx, rfl⟩ := List.mem_map.mp hp
            rw [← e, List.map_append, List.map_cons] at hn
            have := (List.nodup_append.mp hn).2.2 (kf x) (List.mem_map.mpr ⟨x, hx, rfl⟩) (kf y) (by simp)
            exact this e2
    exact main xs [] rfl
theorem b_begin_readingsO : BODY 4 t_begin_readings S_begin_readingsO := by
  rintro ds o Φ Ξ ⟨c, g, ss, rfl, k1, k2, hΦ⟩
  refine dc_mapO (begL 0 ss) (fun p => .tup [.str p.1, .int p.2]) (fun p => .inr p.1) (fun p => .int (turns c g p.2)) (items_begs ss) (by rw [begL_length]; have := k2.few; omega) (begL_nodup k2) (fun p hp o' Ψ hx h => ?_) ?_
  · have hb := begL_le k2.ln p hp
    exact call (use_turns_in k1 (by omega) (tot_nab k2 (by omega) (by omega)) h)
  · exact hΦ
theorem b_kept0 : BODY 2 (t_kept S_no) (S_kept 0) := by
  rintro ds o Φ Ξ ⟨d, rfl, hp, h⟩
  cases hp <;> exact brF rfl (brF rfl h)
theorem b_keptS {m : Nat} {Sr : DSp} (hS : ∀ d o' (Φ : D → O → Prop) Ξ, alkD m d → Φ d o' → Sr [d] o' Φ Ξ) : BODY 2 (t_kept Sr) (S_kept (m + 1)) := by
  rintro ds o Φ Ξ ⟨d, rfl, ⟨hp, hx⟩, h⟩
  have seq : ∀ {xs : List D} {Ψ : D → O → Prop} {turn : D → O → (Option D → O → Prop) → Prop}, xs.length ≤ 1000000 → (∀ x ∈ xs, alkD m x) → (∀ d o' (Χ : Option D → O → Prop), (∀ (Φ : D → O → Prop) Ξ, Φ d o' → CALL Sr [d] o' Φ Ξ) → Χ (some d) o' → turn d o' Χ) → Ψ (.lst xs) o → LC turn xs o Ψ := fun {xs Ψ turn} hl ha ht hΨ =>
    lc_filterB xs id id (fun _ => true) (by rw [List.map_id]) hl (fun x hx o' Χ _ hh => ht x o' Χ (fun Φ Ξ q => call (hS x o' Φ Ξ (ha x hx) q)) hh) (by
      have e : (xs.filter fun _ => true).map id = xs := by rw [List.map_id, List.filter_eq_self.mpr fun _ _ => rfl]
      rw [e]; exact hΨ)
  cases hp with
  | tup hs => exact brF rfl (brT rfl (seq hx.1 hx.2 (fun d o' Χ hc hn => hc _ _ hn) h))
  | lst hs => exact brT rfl (seq hx.1 hx.2 (fun d o' Χ hc hn => hc _ _ hn) h)
  | _ => exact brF rfl (brF rfl h)
theorem b_kept1 : BODY 2 (t_kept (S_kept 0)) (S_kept 1) := b_keptS fun d o' Φ Ξ k q => ⟨d, rfl, k, q⟩
theorem b_kept2 : BODY 2 (t_kept (S_kept 1)) (S_kept 2) := b_keptS fun d o' Φ Ξ k q => ⟨d, rfl, k, q⟩
theorem b_kept3 : BODY 2 (t_kept (S_kept 2)) (S_kept 3) := b_keptS fun d o' Φ Ξ k q => ⟨d, rfl, k, q⟩
theorem b_kept4 : BODY 2 (t_kept (S_kept 3)) (S_kept 4) := b_keptS fun d o' Φ Ξ k q => ⟨d, rfl, k, q⟩
theorem names_ok {ss : Songs} (k : OkTape ss) : badName ss 0 [] (ss.map (·.1)) = none := badName_ok _ [] 0 (fun n h => h) (by rw [List.nil_append]; exact k.nd)
theorem b_told8 {π : Str → Addr} {ε : Excs} : BODY 5 (t_told8 ε π) (S_told8 π) := by
  rintro ds o Φ Ξ ⟨c, g, ss, rfl, k, k2, hT, hΦ⟩
  have t0 := k2.tot0
  have t18 := k2.tot18
  have few := k2.few
  have hl : (ss.map (·.1)).length ≤ 1000 := by rw [List.length_map]; omega
  have en : (ss.map fun p => D.str p.1) = (ss.map (·.1)).map D.str := by rw [List.map_map]; rfl
  have k4 : OkDeck 4 1 := ⟨by decide, by decide, by decide, by decide⟩
  refine call ⟨ss, rfl, k2, ?_⟩
  rw [en]
  refine call (use_alike k k2 ?_)
  refine call (use_songs_at k k2 (by decide) (by decide) ?_)
  refine call ⟨_, rfl, ?_⟩
  refine call ⟨ss, ss.map (·.1), total ss, rfl, k2, hl, names_ok k2, t0, Int.le_refl _, hT, ?_⟩
  intro q hq
  refine ⟨⟨_, updO_same⟩, ?_⟩
  refine call ⟨c, g, ss, rfl, k, k2, ?_⟩
  refine ⟨_, updO_same, lt_size (show (3 : Nat) < 1000 by decide), ?_⟩
  rw [updO_updO]
  refine ⟨⟨_, updO_same⟩, ?_⟩
  refine call ⟨ss, rfl, ?_⟩
  refine ⟨div_s (by decide) (by decide), ?_⟩
  refine call (use_counters k k2 (by omega) (by omega) ?_)
  refine call (use_Deck k4 ?_)
  refine call (rr_ok k k4 (by decide) (by decide) ?_)
  refine ⟨_, updO_same, lt_size (show (4 : Nat) < 1000 by decide), ?_⟩
  rw [updO_updO]
  refine ⟨⟨_, updO_same⟩, ?_⟩
  refine call (use_num k (by decide) (by decide) ?_)
  refine call ⟨ss, rfl, ?_⟩
  refine ⟨_, updO_same, lt_size (show (5 : Nat) < 1000 by decide), ?_⟩
  rw [updO_updO]
  refine ⟨q, o, _, rfl, rfl, hq, ?_⟩
  refine call (use_wind k2 (names_ok k2) (Int.le_refl _) t0 ?_ hl)
  refine call ⟨ss, rfl, k2, ?_⟩
  refine call (use_inv k2 ?_)
  refine call ⟨_, rfl, ?_⟩
  exact ⟨le_size (show (7 : Nat) ≤ 1000 by decide), fun T hT => hΦ T hT⟩
end TC
set_option Elab.async false
set_option linter.all false
set_option maxRecDepth 100000
set_option maxHeartbeats 2000000
/-! L04s: k04: what its own defs do; songs that begin alike, in the order of their readings. -/
set_option Elab.async false
set_option linter.all false
set_option maxRecDepth 100000
set_option maxHeartbeats 2000000
/-! L04t: readings (printed from the law's text). -/
set_option Elab.async false
set_option linter.all false
set_option maxRecDepth 100000
set_option maxHeartbeats 4000000
/-! L04: k04's own defs and parts of the law. -/
set_option Elab.async false
set_option linter.all false
set_option maxRecDepth 100000
set_option maxHeartbeats 4000000
/-! L04b: k04's law. -/
namespace TC
open PySem PySem.Spec PyProof.Rows L2 DL RD
theorem names_str {ss : Songs} (k : OkTape ss) : ∀ p ∈ spans 0 ss, PyData.strOk p.1 = true := fun p hp => by
  have : p.1 ∈ (spans 0 ss).map (·.1) := List.mem_map.mpr ⟨p, hp, rfl⟩
  rw [spans_names] at this
  obtain ⟨q, hq, e⟩ := List.mem_map.mp this
  rw [← e]
  exact nameOk_str (k.nm q hq)
end TC
set_option Elab.async false
set_option linter.all false
set_option maxRecDepth 100000
set_option maxHeartbeats 4000000
/-! L08b: k08: what is told is plain data; the law. -/
namespace TC
open PySem PySem.Spec PyProof.Rows L2 DL RD
theorem alk_names {ss : Songs} (k : OkTape ss) {m : Nat} {ns : List Str} (h : ∀ n ∈ ns, n ∈ ss.map (·.1)) (hl : ns.length ≤ 1000) : alkD (m + 1) (.lst (ns.map D.str)) := alk_lst (by rw [List.length_map]; omega) fun x hx => by
  obtain ⟨n, hn, rfl⟩ := List.mem_map.mp hx
  obtain ⟨p, hp, e⟩ := List.mem_map.mp (h n hn)
  rw [← e]
  exact alk_str (nameOk_str (k.nm p hp))
theorem alk_songT {ss : Songs} (h : ∀ p ∈ ss, nameOk p.1 = true) (hl : ss.length ≤ 1000) {m : Nat} : alkD (m + 2) (.tup (ss.map songD)) := alk_tup (by rw [List.length_map]; omega) fun x hx => by
  obtain ⟨p, hp, rfl⟩ := List.mem_map.mp hx
  refine alk_tup (Nat.le_of_ble_eq_true rfl) fun y hy => ?_
  rcases List.mem_cons.mp hy with rfl | hy
  · exact alk_str (nameOk_str (h p hp))
  · rw [List.mem_singleton.mp hy]; exact alk_int
theorem alk_ints2 {m : Nat} {a b : Int} : alkD (m + 1) (.tup [.int a, .int b]) := alk_tup (Nat.le_of_ble_eq_true rfl) fun y hy => by
  rcases List.mem_cons.mp hy with rfl | hy
  · exact alk_int
  · rw [List.mem_singleton.mp hy]; exact alk_int
theorem bestN_sub {ss : Songs} (k : OkTape ss) (ns : List Str) (p : Int) : (∀ n ∈ bestN ss ns p, n ∈ ss.map (·.1)) ∧ (bestN ss ns p).length ≤ 1000 := by
  by_cases h : ∃ l, IsFirst ss ns p l
  · obtain ⟨l, hl⟩ := h
    rw [bestN_is hl]
    obtain ⟨i, e, _⟩ := hl
    have c := cands_ok k (List.mem_of_getElem? e)
    exact ⟨c.2.1, c.2.2.1⟩
  · have e : bestN ss ns p = [] := by unfold bestN; rw [dif_neg h]
    rw [e]
    exact ⟨fun _ h => absurd h List.not_mem_nil, by decide⟩
theorem alk_told {c g : Int} {ss : Songs} (k : OkTape ss) : alkD 4 (.lst (told8 c g ss)) := by
  have few := k.few
  refine alk_lst (Nat.le_of_ble_eq_true rfl) fun x hx => ?_
  unfold told8 at hx
  simp only [List.mem_cons, List.not_mem_nil, or_false] at hx
  rcases hx with rfl | rfl | rfl | rfl | rfl | rfl | rfl
  · refine alk_lst ?_ fun y hy => ?_
    · rw [List.length_map]
      have h5 := List.length_filter_le (fun ns : List Str => decide (1 < ns.length)) ((groups c g ss).map (·.2))
      have h6 := (grp_lens c g (begL 0 ss)).1
      rw [begL_length] at h6
      rw [List.length_map] at h5
      have h7 : (groups c g ss).length ≤ ss.length := h6
      show (List.filter _ _).length ≤ 1000000
      omega
    · obtain ⟨ns, hns, rfl⟩ := List.mem_map.mp hy
      have z := alike_same hns
      obtain ⟨r, hr⟩ := z.2.2
      refine alk_names k (fun n hn => ?_) (by omega)
      obtain ⟨b, hb, _⟩ := hr n hn
      rw [begL_spans] at hb
      obtain ⟨q, hq, e⟩ := List.mem_map.mp hb
      have : q.1 ∈ (spans 0 ss).map (·.1) := List.mem_map.mpr ⟨q, hq, rfl⟩
      rw [spans_names] at this
      have e1 : q.1 = n := congrArg Prod.fst e
      rw [← e1]
      exact this
  · refine alk_names k (fun n hn => ?_) ?_
    · obtain ⟨q, hq, e⟩ := List.mem_map.mp hn
      have : q.1 ∈ (spans 0 ss).map (·.1) := List.mem_map.mpr ⟨q, (List.mem_filter.mp hq).1, rfl⟩
      rw [spans_names] at this
      rw [← e]
      exact this
    · unfold songsAt
      rw [List.length_map]
      refine Nat.le_trans (List.length_filter_le _ _) ?_
      rw [spans_length]
      omega
  · exact alk_names k (bestN_sub k _ _).1 (bestN_sub k _ _).2
  · refine alk_lst ?_ fun y hy => ?_
    · unfold itemsD readingsD
      rw [List.length_map, List.length_map, begL_length]
      omega
    · unfold itemsD readingsD at hy
      rw [List.map_map] at hy
      obtain ⟨q, hq, rfl⟩ := List.mem_map.mp hy
      refine alk_tup (Nat.le_of_ble_eq_true rfl) fun z hz => ?_
      rcases List.mem_cons.mp hz with rfl | hz
      · rw [begL_spans] at hq
        obtain ⟨p, hp, rfl⟩ := List.mem_map.mp hq
        exact alk_str (names_str k p hp)
      · rw [List.mem_singleton.mp hz]; exact alk_int
  · refine alk_lst (Nat.le_of_ble_eq_true rfl) fun y hy => ?_
    rcases List.mem_cons.mp hy with rfl | hy
    · exact alk_ints2
    · rw [List.mem_singleton.mp hy]; exact alk_ints2
  · refine alk_lst (Nat.le_of_ble_eq_true rfl) fun y hy => ?_
    rcases List.mem_cons.mp hy with rfl | hy
    · exact alk_ints2
    · rw [List.mem_singleton.mp hy]; exact alk_songT k.nm (by omega)
  · refine alk_lst (Nat.le_of_ble_eq_true rfl) fun y hy => ?_
    simp only [List.mem_cons, List.not_mem_nil, or_false] at hy
    rcases hy with rfl | rfl | rfl
    · exact alk_int
    · refine alk_tup (by rw [List.length_map]; omega) fun z hz => ?_
      obtain ⟨p, hp, rfl⟩ := List.mem_map.mp hz
      exact alk_str (nameOk_str (k.nm p hp))
    · exact alk_songT (fun p hp => k.nm p (List.mem_reverse.mp hp)) (by rw [List.length_reverse]; omega)
end TC
set_option Elab.async false
set_option linter.all false
set_option maxRecDepth 100000
set_option maxHeartbeats 8000000
/-! L08c: k08's law. -/
namespace TC
open PySem PySem.Spec PyProof.Rows L2 DL RD
def off8 (o : O) (q : Addr) : O := fun a => if a = q then none else o a
theorem off8_same {o : O} {q : Addr} : off8 o q q = none := by unfold off8; rw [if_pos rfl]
theorem off8_ne {o : O} {a q : Addr} (h : a ≠ q) : off8 o q a = o a := by unfold off8; rw [if_neg h]
theorem off8_upd {o : O} {q : Addr} {x : OS} (h : o q = some x) : o = updO (off8 o q) q x := by
  funext a
  unfold updO off8
  split
  · rename_i e; rw [e, h]
  · rfl
theorem lt_upd {o : O} (l : LT o) {q : Addr} {ds : List D} : LT (updO o q (.lst ds)) := fun a y e => by
  by_cases h : a = q
  · subst h; rw [updO_same] at e; cases e; exact .inl ⟨_, rfl⟩
  · rw [updO_ne h] at e; exact l a y e
theorem lt_but {o o' : O} {r : Addr} {ns : List Int} (l : LT o) (hr : Rowed r ns o') (hb : But r o o') : LT o' := fun a y e => by
  by_cases h : a = r
  · subst h
    obtain ⟨i, s, t, _, z⟩ := hr
    rw [z] at e
    cases e
    exact .inl ⟨_, rfl⟩
  · rw [hb a h] at e; exact l a y e
theorem lt_off {o : O} {q : Addr} (l : LT o) : LT (off8 o q) := fun a y e => by
  by_cases h : a = q
  · subst h; rw [off8_same] at e; cases e
  · rw [off8_ne h] at e; exact l a y e
theorem told8_lst {c g : Int} {ss : Songs} {m : Nat} (h : m < 7) : ∃ l, (told8 c g ss)[m]? = some (.lst l) := by
  rcases (show m = 0 ∨ m = 1 ∨ m = 2 ∨ m = 3 ∨ m = 4 ∨ m = 5 ∨ m = 6 by omega) with rfl | rfl | rfl | rfl | rfl | rfl | rfl <;> exact ⟨_, rfl⟩
theorem told8_len {c g : Int} {ss : Songs} (k : OkTape ss) {m : Nat} {l : List D} (h : (told8 c g ss)[m]? = some (.lst l)) : l.length ≤ 1000000 :=
  ((alk_told (c := c) (g := g) k).2.2 _ (List.mem_of_getElem? h)).2.1
/-- a case -/
structure Case where
  c : Int
  g : Int
  ss : Songs
def Case.d (x : Case) : D := .tup [.deck x.c x.g, .tape x.ss]
structure Case.ok (x : Case) : Prop where
  k1 : OkDeck x.c x.g
  k2 : OkTape x.ss
section
variable {ε : Excs} {π : Str → Addr}
theorem tblB_ne {o o' : O} (h : tblB π o) (e : o' (π "best_order") = o (π "best_order")) : tblB π o' := e.trans h
theorem tbl_row {o : O} {r : Addr} {ns : List Int} (h : tblB π o) (hr : Rowed r ns o) : π "best_order" ≠ r := fun e => by
  obtain ⟨i, s, t, _, z⟩ := hr
  have h : o (π "best_order") = some (.tbl lamB) := h
  rw [e, z] at h
  cases h
theorem law08_turns {r : Addr} {ns : List Int} {L : List Case} {d0 d3 d4 d6 d7 d8 d9 : Option D} {o : O} {Ξ : XW} {E : DE} (hr : Rowed r ns o) (ht : tblB π o) (lt : LT o) (hL : L.length = 2) (hok : ∀ x ∈ L, x.ok) (hE : ∀ o', E.rt (.bl true) o') :
    t_law08_c1 π Ξ [d0, some (.ref r), some (.lst (L.map Case.d)), d3, d4, some (.lst (L.map fun x => .lst (told8 x.c x.g x.ss))), d6, d7, d8, d9] o E := by
  refine call (use_taken hr (fun n o1 n0 n1 hr1 hb1 => ?_) (by decide) (by decide))
  have ht1 : tblB π o1 := tblB_ne ht (hb1 _ (tbl_row ht hr))
  have lt1 := lt_but lt hr1 hb1
  refine ⟨⟨by omega, by omega⟩, ?_⟩
  refine for_o (fun m o' => Rowed r ns o' ∧ tblB π o' ∧ LT o') ⟨hr1, ht1, lt1⟩ ?_ ?_
  · rintro m d o2 hd ⟨hr2, ht2, lt2⟩
    refine call (use_taken hr2 (fun kk o3 k0 k1 hr3 hb3 => ?_) (by decide) (by decide))
    have ht3 : tblB π o3 := tblB_ne ht2 (hb3 _ (tbl_row ht2 hr2))
    have lt3 := lt_but lt2 hr3 hb3
    obtain ⟨i, rfl⟩ : ∃ i : Nat, kk = i := ⟨kk.toNat, by omega⟩
    have hi : i < L.length := by omega
    obtain ⟨x, hx⟩ : ∃ x, L[i]? = some x := ⟨_, List.getElem?_eq_getElem hi⟩
    have ok := hok x (List.mem_of_getElem? hx)
    have b1 : (L.map Case.d)[i]? = some (Case.d x) := by rw [List.getElem?_map, hx]; rfl
    have b2 : (L.map fun x => D.lst (told8 x.c x.g x.ss))[i]? = some (D.lst (told8 x.c x.g x.ss)) := by rw [List.getElem?_map, hx]; rfl
    have a1 : atI (L.map Case.d) (i : Int) = some (Case.d x) := by have := at_nat b1; rwa [Int.zero_add] at this
    have a2 : atI (L.map fun x => D.lst (told8 x.c x.g x.ss)) (i : Int) = some (.lst (told8 x.c x.g x.ss)) := by have := at_nat b2; rwa [Int.zero_add] at this
    refine ⟨lt3, _, a1, rfl, by simp [noLs, noL, Case.d], ?_⟩
    refine call ⟨x.c, x.g, x.ss, rfl, ok.k1, ok.k2, ?_, fun T hT => ⟨T, told8 x.c x.g x.ss, rfl, rfl, hT, ?_⟩⟩
    · show cutO o3 (π "best_order") = some (.tbl lamB)
      unfold cutO
      rw [show o3 (π "best_order") = some (.tbl lamB) from ht3]
    refine ⟨_, a2, ?_⟩
    refine call (use_alk rfl (alk_told ok.k2) ⟨rfl, rfl, fun T' oJ hJ => ?_⟩)
    obtain ⟨ext, only, hoT, items, hiT, hlen, hit⟩ := hJ
    refine ⟨_, a1, _, rfl, _, a1, _, rfl, ?_⟩
    refine call ⟨x.c, x.g, x.ss, rfl, ok.k1, ok.k2, fun q hq => ⟨oJ, _, rfl, hq, ?_⟩⟩
    have hr4 : Rowed r ns oJ := by
      obtain ⟨i, s, t, h0, h⟩ := hr3
      exact ⟨i, s, t, h0, ext _ _ h⟩
    have ht4 : tblB π oJ := ext _ _ ht3
    have lt4 : LT oJ := fun a y e => by
      rcases only a y e with h | h
      · exact lt3 a y h
      · exact .inl h
    have hrT : r ≠ T' := fun e => by
      obtain ⟨i, s, t, h0, h⟩ := hr3
      rw [e, hoT] at h
      cases h
    have h7 : items.length = 7 := hlen
    refine ⟨items, fun m cv o' => Rowed r ns o' ∧ tblB π o' ∧ LT o' ∧ o' T' = some (.lst items) ∧ ∀ (j : Nat) (l : List D), (told8 x.c x.g x.ss)[j]? = some (.lst l) → ∃ a, items[j]? = some (.ref a) ∧ a ≠ T' ∧ a ≠ r ∧ ∃ l', o' a = some (.lst l') ∧ l'.length ≤ l.length + m, ⟨hr4, ht4, lt4, hiT, fun j l hj => ?_⟩, fun m cv o' h => h.2.2.2.1, ?_, ?_⟩
    · obtain ⟨a, e1, e2, e3, l', e4, e5⟩ := hit j l hj
      refine ⟨a, e1, e2, fun e => ?_, l', e4, by omega⟩
      obtain ⟨i, s, t, h0, h⟩ := hr3
      rw [← e, e3] at h
      cases h
    · rintro m2 d2 cv o5 hd2 ⟨hr5, ht5, lt5, hT5, hj5⟩
      have hm2 : m2 < 7 := by have := (List.getElem?_eq_some_iff.mp hd2).1; omega
      obtain ⟨l, hl⟩ := told8_lst (c := x.c) (g := x.g) (ss := x.ss) hm2
      obtain ⟨a, e1, e2, e3, l', e4, e5⟩ := hj5 m2 l hl
      rw [e1] at hd2
      cases hd2
      have big := told8_len ok.k2 hl
      refine ⟨⟨_, e4⟩, _, e4, Nat.lt_of_le_of_lt (show l'.length ≤ 1000007 by omega) (by decide), ?_⟩
      refine ⟨_, updO_same, ?_⟩
      rw [updO_updO]
      have hPa : π "best_order" ≠ a := fun e => by
        have ht5 : o5 (π "best_order") = some (.tbl lamB) := ht5
        rw [e, e4] at ht5
        cases ht5
      refine ⟨rfl, hr5.under (Ne.symm e3), tblB_ne ht5 (updO_ne hPa), (lt_upd lt5), by rw [updO_ne (Ne.symm e2)]; exact hT5, fun j l2 hj => ?_⟩
      obtain ⟨b, f1, f2, f3, l3, f4, f5⟩ := hj5 j l2 hj
      by_cases hba : b = a
      · subst hba
        rw [e4] at f4
        cases f4
        exact ⟨b, f1, f2, f3, _, updO_same, by rw [List.length_reverse, List.length_append, List.length_singleton]; omega⟩
      · exact ⟨b, f1, f2, f3, l3, by rw [updO_ne hba]; exact f4, by omega⟩
    · rintro cv o5 ⟨hr5, ht5, lt5, _, _⟩
      exact ⟨rfl, hr5, ht5, lt5⟩
  · rintro o2 _
    exact hE _
theorem b_law08 : BODY 10 (t_law08 ε π) (S_lawT [(π "best_order", lamB)]) := by
  rintro ds o Φ Ξ ⟨ns, rfl, hl, hT, hΦ⟩
  have hT : o (π "best_order") = some (.tbl lamB) := hT (π "best_order", lamB) (by simp)
  refine ⟨fun a => if a = π "best_order" then o a else none, fun a y h => ?_, ?_⟩
  · dsimp only at h
    split at h
    · exact h
    · cases h
  have ltB : LT (fun a => if a = π "best_order" then o a else none) := fun a y h => by
    dsimp only at h
    split at h
    · rename_i e
      rw [e, hT] at h
      cases h
      exact .inr ⟨_, rfl⟩
    · cases h
  have htB : tblB π (fun a => if a = π "best_order" then o a else none) := (if_pos rfl).trans hT
  generalize (fun a => if a = π "best_order" then o a else none) = oB at ltB htB ⊢
  intro r hr
  have hPr : π "best_order" ≠ r := fun e => by
    have htB : oB (π "best_order") = some (.tbl lamB) := htB
    rw [e, hr] at htB
    cases htB
  have hr0 : Rowed r ns (updO oB r (.lst [.scr ns, .int 0, .int 0, .int 0])) := ⟨0, 0, 0, by decide, updO_same⟩
  have ht0 : tblB π (updO oB r (.lst [.scr ns, .int 0, .int 0, .int 0])) := tblB_ne htB (updO_ne hPr)
  have lt0 : LT (updO oB r (.lst [.scr ns, .int 0, .int 0, .int 0])) := (lt_upd ltB)
  generalize updO oB r (.lst [.scr ns, .int 0, .int 0, .int 0]) = o0 at hr0 ht0 lt0 ⊢
  intro cs hcs
  have hrc := hr0.ne hcs
  have hPc : π "best_order" ≠ cs := fun e => by
    have ht0 : o0 (π "best_order") = some (.tbl lamB) := ht0
    rw [e, hcs] at ht0
    cases ht0
  refine ⟨⟨by decide, by decide⟩, ?_⟩
  refine for_o (fun m o' => ∃ L : List Case, L.length = m ∧ (∀ x ∈ L, x.ok) ∧ o' cs = some (.lst (L.map Case.d)) ∧ Rowed r ns o' ∧ tblB π o' ∧ LT o') ⟨[], rfl, fun _ h => absurd h List.not_mem_nil, updO_same, hr0.under hrc, tblB_ne ht0 (updO_ne hPc), (lt_upd lt0)⟩ ?_ ?_
  · rintro m d o1 hd ⟨L, hL, hok, h1, hr1, ht1, lt1⟩
    have hm : m < 2 := (rangeD_of hd).1
    refine call (use_pair hr1 fun c g o2 c1 c2 g1 g2 hr2 hb2 => ?_)
    have k1 : OkDeck c g := ⟨c1, by omega, g1, by omega⟩
    have h2 : o2 cs = some (.lst (L.map Case.d)) := (hb2 cs (Ne.symm hrc)).trans h1
    refine ⟨⟨_, h2⟩, ?_⟩
    refine ⟨_, rfl, _, rfl, ?_⟩
    refine call (use_Deck k1 ?_)
    refine call (use_lsongs hr2 (fun ss o3 s1 s2 s3 s4 hr3 hb3 => ?_) (by decide) (by decide) (by decide) (by decide))
    have k20 : OkTape ss := drawn_ok (B := 20) s1 s2 s3 s4 (by decide) (by decide) (by decide) (by decide)
    have t2 : total ss ≤ 120 := by
      have := total_le (ss := ss) (B := 20) fun p hp => by have := (s3 p hp).2; omega
      have : (ss.length : Int) * 20 ≤ 6 * 20 := Int.mul_le_mul_of_nonneg_right (by omega) (by omega)
      omega
    have k2 : OkTape (("q", 1) :: ("w", 1) :: ss) := by
      refine ⟨?_, fun p hp => ?_, fun p hp => ?_, ?_, ?_⟩
      · simp only [List.length_cons]; omega
      · rcases List.mem_cons.mp hp with rfl | hp
        · decide +kernel
        · rcases List.mem_cons.mp hp with rfl | hp
          · decide +kernel
          · exact k20.nm p hp
      · rcases List.mem_cons.mp hp with rfl | hp
        · decide
        · rcases List.mem_cons.mp hp with rfl | hp
          · decide
          · exact k20.ln p hp
      · have nq : ∀ n : Str, n ∉ names10 → n ∉ ss.map (·.1) := fun n hn hm => by
          obtain ⟨p, hp, e⟩ := List.mem_map.mp hm
          exact hn (e ▸ s2 p hp)
        rw [List.map_cons, List.map_cons, List.nodup_cons, List.nodup_cons]
        refine ⟨fun h => ?_, nq _ (by decide +kernel), k20.nd⟩
        rcases List.mem_cons.mp h with h | h
        · exact absurd h (by decide +kernel)
        · exact nq _ (by decide +kernel) h
      · rw [total_cons, total_cons]
        show (1 : Int) + (1 + total ss) ≤ 1000000000000000000
        omega
    refine ⟨le_size (by simp only [List.length_cons, List.length_nil, List.length_map]; omega), ?_⟩
    refine call (use_ltape k2 ?_)
    have h3 : o3 cs = some (.lst (L.map Case.d)) := (hb3 cs (Ne.symm hrc)).trans h2
    have b3 := hb2.trans hb3
    have ht3 : tblB π o3 := tblB_ne ht1 (b3 _ hPr)
    refine ⟨_, h3, by rw [List.length_map]; exact lt_size (by omega), ?_⟩
    refine ⟨rfl, L ++ [⟨c, g, ("q", 1) :: ("w", 1) :: ss⟩], by rw [List.length_append, List.length_singleton, hL], fun x hx => ?_, ?_, hr3.under hrc, tblB_ne ht3 (updO_ne hPc), lt_upd (lt_but lt1 hr3 b3)⟩
    · rcases List.mem_append.mp hx with hx | hx
      · exact hok x hx
      · rw [List.mem_singleton.mp hx]; exact ⟨k1, k2⟩
    · rw [updO_same, List.map_append]; rfl
  · rintro o1 ⟨L, hL, hok, h1, hr1, ht1, lt1⟩
    have hL2 : L.length = 2 := hL
    refine ⟨cs, off8 o1 cs, L.map Case.d, rfl, off8_upd h1, off8_same, ?_⟩
    have hr2 : Rowed r ns (off8 o1 cs) := by
      obtain ⟨i, s, t, h0, h⟩ := hr1
      exact ⟨i, s, t, h0, by rw [off8_ne hrc]; exact h⟩
    have ht2 : tblB π (off8 o1 cs) := tblB_ne ht1 (off8_ne hPc)
    have lt2 : LT (off8 o1 cs) := lt_off lt1
    generalize off8 o1 cs = o2 at hr2 ht2 lt2 ⊢
    refine lc_map L Case.d (fun x => .lst (told8 x.c x.g x.ss)) rfl (by omega) (fun x hx o' Ψ hE hh => ?_) ?_
    · have ok := hok x hx
      refine call ⟨x.c, x.g, x.ss, rfl, ok.k1, ok.k2, hE _ _ ht2, fun T hT => ⟨o', _, rfl, hT, ?_⟩⟩
      exact call ⟨_, rfl, alk_told ok.k2, hh⟩
    · exact law08_turns hr2 ht2 lt2 hL2 hok fun o' => hΦ o'
end
end TC
set_option Elab.async false
set_option linter.all false
set_option maxRecDepth 100000
set_option maxHeartbeats 2000000
/-! Sp5: a class has none of these names. -/
set_option Elab.async false
set_option linter.all false
set_option maxRecDepth 100000
set_option maxHeartbeats 4000000
namespace TC
open PySem PySem.Spec PyProof.Rows L2 DL RD
section
variable {P : Program} {w : World} {K : PySem.W.Frag} {mg : Str → Option Value} {base : Heap} {τ : Tx} {ε : Excs} {π : Str → Addr}
abbrev s_is_name : Stmt := top 25
theorem sc_is_name : L2.FnScope ["value", "letter"] ["value"] (defScope s_is_name) := ⟨rfl, rfl, rfl, by decide +kernel, rfl, by decide +kernel, by decide +kernel⟩
theorem ok_is_name {f : Addr} {fd : FuncData} (F : Fun K "is_name" "is_name" s_is_name f fd) (B_isinstance : GloN mg "isinstance") (B_str : GloN mg "str") (B_len : GloN mg "len") (g_MAX_LETTERS : GloI mg "MAX_LETTERS" 8) (g_LETTERS : GloS mg "LETTERS" "abcdefghijklmnopqrstuvwxyz") (B_all : GloN mg "all") : L2.FnOk P w K mg base (L2N.CX P w) 1 f fd ["value"] (spD K τ 1 (S_is_name)) :=
  fnR F sc_is_name (fun cdv A outer s H E => (ss_cons (s_if (tt_w (tw_or (tt_not (tt_val (t_isS B_isinstance B_str (t_var 0)))) (tw_or1 (tt_not (tt_lele t_int (t_len B_len (a_cons (t_var 0) a_nil)) (t_gI g_MAX_LETTERS))))))
  (ss_one (s_ret t_bl))
  ss_nil)
  (ss_one (s_ret (t_all B_all (t_lcI1 1 (blkOk_by (by kernel_rfl)) (i_str (t_var 0)) (lc_1 (fun _ _ _ _ _ => (t_c (c_inSign (t_var 1) (t_gS g_LETTERS))))))))))) b_is_name
abbrev s_is_song : Stmt := top 26
theorem sc_is_song : L2.FnScope ["value", "most", "name", "length"] ["value", "most"] (defScope s_is_song) := ⟨rfl, rfl, rfl, by decide +kernel, rfl, by decide +kernel, by decide +kernel⟩
theorem ok_is_song {f : Addr} {fd : FuncData} (F : Fun K "is_song" "is_song" s_is_song f fd) (B_isinstance : GloN mg "isinstance") (B_tuple : GloN mg "tuple") (G_is_name : DefD P w K mg base τ "is_name" 1 1 (S_is_name)) (G_is_integer : DefD P w K mg base τ "is_integer" 1 3 (S_isint)) : L2.FnOk P w K mg base (L2N.CX P w) 2 f fd ["value", "most"] (spD K τ 2 (S_is_song)) :=
  fnR F sc_is_song (fun cdv A outer s H E => (ss_one (s_match2 2 3 (t_var 0) (tt_val (t_isTu B_isinstance B_tuple (t_var 0)))
  (ss_one (s_ret (t_and (t_call G_is_name (a_cons (t_var 2) a_nil)) (t_one (t_call G_is_integer (a_cons (t_var 3) (a_cons t_int (a_cons (t_var 1) a_nil))))))))
  (ss_one (s_ret t_bl))))) b_is_song
abbrev s_tape_init : Stmt := L2.inClass (top 27) 1
theorem sc_tape_init : L2.FnScope ["self", "songs", "total", "begins", "index", "song"] ["self", "songs"] (defScope s_tape_init) := ⟨rfl, rfl, rfl, by decide +kernel, rfl, by decide +kernel, by decide +kernel⟩
theorem ok_tape_init {f : Addr} {fd : FuncData} (F : Fun K "__init__" "Tape.__init__" s_tape_init f fd) (B_enumerate : GloN mg "enumerate") (g_MAX_SONGS_tapes : GloI mg "MAX_SONGS_tapes" 30) (G_is_song : DefD P w K mg base τ "is_song" 2 2 (S_is_song)) (g_MAX_NUMBER : GloI mg "MAX_NUMBER" 1000000000000000000) (X_InvalidTape : ExcF P w K mg base "InvalidTape" ε.tape "index") (T_Tape : ClsX K τ.tape ["listed", "begins", "total"]) (m : Nat) (hm : m ≤ sizeLine) : FnD P w K mg base τ 3 f (1 + m) (starP 1 (S_tape_init ε τ)) :=
  fnPR (N := ["self", "songs", "total", "begins", "index", "song"]) (ps := ["self"]) (pv := "songs") F sc_tape_init (fun kV doc pm an cdv ct us rest hl => match us, rest, hl with | [_], [], _ => rfl | [_], _ :: _, _ => rfl) (fun cdv A outer s H E => (ss_cons (s_set 2 t_int)
  (ss_cons (s_set 3 t_dnew)
  (ss_cons (s_forI [2, 4, 5] [2] (i_enumT B_enumerate (t_var 1)) (g_tup (gs_cons 4 (gs_cons 5 gs_nil)))
  (ss_cons (s_if (tt_w (tw_or (tt_c (c_eqq (t_var 4) (t_gI g_MAX_SONGS_tapes))) (tw_or (tt_not (tt_val (t_call G_is_song (a_cons (t_var 5) (a_cons (t_sub (t_gI g_MAX_NUMBER) (t_var 2)) a_nil))))) (tw_or1 (tt_c (c_din (t_ix (t_var 5) t_int) (t_var 3)))))))
  (ss_one (s_raiseF X_InvalidTape (t_var 4)))
  ss_nil)
  (ss_cons (s_dput (t_var 2) (t_var 3) (t_ix (t_var 5) t_int))
  (ss_one (s_set 2 (t_add (t_var 2) (t_ix (t_var 5) t_int)))))))
  (ss_frzD 3 (ss_cons (s_fld 0 T_Tape.cl (T_Tape.no _ (by decide +kernel)) (t_var 1))
  (ss_cons (s_fld 0 T_Tape.cl (T_Tape.no _ (by decide +kernel)) (t_var 3))
  (ss_one (s_fld 0 T_Tape.cl (T_Tape.no _ (by decide +kernel)) (t_var 2)))))))))) b_tape_init m hm
abbrev s_songs : Stmt := L2.inClass (top 27) 3
theorem sc_songs : L2.FnScope ["self"] ["self"] (defScope s_songs) := ⟨rfl, rfl, rfl, by decide +kernel, rfl, by decide +kernel, by decide +kernel⟩
theorem ok_songs {f : Addr} {fd : FuncData} (F : Fun K "songs" "Tape.songs" s_songs f fd) (T_Tape : ClsX K τ.tape ["listed", "begins", "total"]) : L2.FnOk P w K mg base (L2N.CX P w) 1 f fd ["self"] (spD K τ 1 (S_songs)) :=
  fnR F sc_songs (fun cdv A outer s H E => (ss_one (s_ret (t_listed T_Tape (t_var 0))))) b_songs
abbrev s_names : Stmt := L2.inClass (top 27) 4
theorem sc_names : L2.FnScope ["self", "name", "length"] ["self"] (defScope s_names) := ⟨rfl, rfl, rfl, by decide +kernel, rfl, by decide +kernel, by decide +kernel⟩
theorem ok_names {f : Addr} {fd : FuncData} (F : Fun K "names" "Tape.names" s_names f fd) (T_Tape : ClsX K τ.tape ["listed", "begins", "total"]) (B_tuple : GloN mg "tuple") : L2.FnOk P w K mg base (L2N.CX P w) 1 f fd ["self"] (spD K τ 1 (S_names)) :=
  fnR F sc_names (fun cdv A outer s H E => (ss_one (s_ret (t_tuple B_tuple (t_lcT2 1 2 (blkOk_by (by kernel_rfl)) (t_listed T_Tape (t_var 0)) (lc_2 (fun _ _ _ _ _ => (t_var 1)))))))) b_names
abbrev s_size : Stmt := L2.inClass (top 27) 5
theorem sc_size : L2.FnScope ["self"] ["self"] (defScope s_size) := ⟨rfl, rfl, rfl, by decide +kernel, rfl, by decide +kernel, by decide +kernel⟩
theorem ok_size {f : Addr} {fd : FuncData} (F : Fun K "size" "Tape.size" s_size f fd) (T_Tape : ClsX K τ.tape ["listed", "begins", "total"]) : L2.FnOk P w K mg base (L2N.CX P w) 1 f fd ["self"] (spD K τ 1 (S_size)) :=
  fnR F sc_size (fun cdv A outer s H E => (ss_one (s_ret (t_total T_Tape (t_var 0))))) b_size
abbrev s_span_of : Stmt := L2.inClass (top 27) 9
theorem sc_span_of : L2.FnScope ["self", "name"] ["self", "name"] (defScope s_span_of) := ⟨rfl, rfl, rfl, by decide +kernel, rfl, by decide +kernel, by decide +kernel⟩
theorem ok_span_of {f : Addr} {fd : FuncData} (F : Fun K "span_of" "Tape.span_of" s_span_of f fd) (T_Tape : ClsX K τ.tape ["listed", "begins", "total"]) (B_dict : GloN mg "dict") : L2.FnOk P w K mg base (L2N.CX P w) 1 f fd ["self", "name"] (spD K τ 2 (S_span_of)) :=
  fnR F sc_span_of (fun cdv A outer s H E => (ss_one (s_ret (t_tup (a_cons (t_dget (t_begins T_Tape (t_var 0)) (t_var 1)) (a_cons (t_add (t_dget (t_begins T_Tape (t_var 0)) (t_var 1)) (t_dget (t_dictListed T_Tape B_dict (t_var 0)) (t_var 1))) a_nil)))))) b_span_of
abbrev s_tape_in : Stmt := L2.inClass (top 27) 11
theorem sc_tape_in : L2.FnScope ["self", "name"] ["self", "name"] (defScope s_tape_in) := ⟨rfl, rfl, rfl, by decide +kernel, rfl, by decide +kernel, by decide +kernel⟩
theorem ok_tape_in {f : Addr} {fd : FuncData} (F : Fun K "__contains__" "Tape.__contains__" s_tape_in f fd) (B_isinstance : GloN mg "isinstance") (B_str : GloN mg "str") (T_Tape : ClsX K τ.tape ["listed", "begins", "total"]) : L2.FnOk P w K mg base (L2N.CX P w) 1 f fd ["self", "name"] (spD K τ 2 (S_tape_in)) :=
  fnR F sc_tape_in (fun cdv A outer s H E => (ss_one (s_ret (t_and (t_isS B_isinstance B_str (t_var 1)) (t_one (t_c (c_din (t_var 1) (t_begins T_Tape (t_var 0))))))))) b_tape_in
abbrev s_tape_of : Stmt := top 28
theorem sc_tape_of : L2.FnScope ["songs"] ["songs"] (defScope s_tape_of) := ⟨rfl, rfl, rfl, by decide +kernel, rfl, by decide +kernel, by decide +kernel⟩
theorem ok_tape_of {f : Addr} {fd : FuncData} (F : Fun K "tape_of" "tape_of" s_tape_of f fd) (M_Tape : MkS P w K mg base τ "Tape" (τ.tape) 3 (S_Tape ε)) : L2.FnOk P w K mg base (L2N.CX P w) 5 f fd ["songs"] (spD K τ 1 (S_tape_of ε)) :=
  fnR F sc_tape_of (fun cdv A outer s H E => (ss_one (s_ret (t_makeStar M_Tape (t_var 0))))) b_tape_of
abbrev s_tape_add : Stmt := L2.inClass (top 27) 14
theorem sc_tape_add : L2.FnScope ["self", "other"] ["self", "other"] (defScope s_tape_add) := ⟨rfl, rfl, rfl, by decide +kernel, rfl, by decide +kernel, by decide +kernel⟩
theorem ok_tape_add {f : Addr} {fd : FuncData} (F : Fun K "__add__" "Tape.__add__" s_tape_add f fd) (G_tape_of : DefD P w K mg base τ "tape_of" 5 1 (S_tape_of ε)) (T_Tape : ClsX K τ.tape ["listed", "begins", "total"]) : L2.FnOk P w K mg base (L2N.CX P w) 6 f fd ["self", "other"] (spD K τ 2 (S_tape_add ε)) :=
  fnR F sc_tape_add (fun cdv A outer s H E => (ss_one (s_ret (t_call G_tape_of (a_cons (t_add (t_listed T_Tape (t_var 0)) (t_listed T_Tape (t_var 1))) a_nil))))) b_tape_add
abbrev s_tape_inv : Stmt := L2.inClass (top 27) 16
theorem sc_tape_inv : L2.FnScope ["self"] ["self"] (defScope s_tape_inv) := ⟨rfl, rfl, rfl, by decide +kernel, rfl, by decide +kernel, by decide +kernel⟩
theorem ok_tape_inv {f : Addr} {fd : FuncData} (F : Fun K "__invert__" "Tape.__invert__" s_tape_inv f fd) (G_tape_of : DefD P w K mg base τ "tape_of" 5 1 (S_tape_of ε)) (T_Tape : ClsX K τ.tape ["listed", "begins", "total"]) : L2.FnOk P w K mg base (L2N.CX P w) 6 f fd ["self"] (spD K τ 1 (S_tape_inv)) :=
  fnR F sc_tape_inv (fun cdv A outer s H E => (ss_one (s_ret (t_call G_tape_of (a_cons (t_revT (t_listed T_Tape (t_var 0))) a_nil))))) b_tape_inv
abbrev s_counters : Stmt := top 17
theorem sc_counters : L2.FnScope ["deck", "tape", "cell"] ["deck", "tape", "cell"] (defScope s_counters) := ⟨rfl, rfl, rfl, by decide +kernel, rfl, by decide +kernel, by decide +kernel⟩
theorem ok_counters {f : Addr} {fd : FuncData} (F : Fun K "counters" "counters" s_counters f fd) (G_check_number : DefD P w K mg base τ "check_number" 2 3 (S_check ε)) (T_Tape : ClsX K τ.tape ["listed", "begins", "total"]) (G_Deck_turns_in : MetD P w K mg base τ τ.deck "turns_in" 2 2 (S_turns_in)) : L2.FnOk P w K mg base (L2N.CX P w) 3 f fd ["deck", "tape", "cell"] (spD K τ 3 (S_counters ε)) :=
  fnR F sc_counters (fun cdv A outer s H E => (ss_cons (s_expr (t_call G_check_number (a_cons (t_var 2) (a_cons t_int (a_cons (t_total T_Tape (t_var 1)) a_nil)))))
  (ss_one (s_ret (t_tup (a_cons (t_methD G_Deck_turns_in (t_var 0) (a_cons (t_var 2) a_nil)) (a_cons (t_methD G_Deck_turns_in (t_var 0) (a_cons (t_sub (t_total T_Tape (t_var 1)) (t_var 2)) a_nil)) a_nil))))))) b_counters
abbrev s_begin_readings : Stmt := top 18
theorem sc_begin_readings : L2.FnScope ["deck", "tape", "name", "begin"] ["deck", "tape"] (defScope s_begin_readings) := ⟨rfl, rfl, rfl, by decide +kernel, rfl, by decide +kernel, by decide +kernel⟩
theorem ok_begin_readings {f : Addr} {fd : FuncData} (F : Fun K "begin_readings" "begin_readings" s_begin_readings f fd) (T_Tape : ClsX K τ.tape ["listed", "begins", "total"]) (G_Deck_turns_in : MetD P w K mg base τ τ.deck "turns_in" 2 2 (S_turns_in)) : L2.FnOk P w K mg base (L2N.CX P w) 3 f fd ["deck", "tape"] (spD K τ 2 (S_begin_readings)) :=
  fnR F sc_begin_readings (fun cdv A outer s H E => (ss_one (s_ret (t_dcI2 2 3 (blkOk_by (by kernel_rfl)) (i_items (t_begins T_Tape (t_var 1))) (fun _ _ _ _ _ => (t_var 2)) (fun _ _ _ _ _ => (t_methD G_Deck_turns_in (t_var 0) (a_cons (t_var 3) a_nil))))))) b_begin_readings
abbrev s_begin_readingsO : Stmt := top 18
theorem sc_begin_readingsO : L2.FnScope ["deck", "tape", "name", "begin"] ["deck", "tape"] (defScope s_begin_readingsO) := ⟨rfl, rfl, rfl, by decide +kernel, rfl, by decide +kernel, by decide +kernel⟩
theorem ok_begin_readingsO {f : Addr} {fd : FuncData} (F : Fun K "begin_readings" "begin_readings" s_begin_readingsO f fd) (T_Tape : ClsX K τ.tape ["listed", "begins", "total"]) (G_Deck_turns_in : MetD P w K mg base τ τ.deck "turns_in" 2 2 (S_turns_in)) : L2.FnOk P w K mg base (L2N.CX P w) 3 f fd ["deck", "tape"] (spD K τ 2 (S_begin_readingsO)) :=
  fnR F sc_begin_readingsO (fun cdv A outer s H E => (ss_one (s_ret (t_dcI2 2 3 (blkOk_by (by kernel_rfl)) (i_items (t_begins T_Tape (t_var 1))) (fun _ _ _ _ _ => (t_var 2)) (fun _ _ _ _ _ => (t_methD G_Deck_turns_in (t_var 0) (a_cons (t_var 3) a_nil))))))) b_begin_readingsO
abbrev s_songs_at : Stmt := top 19
theorem sc_songs_at : L2.FnScope ["deck", "tape", "reading", "low", "high", "found", "name", "begin", "end"] ["deck", "tape", "reading"] (defScope s_songs_at) := ⟨rfl, rfl, rfl, by decide +kernel, rfl, by decide +kernel, by decide +kernel⟩
theorem ok_songs_at {f : Addr} {fd : FuncData} (F : Fun K "songs_at" "songs_at" s_songs_at f fd) (G_check_number : DefD P w K mg base τ "check_number" 2 3 (S_check ε)) (g_MAX_NUMBER : GloI mg "MAX_NUMBER" 1000000000000000000) (G_Deck_cells_at : MetD P w K mg base τ τ.deck "cells_at" 3 2 (S_cells_at ε)) (G_Tape_names : PrpD P w K mg base τ τ.tape "names" 1 (S_names)) (G_Tape_span_of : MetD P w K mg base τ τ.tape "span_of" 1 2 (S_span_of)) : L2.FnOk P w K mg base (L2N.CX P w) 4 f fd ["deck", "tape", "reading"] (spD K τ 3 (S_songs_at ε)) :=
  fnR F sc_songs_at (fun cdv A outer s H E => (ss_cons (s_expr (t_call G_check_number (a_cons (t_var 2) (a_cons t_int (a_cons (t_gI g_MAX_NUMBER) a_nil)))))
  (ss_cons (s_asg (t_methD G_Deck_cells_at (t_var 0) (a_cons (t_var 2) a_nil)) (g_tup (gs_cons 3 (gs_cons 4 gs_nil))))
  (ss_cons (s_set 5 (t_lstO a_nil))
  (ss_cons (s_forT [6, 7, 8] [] (t_prpT G_Tape_names (t_var 1)) (g_name 6)
  (ss_cons (s_asg (t_methT G_Tape_span_of (t_var 1) (a_cons (t_var 6) a_nil)) (g_tup (gs_cons 7 (gs_cons 8 gs_nil))))
  (ss_one (s_if (tt_w (tw_and (tt_c (c_le (t_var 7) (t_var 4))) (tw_and1 (tt_c (c_lt (t_var 3) (t_var 8))))))
  (ss_one (s_expr (t_append (t_var 5) (t_var 6))))
  ss_nil))))
  (ss_frz 5 (ss_one (s_ret (t_var 5))))))))) b_songs_at
abbrev s_alike_songs : Stmt := top 20
theorem sc_alike_songs : L2.FnScope ["deck", "tape", "groups", "name", "reading", "names"] ["deck", "tape"] (defScope s_alike_songs) := ⟨rfl, rfl, rfl, by decide +kernel, rfl, by decide +kernel, by decide +kernel⟩
theorem ok_alike_songs {f : Addr} {fd : FuncData} (F : Fun K "alike_songs" "alike_songs" s_alike_songs f fd) (G_begin_readings : DefD P w K mg base τ "begin_readings" 3 2 (S_begin_readings)) (B_len : GloN mg "len") : L2.FnOk P w K mg base (L2N.CX P w) 4 f fd ["deck", "tape"] (spD K τ 2 (S_alike)) :=
  fnR F sc_alike_songs (fun cdv A outer s H E => (ss_cons (s_set 2 t_dnew)
  (ss_cons (s_forI [3, 4] [] (i_items (t_call G_begin_readings (a_cons (t_var 0) (a_cons (t_var 1) a_nil)))) (g_tup (gs_cons 3 (gs_cons 4 gs_nil)))
  (ss_one (s_expr (t_append (t_setd (t_var 2) (t_var 4)) (t_var 3)))))
  (ss_frzG 2 (ss_one (s_ret (t_lcI1 5 (blkOk_by (by kernel_rfl)) (i_values (t_var 2)) (lc_1i (fun _ _ _ _ _ => (tt_c (c_gt (t_len B_len (a_cons (t_var 5) a_nil)) t_int))) (fun _ _ _ _ _ => (t_var 5)))))))))) b_alike
abbrev s_check_songs : Stmt := top 31
theorem sc_check_songs : L2.FnScope ["tape", "names", "index", "name"] ["tape", "names"] (defScope s_check_songs) := ⟨rfl, rfl, rfl, by decide +kernel, rfl, by decide +kernel, by decide +kernel⟩
theorem ok_check_songs {f : Addr} {fd : FuncData} (F : Fun K "check_songs" "check_songs" s_check_songs f fd) (B_isinstance : GloN mg "isinstance") (B_list : GloN mg "list") (X_InvalidSongs : ExcF P w K mg base "InvalidSongs" ε.songs "index") (B_enumerate : GloN mg "enumerate") (G_Tape_in : ConD P w K mg base τ τ.tape 1 (S_tape_in)) : L2.FnOk P w K mg base (L2N.CX P w) 3 f fd ["tape", "names"] (spD K τ 2 (S_check_songs ε)) :=
  fnR F sc_check_songs (fun cdv A outer s H E => (ss_cons (s_if (tt_not (tt_val (t_isLi B_isinstance B_list (t_var 1))))
  (ss_one (s_raiseF X_InvalidSongs t_int))
  ss_nil)
  (ss_one (s_forI [2, 3] [] (i_enumL B_enumerate (t_var 1)) (g_tup (gs_cons 2 (gs_cons 3 gs_nil)))
  (ss_one (s_if (tt_w (tw_or (tt_c (c_notInT G_Tape_in (t_var 3) (t_var 0))) (tw_or1 (tt_c (c_in (t_var 3) (t_sliceL (t_var 1) o_none (o_some (t_var 2))))))))
  (ss_one (s_raiseF X_InvalidSongs (t_var 2)))
  ss_nil)))))) b_check_songs
abbrev s_winding : Stmt := top 32
theorem sc_winding : L2.FnScope ["tape", "names", "start", "found", "place", "name", "begin", "end"] ["tape", "names", "start"] (defScope s_winding) := ⟨rfl, rfl, rfl, by decide +kernel, rfl, by decide +kernel, by decide +kernel⟩
theorem ok_winding {f : Addr} {fd : FuncData} (F : Fun K "winding" "winding" s_winding f fd) (G_check_songs : DefD P w K mg base τ "check_songs" 3 2 (S_check_songs ε)) (G_check_number : DefD P w K mg base τ "check_number" 2 3 (S_check ε)) (T_Tape : ClsX K τ.tape ["listed", "begins", "total"]) (G_Tape_span_of : MetD P w K mg base τ τ.tape "span_of" 1 2 (S_span_of)) (B_abs : GloN mg "abs") : L2.FnOk P w K mg base (L2N.CX P w) 4 f fd ["tape", "names", "start"] (spD K τ 3 (S_winding ε)) :=
  fnR F sc_winding (fun cdv A outer s H E => (ss_cons (s_expr (t_call G_check_songs (a_cons (t_var 0) (a_cons (t_var 1) a_nil))))
  (ss_cons (s_expr (t_call G_check_number (a_cons (t_var 2) (a_cons t_int (a_cons (t_total T_Tape (t_var 0)) a_nil)))))
  (ss_cons (s_par 3 4 (a_cons t_int (a_cons (t_var 2) a_nil)) (hw := by kernel_rfl) (hs := by kernel_rfl))
  (ss_cons (s_forL [3, 4, 5, 6, 7] [3, 4] (t_var 1) (g_name 5)
  (ss_cons (s_asg (t_methT G_Tape_span_of (t_var 0) (a_cons (t_var 5) a_nil)) (g_tup (gs_cons 6 (gs_cons 7 gs_nil))))
  (ss_cons (s_augAdd 3 (t_abs B_abs (a_cons (t_sub (t_var 6) (t_var 4)) a_nil)))
  (ss_one (s_set 4 (t_var 7))))))
  (ss_one (s_ret (t_var 3)))))))) b_winding
abbrev s_ordered : Stmt := top 33
theorem sc_ordered : L2.FnScope ["tape", "names", "name"] ["tape", "names"] (defScope s_ordered) := ⟨rfl, rfl, rfl, by decide +kernel, rfl, by decide +kernel, by decide +kernel⟩
theorem ok_ordered {f : Addr} {fd : FuncData} (F : Fun K "ordered" "ordered" s_ordered f fd) (G_Tape_names : PrpD P w K mg base τ τ.tape "names" 1 (S_names)) : L2.FnOk P w K mg base (L2N.CX P w) 3 f fd ["tape", "names"] (spD K τ 2 (S_ordered)) :=
  fnR F sc_ordered (fun cdv A outer s H E => (ss_one (s_ret (t_lcT1 2 (blkOk_by (by kernel_rfl)) (t_prpT G_Tape_names (t_var 0)) (lc_1i (fun _ _ _ _ _ => (tt_c (c_in (t_var 2) (t_var 1)))) (fun _ _ _ _ _ => (t_var 2))))))) b_ordered
abbrev s_candidates : Stmt := top 34
theorem sc_candidates : L2.GScope ["tape", "names", "start", "rows", "ahead", "behind", "size", "name"] ["tape", "names", "start"] (defScope s_candidates) := ⟨rfl, rfl, rfl, by decide +kernel, rfl, by decide +kernel, by decide +kernel⟩
theorem ok_candidates {f : Addr} {fd : FuncData} (F : Fun K "candidates" "candidates" s_candidates f fd) (G_ordered : DefD P w K mg base τ "ordered" 3 2 (S_ordered)) (G_Tape_span_of : MetD P w K mg base τ τ.tape "span_of" 1 2 (S_span_of)) (B_len : GloN mg "len") (B_range : GloN mg "range") : GFn P w K mg base 4 f fd ["tape", "names", "start"] (spG K τ 3 (S_cands)) :=
  gnR F sc_candidates (fun cdv A outer s H E pn => (gt_cons (gt_pl (s_set 3 (t_call G_ordered (a_cons (t_var 0) (a_cons (t_var 1) a_nil)))))
  (gt_cons (gt_yl (t_var 3))
  (gt_cons (gt_pl (s_lcL1 4 7 (blkOk_by (by kernel_rfl)) (t_var 3) (lc_1i (fun _ _ _ _ _ => (tt_c (c_le (t_ix (t_methT G_Tape_span_of (t_var 0) (a_cons (t_var 7) a_nil)) t_int) (t_var 2)))) (fun _ _ _ _ _ => (t_var 7)))))
  (gt_cons (gt_pl (s_set 5 (t_sliceL (t_var 3) (o_some (t_len B_len (a_cons (t_var 4) a_nil))) o_none)))
  (gt_cons (gt_forR1 [6] [] B_range (a_cons (t_add (t_len B_len (a_cons (t_var 4) a_nil)) t_int) a_nil) (g_name 6)
  (gt_cons (gt_yl (t_add (t_add (t_var 5) (t_revL (t_sliceL (t_var 4) (o_some (t_var 6)) o_none))) (t_sliceL (t_var 4) o_none (o_some (t_var 6)))))
  gt_nil))
  gt_nil)))))) b_candidates
abbrev s_best_order : Stmt := top 35
theorem sc_best_order : L2.FnScope ["tape", "names", "start", "order"] ["tape", "names", "start"] (defScope s_best_order) := ⟨rfl, rfl, rfl, by decide +kernel, rfl, by decide +kernel, by decide +kernel⟩
theorem ok_best_order {f c : Addr} {fd : FuncData} (F : FunC K "best_order" "best_order" s_best_order f fd c) (G_check_songs : DefD P w K mg base τ "check_songs" 3 2 (S_check_songs ε)) (G_check_number : DefD P w K mg base τ "check_number" 2 3 (S_check ε)) (T_Tape : ClsX K τ.tape ["listed", "begins", "total"]) (G_candidates : GenD P w K mg base τ "candidates" 4 3 (S_cands)) (B_list : GloN mg "list") (G_winding : DefD P w K mg base τ "winding" 4 3 (S_winding ε)) (TB_best_order : LamX.TabB base mg c (π "best_order")) (B_min : GloN mg "min") : L2.FnOk P w K mg base (L2N.CX P w) 8 f fd ["tape", "names", "start"] (spD K τ 3 (S_bestD π)) :=
  fnRC F sc_best_order (fun A outer s H E => (ss_cons (s_expr (t_call G_check_songs (a_cons (t_var 0) (a_cons (t_var 1) a_nil))))
  (ss_cons (s_expr (t_call G_check_number (a_cons (t_var 2) (a_cons t_int (a_cons (t_total T_Tape (t_var 0)) a_nil)))))
  (ss_one (s_ret (t_minK 3 B_min TB_best_order (lam1_by (by kernel_rfl)) (fun _ _ _ _ => (t_call G_winding (a_cons (t_var 0) (a_cons (t_var 3) (a_cons (t_var 2) a_nil))))) (t_listG B_list G_candidates (a_cons (t_var 0) (a_cons (t_var 1) (a_cons (t_var 2) a_nil)))) (fun _ _ _ _ _ _ => rfl))))))) b_bestD
end
end TC
set_option Elab.async false
set_option linter.all false
set_option maxRecDepth 100000
set_option maxHeartbeats 4000000
namespace TC
open PySem PySem.Spec PyProof.Rows L2 DL RD
section
variable {P : Program} {w : World} {K : PySem.W.Frag} {mg : Str → Option Value} {base : Heap} {τ : Tx} {ε : Excs} {π : Str → Addr}
abbrev s_pair : Stmt := top 39
theorem sc_pair : L2.FnScope ["_law_row", "_law_core"] ["_law_row"] (defScope s_pair) := ⟨rfl, rfl, rfl, by decide +kernel, rfl, by decide +kernel, by decide +kernel⟩
theorem ok_pair {f : Addr} {fd : FuncData} (F : Fun K "_law_pair" "_law_pair" s_pair f fd) (G_law_taken : DefD P w K mg base τ "_law_taken" 1 2 (S_taken)) : L2.FnOk P w K mg base (L2N.CX P w) 2 f fd ["_law_row"] (spD K τ 1 (S_pair)) :=
  fnR F sc_pair (fun cdv A outer s H E => (ss_cons (s_set 1 (t_add t_int (t_call G_law_taken (a_cons (t_var 0) (a_cons (t_ix (t_lst (a_cons t_int (a_cons t_int (a_cons t_int a_nil)))) (t_call G_law_taken (a_cons (t_var 0) (a_cons t_int a_nil)))) a_nil)))))
  (ss_one (s_ret (t_tup (a_cons (t_var 1) (a_cons (t_call G_law_taken (a_cons (t_var 0) (a_cons (t_ix (t_lst (a_cons t_int (a_cons t_int (a_cons t_int a_nil)))) (t_call G_law_taken (a_cons (t_var 0) (a_cons t_int a_nil)))) a_nil))) a_nil))))))) b_pair
abbrev s_lsongs : Stmt := top 40
theorem sc_lsongs : L2.FnScope ["_law_row", "_law_most", "_law_long", "_law_found", "_law_names", "_law_k", "_law_name", "_law_song"] ["_law_row", "_law_most", "_law_long"] (defScope s_lsongs) := ⟨rfl, rfl, rfl, by decide +kernel, rfl, by decide +kernel, by decide +kernel⟩
theorem ok_lsongs {f : Addr} {fd : FuncData} (F : Fun K "_law_songs" "_law_songs" s_lsongs f fd) (G_law_taken : DefD P w K mg base τ "_law_taken" 1 2 (S_taken)) (B_len : GloN mg "len") (B_range : GloN mg "range") : L2.FnOk P w K mg base (L2N.CX P w) 2 f fd ["_law_row", "_law_most", "_law_long"] (spD K τ 3 (S_lsongs)) :=
  fnR F sc_lsongs (fun cdv A outer s H E => (ss_cons (s_par 3 4 (a_cons (t_lstO a_nil) (a_cons (t_lst (a_cons t_str (a_cons t_str (a_cons t_str (a_cons t_str (a_cons t_str (a_cons t_str (a_cons t_str (a_cons t_str (a_cons t_str (a_cons t_str a_nil))))))))))) a_nil)) (hw := by kernel_rfl) (hs := by kernel_rfl))
  (ss_cons (s_forR1 [5, 6] [] B_range (a_cons (t_call G_law_taken (a_cons (t_var 0) (a_cons (t_add (t_var 1) t_int) a_nil))) a_nil) (g_name 5)
  (ss_cons (s_set 6 (t_ix (t_var 4) (t_call G_law_taken (a_cons (t_var 0) (a_cons (t_len B_len (a_cons (t_var 4) a_nil)) a_nil)))))
  (ss_one (s_if (tt_c (c_notIn (t_var 6) (t_lcO1 7 (blkOk_by (by kernel_rfl)) (t_var 3) (lco_1 (fun _ _ _ _ _ => (t_ix (t_var 7) t_int))))))
  (ss_one (s_expr (t_append (t_var 3) (t_tup (a_cons (t_var 6) (a_cons (t_add t_int (t_call G_law_taken (a_cons (t_var 0) (a_cons (t_ix (t_lst (a_cons t_int (a_cons t_int (a_cons (t_var 2) a_nil)))) (t_call G_law_taken (a_cons (t_var 0) (a_cons t_int a_nil)))) a_nil)))) a_nil))))))
  ss_nil))))
  (ss_frz 3 (ss_one (s_ret (t_var 3))))))) b_lsongs
abbrev s_ltape : Stmt := top 41
theorem sc_ltape : L2.FnScope ["_law_songs_here", "_law_tape_here", "_law_song"] ["_law_songs_here"] (defScope s_ltape) := ⟨rfl, rfl, rfl, by decide +kernel, rfl, by decide +kernel, by decide +kernel⟩
theorem ok_ltape {f : Addr} {fd : FuncData} (F : Fun K "_law_tape" "_law_tape" s_ltape f fd) (M_Tape : MkS P w K mg base τ "Tape" (τ.tape) 3 (S_Tape ε)) (G_Tape_Add : BinD P w K mg base τ τ.tape .Add 6 (S_tape_add ε)) : L2.FnOk P w K mg base (L2N.CX P w) 7 f fd ["_law_songs_here"] (spD K τ 1 (S_ltape)) :=
  fnR F sc_ltape (fun cdv A outer s H E => (ss_cons (s_set 1 (t_makeS0 M_Tape))
  (ss_cons (s_forL [1, 2] [1] (t_var 0) (g_name 2)
  (ss_one (s_set 1 (t_opTT G_Tape_Add (t_var 1) (t_makeS M_Tape (a_cons (t_var 2) a_nil))))))
  (ss_one (s_ret (t_var 1)))))) b_ltape
abbrev s_alike : Stmt := top 38
theorem sc_alike : L2.FnScope ["_law_one", "_law_due", "_law_k"] ["_law_one", "_law_due"] (defScope s_alike) := ⟨rfl, rfl, rfl, by decide +kernel, rfl, by decide +kernel, by decide +kernel⟩
theorem ok_alike {Sr S : DSp} {j k : Nat} (hj : j ≤ k) {f : Addr} {fd : FuncData} (F : Fun K "_law_alike" "_law_alike" s_alike f fd) (B_isinstance : GloN mg "isinstance") (B_tuple : GloN mg "tuple") (B_list : GloN mg "list") (B_len : GloN mg "len") (B_range : GloN mg "range") (G_law_alike : DefD P w K mg base τ "_law_alike" j 2 Sr) (B_bool : GloN mg "bool") (hb : BODY 3 (t_alike Sr) S) : L2.FnOk P w K mg base (L2N.CX P w) (k + 1) f fd ["_law_one", "_law_due"] (spD K τ 2 S) :=
  fnR F sc_alike (fun cdv A outer s H E => (ss_cons (s_if (tt_w (tw_and (tt_val (t_isTL B_isinstance B_tuple B_list (t_var 0))) (tw_and1 (tt_val (t_isTL B_isinstance B_tuple B_list (t_var 1))))))
  (ss_cons (s_if (tt_w (tw_or (tt_c (c_neq (t_isTu B_isinstance B_tuple (t_var 0)) (t_isTu B_isinstance B_tuple (t_var 1)))) (tw_or1 (tt_c (c_neq (t_len B_len (a_cons (t_var 0) a_nil)) (t_len B_len (a_cons (t_var 1) a_nil)))))))
  (ss_one (s_ret t_bl))
  ss_nil)
  (ss_one (s_ret (t_c (c_eqq (t_lcR1 2 B_range (blkOk_by (by kernel_rfl)) (a_cons (t_len B_len (a_cons (t_var 0) a_nil)) a_nil) (lc_1i (fun _ _ _ _ _ => (tt_not (tt_val (t_call (hj := hj) G_law_alike (a_cons (t_ix (t_var 0) (t_var 2)) (a_cons (t_ix (t_var 1) (t_var 2)) a_nil)))))) (fun _ _ _ _ _ => (t_var 2)))) (t_lst a_nil))))))
  ss_nil)
  (ss_one (s_ret (t_and (t_c (c_eqq (t_var 0) (t_var 1))) (t_one (t_c (c_eqq (t_isBo B_isinstance B_bool (t_var 0)) (t_isBo B_isinstance B_bool (t_var 1)))))))))) hb
abbrev s_told8 : Stmt := top 42
theorem sc_told8 : L2.FnScope ["_law_case", "_law_deck", "_law_tape_here", "_law_names", "_law_told_here"] ["_law_case"] (defScope s_told8) := ⟨rfl, rfl, rfl, by decide +kernel, rfl, by decide +kernel, by decide +kernel⟩
theorem ok_told8 {f : Addr} {fd : FuncData} (F : Fun K "_law_told" "_law_told" s_told8 f fd) (G_Tape_names : PrpD P w K mg base τ τ.tape "names" 1 (S_names)) (B_list : GloN mg "list") (G_alike_songs : DefD P w K mg base τ "alike_songs" 4 2 (S_alike)) (G_songs_at : DefD P w K mg base τ "songs_at" 4 3 (S_songs_at ε)) (G_best_order : DefD P w K mg base τ "best_order" 8 3 (S_bestD π)) (G_Tape_size : PrpD P w K mg base τ τ.tape "size" 1 (S_size)) (G_begin_readings : DefD P w K mg base τ "begin_readings" 3 2 (S_begin_readings)) (G_counters : DefD P w K mg base τ "counters" 3 3 (S_counters ε)) (G_reading_range : DefD P w K mg base τ "reading_range" 4 3 (S_rrange ε)) (M_Deck : MkM P w K mg base τ "Deck" (τ.deck) 3 2 (SM_Deck ε)) (G_Deck_cells_at : MetD P w K mg base τ τ.deck "cells_at" 3 2 (S_cells_at ε)) (G_Tape_songs : PrpD P w K mg base τ τ.tape "songs" 1 (S_songs)) (G_winding : DefD P w K mg base τ "winding" 4 3 (S_winding ε)) (G_Tape_inv : InvD P w K mg base τ τ.tape 6 (S_tape_inv)) : L2.FnOk P w K mg base (L2N.CX P w) 9 f fd ["_law_case"] (spD K τ 1 (S_told8 π)) :=
  fnR F sc_told8 (fun cdv A outer s H E => (ss_cons (s_asg (t_var 0) (g_tup (gs_cons 1 (gs_cons 2 gs_nil))))
  (ss_cons (s_set 3 (t_list B_list (t_prpT G_Tape_names (t_var 2))))
  (ss_cons (s_set 4 (t_lstO (a_cons (t_call G_alike_songs (a_cons (t_var 1) (a_cons (t_var 2) a_nil))) (a_cons (t_call G_songs_at (a_cons (t_var 1) (a_cons (t_var 2) (a_cons t_int a_nil)))) (a_cons (t_call G_best_order (a_cons (t_var 2) (a_cons (t_var 3) (a_cons (t_prpT G_Tape_size (t_var 2)) a_nil)))) a_nil)))))
  (ss_cons (s_expr (t_append (t_var 4) (t_listItems B_list (t_call G_begin_readings (a_cons (t_var 1) (a_cons (t_var 2) a_nil))))))
  (ss_cons (s_expr (t_append (t_var 4) (t_lst (a_cons (t_call G_counters (a_cons (t_var 1) (a_cons (t_var 2) (a_cons (t_fdiv (t_prpT G_Tape_size (t_var 2)) t_int) a_nil)))) (a_cons (t_call G_reading_range (a_cons (t_var 1) (a_cons (t_make M_Deck (a_cons t_int (a_cons t_int a_nil))) (a_cons t_int a_nil)))) a_nil)))))
  (ss_cons (s_expr (t_append (t_var 4) (t_lst (a_cons (t_methD G_Deck_cells_at (t_var 1) (a_cons t_int a_nil)) (a_cons (t_prpT G_Tape_songs (t_var 2)) a_nil)))))
  (ss_frz 4 (ss_one (s_ret (t_addLO (t_var 4) (t_lst (a_cons (t_lst (a_cons (t_call G_winding (a_cons (t_var 2) (a_cons (t_var 3) (a_cons t_int a_nil)))) (a_cons (t_prpT G_Tape_names (t_var 2)) (a_cons (t_prpT G_Tape_songs (t_invT G_Tape_inv (t_var 2))) a_nil)))) a_nil))))))))))))) b_told8
abbrev s_kept : Stmt := top 43
theorem sc_kept : L2.FnScope ["_law_thing", "_law_part"] ["_law_thing"] (defScope s_kept) := ⟨rfl, rfl, rfl, by decide +kernel, rfl, by decide +kernel, by decide +kernel⟩
theorem ok_kept {Sr S : DSp} {j k : Nat} (hj : j ≤ k) {f : Addr} {fd : FuncData} (F : Fun K "_law_kept" "_law_kept" s_kept f fd) (B_isinstance : GloN mg "isinstance") (B_list : GloN mg "list") (G_law_kept : DefD P w K mg base τ "_law_kept" j 1 Sr) (B_tuple : GloN mg "tuple") (hb : BODY 2 (t_kept Sr) S) : L2.FnOk P w K mg base (L2N.CX P w) (k + 1) f fd ["_law_thing"] (spD K τ 1 S) :=
  fnR F sc_kept (fun cdv A outer s H E => (ss_cons (s_if (tt_val (t_isLi B_isinstance B_list (t_var 0)))
  (ss_one (s_ret (t_lcL1 1 (blkOk_by (by kernel_rfl)) (t_var 0) (lc_1 (fun _ _ _ _ _ => (t_call (hj := hj) G_law_kept (a_cons (t_var 1) a_nil)))))))
  ss_nil)
  (ss_one (s_ret (t_if (tt_val (t_isTu B_isinstance B_tuple (t_var 0))) (t_tuple B_tuple (t_lcT1 1 (blkOk_by (by kernel_rfl)) (t_var 0) (lc_1 (fun _ _ _ _ _ => (t_call (hj := hj) G_law_kept (a_cons (t_var 1) a_nil)))))) (t_var 0)))))) hb
end
end TC
set_option Elab.async false
set_option linter.all false
set_option maxRecDepth 100000
set_option maxHeartbeats 4000000
namespace TC
open PySem PySem.Spec PyProof.Rows L2 DL RD
section
variable {P : Program} {w : World} {K : PySem.W.Frag} {mg : Str → Option Value} {base : Heap} {τ : Tx} {ε : Excs} {π : Str → Addr}
abbrev s_law : Stmt := top 44
theorem sc_law : L2.FnScope ["_law_script", "_law_row", "_law_cases", "_law_k", "_law_pair_here", "_law_kept_here", "_law_turn", "_law_told_here", "_law_thing", "_law_case"] ["_law_script"] (defScope s_law) := ⟨rfl, rfl, rfl, by decide +kernel, rfl, by decide +kernel, by decide +kernel⟩
theorem ok_law {f : Addr} {fd : FuncData} (F : Fun K "law" "law" s_law f fd) (G_law_pair : DefD P w K mg base τ "_law_pair" 2 1 (S_pair)) (M_Deck : MkM P w K mg base τ "Deck" (τ.deck) 3 2 (SM_Deck ε)) (G_law_tape : DefD P w K mg base τ "_law_tape" 7 1 (S_ltape)) (G_law_songs : DefD P w K mg base τ "_law_songs" 2 3 (S_lsongs)) (B_range : GloN mg "range") (G_law_kept : DefD P w K mg base τ "_law_kept" 5 1 (S_kept 4)) (G_law_told : DefD P w K mg base τ "_law_told" 9 1 (S_told8 π)) (G_law_taken : DefD P w K mg base τ "_law_taken" 1 2 (S_taken)) (G_law_alike : DefD P w K mg base τ "_law_alike" 5 2 (S_alk 4)) (GO_begin_readings : DefD P w K mg base τ "begin_readings" 3 2 (S_begin_readingsO)) : L2.FnOk P w K mg base (L2N.CX P w) 11 f fd ["_law_script"] (spD K τ 1 (S_lawT [(π "best_order", lamB)])) :=
  fnR F sc_law (fun cdv A outer s H E => (ss_drop (ss_cons (s_set 1 (t_lstO (a_cons (t_var 0) (a_cons t_int (a_cons t_int (a_cons t_int a_nil))))))
  (ss_cons (s_set 2 (t_lstO a_nil))
  (ss_cons (s_forR1 [3, 4] [] B_range (a_cons t_int a_nil) (g_name 3)
  (ss_cons (s_set 4 (t_call G_law_pair (a_cons (t_var 1) a_nil)))
  (ss_one (s_expr (t_append (t_var 2) (t_tup (a_cons (t_make M_Deck (a_cons (t_ix (t_var 4) t_int) (a_cons (t_ix (t_var 4) t_int) a_nil))) (a_cons (t_call G_law_tape (a_cons (t_add (t_lst (a_cons (t_tup (a_cons t_str (a_cons t_int a_nil))) (a_cons (t_tup (a_cons t_str (a_cons t_int a_nil))) a_nil))) (t_call G_law_songs (a_cons (t_var 1) (a_cons t_int (a_cons t_int a_nil))))) a_nil)) a_nil))))))))
  (ss_frz 2 (ss_cons (s_lcL1 5 9 (blkOk_by (by kernel_rfl)) (t_var 2) (lc_1 (fun _ _ _ _ _ => (t_call G_law_kept (a_cons (t_fz (t_call G_law_told (a_cons (t_var 9) a_nil))) a_nil)))))
  (ss_cons (s_forR1 [3, 6, 7, 8] [] B_range (a_cons (t_call G_law_taken (a_cons (t_var 1) (a_cons t_int a_nil))) a_nil) (g_name 6)
  (ss_cons (s_set 3 (t_call G_law_taken (a_cons (t_var 1) (a_cons t_int a_nil))))
  (ss_fresh 7 G_law_told (a_cons (t_ix (t_var 2) (t_var 3)) a_nil) (tt_not (tt_val (t_call G_law_alike (a_cons (t_var 7) (a_cons (t_ix (t_var 5) (t_var 3)) a_nil)))))
  (ss_cons (s_expr (t_clear0 (t_call GO_begin_readings (a_cons (t_ix (t_ix (t_var 2) (t_var 3)) t_int) (a_cons (t_ix (t_ix (t_var 2) (t_var 3)) t_int) a_nil)))))
  (ss_one (s_forO [8] [] (t_var 7) (g_name 8)
  (ss_cons (s_expr (t_append (t_var 8) t_int))
  (ss_one (s_expr (t_reverse0 (t_var 8)))))))))))
  (ss_one (s_ret t_bl)))))))))) b_law08
end
end TC
set_option Elab.async false
set_option linter.all false
set_option maxRecDepth 100000
set_option maxHeartbeats 4000000
namespace TC
open PySem PySem.Spec PyProof.Rows L2 DL
section
variable {P : Program} {w : World} {K : PySem.W.Frag} {mg : Str → Option Value} {base : Heap} {τ : Tx} {ε : Excs}
abbrev s_xInvalidTape : Stmt := inClass (top 4) 0
theorem sc_xInvalidTape : FnScope ["self", "index"] ["self", "index"] (defScope s_xInvalidTape) := ⟨rfl, rfl, rfl, by decide +kernel, rfl, by decide +kernel, by decide +kernel⟩
theorem ok_xInvalidTape {f C R : Addr} {fd : FuncData} (F : Fun K "__init__" "InvalidTape.__init__" s_xInvalidTape f fd) (T : OexC K C) (hno : PySem.W.findIn K (.ref C) "index" = some none) (TB : BaseI K mg "TapeError" R) : FnOk P w K mg base (L2N.CX P w) 1 f fd ["self", "index"] (spX1 C "index") := by
  refine F.okXN sc_xInvalidTape (fun vs H Q E h => ?_) (fun cdv A outer s H vs Q E hr h => ?_)
  · obtain ⟨a, v, rfl, _⟩ := h
    rfl
  · obtain ⟨a, v, rfl, ha, hf, hk⟩ := h
    refine ⟨_, pss_cons (ps_expr (pe_bainit TB (pa_cons (pv 0) (pa_cons (pe_joined (.cons pe_str (.cons (pe_fmt3 (pv 1)) .nil))) pa_nil)))) (pss_one (ps_ost (pv 0) (pv 1))), ?_⟩
    refine ⟨_, rfl, ?_⟩
    refine ⟨_, rfl, fmt_fits0 (by decide +kernel), _, rfl, ?_⟩
    rcases fmt_cases hf with ⟨y, rfl, hy⟩ | ⟨i, rfl, hi⟩ | rfl
    · exact .inl ⟨_, rfl, Nat.le_trans hy (by decide), _, rfl, fmt_fits (by decide +kernel) (Nat.le_trans hy (by decide)), a, C, _, rfl, Nat.le_of_ble_eq_true rfl, T, ha, _, rfl, _, rfl, a, C, rfl, T, hno, .inl ⟨ha, fun d hd hda => hk d hd hda⟩⟩
    · exact .inr (.inl ⟨_, rfl, hi, _, rfl, fmt_fits (by decide +kernel) (int_text_len_1921 hi), a, C, _, rfl, Nat.le_of_ble_eq_true rfl, T, ha, _, rfl, _, rfl, a, C, rfl, T, hno, .inl ⟨ha, fun d hd hda => hk d hd hda⟩⟩)
    · exact .inr (.inr ⟨rfl, _, rfl, fmt_fits (by decide +kernel) (by decide +kernel), a, C, _, rfl, Nat.le_of_ble_eq_true rfl, T, ha, _, rfl, _, rfl, a, C, rfl, T, hno, .inl ⟨ha, fun d hd hda => hk d hd hda⟩⟩)
abbrev s_xInvalidSongs : Stmt := inClass (top 7) 0
theorem sc_xInvalidSongs : FnScope ["self", "index"] ["self", "index"] (defScope s_xInvalidSongs) := ⟨rfl, rfl, rfl, by decide +kernel, rfl, by decide +kernel, by decide +kernel⟩
theorem ok_xInvalidSongs {f C R : Addr} {fd : FuncData} (F : Fun K "__init__" "InvalidSongs.__init__" s_xInvalidSongs f fd) (T : OexC K C) (hno : PySem.W.findIn K (.ref C) "index" = some none) (TB : BaseI K mg "TapeError" R) : FnOk P w K mg base (L2N.CX P w) 1 f fd ["self", "index"] (spX1 C "index") := by
  refine F.okXN sc_xInvalidSongs (fun vs H Q E h => ?_) (fun cdv A outer s H vs Q E hr h => ?_)
  · obtain ⟨a, v, rfl, _⟩ := h
    rfl
  · obtain ⟨a, v, rfl, ha, hf, hk⟩ := h
    refine ⟨_, pss_cons (ps_expr (pe_bainit TB (pa_cons (pv 0) (pa_cons (pe_joined (.cons pe_str (.cons (pe_fmt3 (pv 1)) .nil))) pa_nil)))) (pss_one (ps_ost (pv 0) (pv 1))), ?_⟩
    refine ⟨_, rfl, ?_⟩
    refine ⟨_, rfl, fmt_fits0 (by decide +kernel), _, rfl, ?_⟩
    rcases fmt_cases hf with ⟨y, rfl, hy⟩ | ⟨i, rfl, hi⟩ | rfl
    · exact .inl ⟨_, rfl, Nat.le_trans hy (by decide), _, rfl, fmt_fits (by decide +kernel) (Nat.le_trans hy (by decide)), a, C, _, rfl, Nat.le_of_ble_eq_true rfl, T, ha, _, rfl, _, rfl, a, C, rfl, T, hno, .inl ⟨ha, fun d hd hda => hk d hd hda⟩⟩
    · exact .inr (.inl ⟨_, rfl, hi, _, rfl, fmt_fits (by decide +kernel) (int_text_len_1921 hi), a, C, _, rfl, Nat.le_of_ble_eq_true rfl, T, ha, _, rfl, _, rfl, a, C, rfl, T, hno, .inl ⟨ha, fun d hd hda => hk d hd hda⟩⟩)
    · exact .inr (.inr ⟨rfl, _, rfl, fmt_fits (by decide +kernel) (by decide +kernel), a, C, _, rfl, Nat.le_of_ble_eq_true rfl, T, ha, _, rfl, _, rfl, a, C, rfl, T, hno, .inl ⟨ha, fun d hd hda => hk d hd hda⟩⟩)
end
end TC
set_option Elab.async false
set_option linter.all false
set_option maxRecDepth 100000
set_option maxHeartbeats 2000000
/-! Hz2: the walk of a law whose part of the heap the Hook tells. -/
namespace TC
open PySem PySem.Spec PyProof.Rows L2 DL LamX
/-- walkT, the part of the heap given by the Hook -/
theorem walkZ {l : PySem.W.OpenLaw} {q : Program} {loose : List Str} {XP : (Str → Option Value) → Heap → Prop} {YP : World → Heap → Prop} {d : DefRec} {k : Nat} (hk : k ≤ 30) (hn : l.most = some 63) (hdf : d.params.defaults = [])
    (F : ∀ (w : World) (mg : Str → Option Value) (fa : Addr) (h : Heap), YP w h → h.Ns mainGlobals mg → mg d.name = some (.ref fa) → ∃ (K : PySem.W.Frag) (ts : List Addr), K.In h ∧ (∀ P ∈ ts, h.get? P = some { cls := .none, data := .fields #[] }) ∧ LawT l w K k mg fa ts) :
    PySem.W.WalkO q loose XP YP l.row.toRowW d [] (fun f vs => PySem.call f vs) := by
  refine LamX.walk_ofTsE (n := 63) (k := k) (x := "_law_script") (CX := fun _ => CX0) hn (by decide) hdf (Room.mono (k := 30) ⟨rfl, by decide, by decide⟩ hk) (fun w mg fa h Y G hmg => ?_) fun _ _ _ _ _ z => z
  obtain ⟨K, ts, KX, hT, E, fd, h1, h2, h3⟩ := F w mg fa h Y G hmg
  have of_ : ∀ p ∈ E.map fun e => (e.1, e.2.1), ∃ e ∈ E, p = (e.1, e.2.1) := fun p hp => by
    obtain ⟨e, he, z⟩ := List.mem_map.mp hp
    exact ⟨e, he, z.symm⟩
  refine ⟨K, KX, fd, E.map fun e => (e.1, e.2.1), spLawT K (E.map (·.2)), fun p hp => ?_, fun p hp => ?_, fun p hp => ?_, h2, fun H a ns hl _ hH hS => ⟨a, ns, rfl, hS, hl, fun p hp => ?_, fun _ => rfl⟩, fun base hb hns TB => h3 base hb hns fun e he => TB (e.1, e.2.1) (List.mem_map.mpr ⟨e, he, rfl⟩)⟩
  · obtain ⟨e, he, rfl⟩ := of_ p hp
    exact hT _ (h1 e he).1
  · obtain ⟨e, he, rfl⟩ := of_ p hp
    exact (h1 e he).2.1
  · obtain ⟨e, he, rfl⟩ := of_ p hp
    exact PySem.W.codeHd_of_K KX (h1 e he).2.2
  · obtain ⟨e, he, rfl⟩ := List.mem_map.mp hp
    exact hH (e.1, e.2.1) (List.mem_map.mpr ⟨e, he, rfl⟩)
end TC
set_option Elab.async false
set_option linter.all false
set_option maxRecDepth 100000
set_option maxHeartbeats 4000000
namespace TC
open PySem PySem.Spec PyProof.Rows L2 DL RD
theorem all_mk {l : PySem.W.OpenLaw} {w : World} {K : PySem.W.Frag} {h : Heap} {mg : Str → Option Value} {fa : Addr} {ts : List Addr} (X : K.In h) (G : h.Ns mainGlobals mg) (hfa : mg "law" = some (.ref fa))
    {fisint : Addr} {odisint anisint : Option Addr} {slisint : Array (Option Value)} {ocisint kVisint dcisint pmisint cdisint ctisint : Value} {CInvalidNumber : Addr} {fcheck : Addr} {odcheck ancheck : Option Addr} {slcheck : Array (Option Value)} {occheck kVcheck dccheck pmcheck cdcheck ctcheck : Value} {CDeck : Addr} {tMC tMN : Tok} {CInvalidDeck : Addr} {CTapeError : Addr} {fInvalidDeck : Addr} {odInvalidDeck anInvalidDeck : Option Addr} {slInvalidDeck : Array (Option Value)} {ocInvalidDeck kVInvalidDeck dcInvalidDeck pmInvalidDeck cdInvalidDeck ctInvalidDeck : Value} {nmInvalidDeck qnInvalidDeck NInvalidDeck bsInvalidDeck bmInvalidDeck snInvalidDeck subInvalidDeck abInvalidDeck colInvalidDeck ddInvalidDeck kaInvalidDeck kbInvalidDeck kcInvalidDeck kdInvalidDeck keInvalidDeck} {fDinit : Addr} {odDinit anDinit : Option Addr} {slDinit : Array (Option Value)} {ocDinit kVDinit dcDinit pmDinit cdDinit ctDinit : Value} {fcore : Addr} {odcore ancore : Option Addr} {slcore : Array (Option Value)} {occore kVcore dccore pmcore cdcore ctcore : Value} {pcore : Addr} {recore : List Value} {fgrowth : Addr} {odgrowth angrowth : Option Addr} {slgrowth : Array (Option Value)} {ocgrowth kVgrowth dcgrowth pmgrowth cdgrowth ctgrowth : Value} {pgrowth : Addr} {regrowth : List Value} {fgetitem : Addr} {odgetitem angetitem : Option Addr} {slgetitem : Array (Option Value)} {ocgetitem kVgetitem dcgetitem pmgetitem cdgetitem ctgetitem : Value} {flength_of : Addr} {odlength_of anlength_of : Option Addr} {sllength_of : Array (Option Value)} {oclength_of kVlength_of dclength_of pmlength_of cdlength_of ctlength_of : Value} {fturns_in : Addr} {odturns_in anturns_in : Option Addr} {slturns_in : Array (Option Value)} {octurns_in kVturns_in dcturns_in pmturns_in cdturns_in ctturns_in : Value} {fcall : Addr} {odcall ancall : Option Addr} {slcall : Array (Option Value)} {occall kVcall dccall pmcall cdcall ctcall : Value} {fcells : Addr} {odcells ancells : Option Addr} {slcells : Array (Option Value)} {occells kVcells dccells pmcells cdcells ctcells : Value} {fcells_at : Addr} {odcells_at ancells_at : Option Addr} {slcells_at : Array (Option Value)} {occells_at kVcells_at dccells_at pmcells_at cdcells_at ctcells_at : Value} {flater : Addr} {odlater anlater : Option Addr} {sllater : Array (Option Value)} {oclater kVlater dclater pmlater cdlater ctlater : Value} {frshift : Addr} {odrshift anrshift : Option Addr} {slrshift : Array (Option Value)} {ocrshift kVrshift dcrshift pmrshift cdrshift ctrshift : Value} {fdeq : Addr} {oddeq andeq : Option Addr} {sldeq : Array (Option Value)} {ocdeq kVdeq dcdeq pmdeq cddeq ctdeq : Value} {frrange : Addr} {odrrange anrrange : Option Addr} {slrrange : Array (Option Value)} {ocrrange kVrrange dcrrange pmrrange cdrrange ctrrange : Value} {ftaken : Addr} {odtaken antaken : Option Addr} {sltaken : Array (Option Value)} {octaken kVtaken dctaken pmtaken cdtaken cttaken : Value} {tg_MAX_LETTERS : Tok} {tg_LETTERS : Tok} {f_is_name : Addr} {od_is_name an_is_name : Option Addr} {sl_is_name : Array (Option Value)} {oc_is_name kV_is_name dc_is_name pm_is_name cd_is_name ct_is_name : Value} {f_is_song : Addr} {od_is_song an_is_song : Option Addr} {sl_is_song : Array (Option Value)} {oc_is_song kV_is_song dc_is_song pm_is_song cd_is_song ct_is_song : Value} {tg_MAX_SONGS_tapes : Tok} {CInvalidTape : Addr} {fInvalidTape : Addr} {odInvalidTape anInvalidTape : Option Addr} {slInvalidTape : Array (Option Value)} {ocInvalidTape kVInvalidTape dcInvalidTape pmInvalidTape cdInvalidTape ctInvalidTape : Value} {nmInvalidTape qnInvalidTape NInvalidTape bsInvalidTape bmInvalidTape snInvalidTape subInvalidTape abInvalidTape colInvalidTape ddInvalidTape kaInvalidTape kbInvalidTape kcInvalidTape kdInvalidTape keInvalidTape} {CTape : Addr} {fTI : Addr} {odTI anTI : Option Addr} {slTI : Array (Option Value)} {ocTI kVTI dcTI pmTI cdTI ctTI : Value} {f_Tape_songs : Addr} {od_Tape_songs an_Tape_songs : Option Addr} {sl_Tape_songs : Array (Option Value)} {oc_Tape_songs kV_Tape_songs dc_Tape_songs pm_Tape_songs cd_Tape_songs ct_Tape_songs : Value} {p_Tape_songs : Addr} {re_Tape_songs : List Value} {f_Tape_names : Addr} {od_Tape_names an_Tape_names : Option Addr} {sl_Tape_names : Array (Option Value)} {oc_Tape_names kV_Tape_names dc_Tape_names pm_Tape_names cd_Tape_names ct_Tape_names : Value} {p_Tape_names : Addr} {re_Tape_names : List Value} {f_Tape_size : Addr} {od_Tape_size an_Tape_size : Option Addr} {sl_Tape_size : Array (Option Value)} {oc_Tape_size kV_Tape_size dc_Tape_size pm_Tape_size cd_Tape_size ct_Tape_size : Value} {p_Tape_size : Addr} {re_Tape_size : List Value} {f_Tape_span_of : Addr} {od_Tape_span_of an_Tape_span_of : Option Addr} {sl_Tape_span_of : Array (Option Value)} {oc_Tape_span_of kV_Tape_span_of dc_Tape_span_of pm_Tape_span_of cd_Tape_span_of ct_Tape_span_of : Value} {f_Tape_in : Addr} {od_Tape_in an_Tape_in : Option Addr} {sl_Tape_in : Array (Option Value)} {oc_Tape_in kV_Tape_in dc_Tape_in pm_Tape_in cd_Tape_in ct_Tape_in : Value} {f_tape_of : Addr} {od_tape_of an_tape_of : Option Addr} {sl_tape_of : Array (Option Value)} {oc_tape_of kV_tape_of dc_tape_of pm_tape_of cd_tape_of ct_tape_of : Value} {f_Tape_Add : Addr} {od_Tape_Add an_Tape_Add : Option Addr} {sl_Tape_Add : Array (Option Value)} {oc_Tape_Add kV_Tape_Add dc_Tape_Add pm_Tape_Add cd_Tape_Add ct_Tape_Add : Value} {f_Tape_inv : Addr} {od_Tape_inv an_Tape_inv : Option Addr} {sl_Tape_inv : Array (Option Value)} {oc_Tape_inv kV_Tape_inv dc_Tape_inv pm_Tape_inv cd_Tape_inv ct_Tape_inv : Value} {f_counters : Addr} {od_counters an_counters : Option Addr} {sl_counters : Array (Option Value)} {oc_counters kV_counters dc_counters pm_counters cd_counters ct_counters : Value} {f_begin_readings : Addr} {od_begin_readings an_begin_readings : Option Addr} {sl_begin_readings : Array (Option Value)} {oc_begin_readings kV_begin_readings dc_begin_readings pm_begin_readings cd_begin_readings ct_begin_readings : Value} {f_songs_at : Addr} {od_songs_at an_songs_at : Option Addr} {sl_songs_at : Array (Option Value)} {oc_songs_at kV_songs_at dc_songs_at pm_songs_at cd_songs_at ct_songs_at : Value} {f_alike_songs : Addr} {od_alike_songs an_alike_songs : Option Addr} {sl_alike_songs : Array (Option Value)} {oc_alike_songs kV_alike_songs dc_alike_songs pm_alike_songs cd_alike_songs ct_alike_songs : Value} {CInvalidSongs : Addr} {fInvalidSongs : Addr} {odInvalidSongs anInvalidSongs : Option Addr} {slInvalidSongs : Array (Option Value)} {ocInvalidSongs kVInvalidSongs dcInvalidSongs pmInvalidSongs cdInvalidSongs ctInvalidSongs : Value} {nmInvalidSongs qnInvalidSongs NInvalidSongs bsInvalidSongs bmInvalidSongs snInvalidSongs subInvalidSongs abInvalidSongs colInvalidSongs ddInvalidSongs kaInvalidSongs kbInvalidSongs kcInvalidSongs kdInvalidSongs keInvalidSongs} {f_check_songs : Addr} {od_check_songs an_check_songs : Option Addr} {sl_check_songs : Array (Option Value)} {oc_check_songs kV_check_songs dc_check_songs pm_check_songs cd_check_songs ct_check_songs : Value} {f_winding : Addr} {od_winding an_winding : Option Addr} {sl_winding : Array (Option Value)} {oc_winding kV_winding dc_winding pm_winding cd_winding ct_winding : Value} {f_ordered : Addr} {od_ordered an_ordered : Option Addr} {sl_ordered : Array (Option Value)} {oc_ordered kV_ordered dc_ordered pm_ordered cd_ordered ct_ordered : Value} {f_candidates : Addr} {od_candidates an_candidates : Option Addr} {sl_candidates : Array (Option Value)} {oc_candidates kV_candidates dc_candidates pm_candidates cd_candidates ct_candidates : Value} {f_best_order cc_best_order P_best_order : Addr} {od_best_order an_best_order odk_best_order : Option Addr} {sl_best_order slk_best_order : Array (Option Value)} {oc_best_order kV_best_order dc_best_order pm_best_order ct_best_order : Value} {vsk_best_order : Array Value} {f_law_pair : Addr} {od_law_pair an_law_pair : Option Addr} {sl_law_pair : Array (Option Value)} {oc_law_pair kV_law_pair dc_law_pair pm_law_pair cd_law_pair ct_law_pair : Value} {f_law_songs : Addr} {od_law_songs an_law_songs : Option Addr} {sl_law_songs : Array (Option Value)} {oc_law_songs kV_law_songs dc_law_songs pm_law_songs cd_law_songs ct_law_songs : Value} {f_law_tape : Addr} {od_law_tape an_law_tape : Option Addr} {sl_law_tape : Array (Option Value)} {oc_law_tape kV_law_tape dc_law_tape pm_law_tape cd_law_tape ct_law_tape : Value} {f_alike : Addr} {od_alike an_alike : Option Addr} {sl_alike : Array (Option Value)} {oc_alike kV_alike dc_alike pm_alike cd_alike ct_alike : Value} {f_law_told : Addr} {od_law_told an_law_told : Option Addr} {sl_law_told : Array (Option Value)} {oc_law_told kV_law_told dc_law_told pm_law_told cd_law_told ct_law_told : Value} {f_kept : Addr} {od_kept an_kept : Option Addr} {sl_kept : Array (Option Value)} {oc_kept kV_kept dc_kept pm_kept cd_kept ct_kept : Value} {flaw : Addr} {odlaw anlaw : Option Addr} {sllaw : Array (Option Value)} {oclaw kVlaw dclaw pmlaw cdlaw ctlaw : Value}
    (lisint : K.lookup fisint = some ⟨ocisint, odisint, .func (PySem.W.fnOf "is_integer" "is_integer" (defArgs s_isint) (defBody s_isint) (defScope s_isint) .none kVisint dcisint pmisint anisint cdisint ctisint), slisint⟩)
    (cisint : PySem.W.codeIn K cdisint "is_integer" = true)
    (kisint : PySem.W.keepIn K (.ref fisint) = true)
    (aisint : PySem.W.nsIn K mainGlobals "is_integer" = some (some (.ref fisint)))
    (gInvalidNumber : PySem.W.nsIn K mainGlobals "InvalidNumber" = some (some (.ref CInvalidNumber)))
    (xeInvalidNumber : PySem.W.excIn K CInvalidNumber [.type "ValueError", .type "Exception", .type "BaseException", .type "object"] "ValueError.__new__" = true)
    (xkInvalidNumber : PySem.W.keepIn K (.ref CInvalidNumber) = true)
    (xsInvalidNumber : PySem.W.subIn K (.ref CInvalidNumber) (.type "BaseException") = some true)
    (xtInvalidNumber : PySem.W.typeIn K (.ref CInvalidNumber) = some (.type "type"))
    (lcheck : K.lookup fcheck = some ⟨occheck, odcheck, .func (PySem.W.fnOf "check_number" "check_number" (defArgs s_check) (defBody s_check) (defScope s_check) .none kVcheck dccheck pmcheck ancheck cdcheck ctcheck), slcheck⟩)
    (ccheck : PySem.W.codeIn K cdcheck "check_number" = true)
    (kcheck : PySem.W.keepIn K (.ref fcheck) = true)
    (acheck : PySem.W.nsIn K mainGlobals "check_number" = some (some (.ref fcheck)))
    (gDeck : PySem.W.nsIn K mainGlobals "Deck" = some (some (.ref CDeck)))
    (pgDeck : PySem.W.plainGet K CDeck Str.empty = true)
    (hdDeck : PySem.W.hasDictIn K CDeck = true)
    (poDeck : PySem.W.plainOver K CDeck = true)
    (saDeck : PySem.W.findIn K (.ref CDeck) "__setattr__" = some (some (.builtin "object.__setattr__")))
    (iaDeck : PySem.W.findIn K (.ref CDeck) "__class__" = some (some (.builtin "object.__class__")))
    (ib : PySem.W.specialIn K (.builtin "object.__class__") "__get__" = some (some (.builtin "getset_descriptor.__get__")))
    (it : PySem.W.takesIn K (.builtin "object.__class__") = some true)
    (imDeck : PySem.W.mroIn K CDeck (.type "object") = some true)
    (sDeckNoneType : PySem.W.subIn K (.type "NoneType") (.ref CDeck) = some false)
    (sDeckbool : PySem.W.subIn K (.type "bool") (.ref CDeck) = some false)
    (sDeckint : PySem.W.subIn K (.type "int") (.ref CDeck) = some false)
    (sDeckstr : PySem.W.subIn K (.type "str") (.ref CDeck) = some false)
    (sDecktuple : PySem.W.subIn K (.type "tuple") (.ref CDeck) = some false)
    (sDecklist : PySem.W.subIn K (.type "list") (.ref CDeck) = some false)
    (icDeck : PySem.W.isClsIn K CDeck = true)
    (tyDeck : PySem.W.typeIn K (.ref CDeck) = some (.type "type"))
    (nDeckfirst : PySem.W.findIn K (.ref CDeck) "first" = some none)
    (nDeckmore : PySem.W.findIn K (.ref CDeck) "more" = some none)
    (mMC : PySem.W.nsIn K mainGlobals "MAX_CORE_decks" = some (some (.int 1000000000 tMC)))
    (mMN : PySem.W.nsIn K mainGlobals "MAX_NUMBER" = some (some (.int 1000000000000000000 tMN)))
    (gInvalidDeck : PySem.W.nsIn K mainGlobals "InvalidDeck" = some (some (.ref CInvalidDeck)))
    (gTapeError : PySem.W.nsIn K mainGlobals "TapeError" = some (some (.ref CTapeError)))
    (rdTapeError : PySem.W.readsIn K CTapeError (.type "type") = true)
    (gaTapeError : PySem.W.specialIn K (.ref CTapeError) "__getattribute__" = some (some (.builtin "type.__getattribute__")))
    (tI : PySem.W.findCls K (.ref CTapeError) (.type "type") "__init__" = some (.val (.builtin "ValueError.__init__")))
    (lInvalidDeck : K.lookup fInvalidDeck = some ⟨ocInvalidDeck, odInvalidDeck, .func (PySem.W.fnOf "__init__" "InvalidDeck.__init__" (defArgs s_xDeck) (defBody s_xDeck) (defScope s_xDeck) .none kVInvalidDeck dcInvalidDeck pmInvalidDeck anInvalidDeck cdInvalidDeck ctInvalidDeck), slInvalidDeck⟩)
    (cInvalidDeck : PySem.W.codeIn K cdInvalidDeck "InvalidDeck.__init__" = true)
    (kInvalidDeck : PySem.W.keepIn K (.ref fInvalidDeck) = true)
    (xkInvalidDeck : PySem.W.keepIn K (.ref CInvalidDeck) = true)
    (xsInvalidDeck : PySem.W.subIn K (.ref CInvalidDeck) (.type "BaseException") = some true)
    (xtInvalidDeck : PySem.W.typeIn K (.ref CInvalidDeck) = some (.type "type"))
    (xaInvalidDeck : PySem.W.findIn K (.ref CInvalidDeck) "__setattr__" = some (some (.builtin "object.__setattr__")))
    (xiInvalidDeck : PySem.W.findIn K (.ref CInvalidDeck) "__init__" = some (some (.ref fInvalidDeck)))
    (xjInvalidDeck : PySem.W.typeIn K (.ref fInvalidDeck) = some (.type "function"))
    (xnInvalidDeck : PySem.W.findIn K (.ref CInvalidDeck) "part" = some none)
    (xlInvalidDeck : K.lookup CInvalidDeck = some (excClassObj nmInvalidDeck qnInvalidDeck CInvalidDeck NInvalidDeck bsInvalidDeck bmInvalidDeck true snInvalidDeck subInvalidDeck abInvalidDeck colInvalidDeck ddInvalidDeck kaInvalidDeck kbInvalidDeck kcInvalidDeck kdInvalidDeck keInvalidDeck "ValueError.__new__"))
    (xrInvalidDeck : PySem.HandSPX.refsVE bmInvalidDeck = true)
    (lDinit : K.lookup fDinit = some ⟨ocDinit, odDinit, .func (PySem.W.fnOf "__init__" "Deck.__init__" (defArgs s_Deck_init) (defBody s_Deck_init) (defScope s_Deck_init) .none kVDinit dcDinit pmDinit anDinit cdDinit ctDinit), slDinit⟩)
    (cDinit : PySem.W.codeIn K cdDinit "Deck.__init__" = true)
    (kDinit : PySem.W.keepIn K (.ref fDinit) = true)
    (mkDeck : PySem.W.makesIn K CDeck = true)
    (kpDeck : PySem.W.keepIn K (.ref CDeck) = true)
    (aDinit : PySem.W.findIn K (.ref CDeck) "__init__" = some (some (.ref fDinit)))
    (iDinit : PySem.W.isFn K (.ref fDinit) = true)
    (lcore : K.lookup fcore = some ⟨occore, odcore, .func (PySem.W.fnOf "core" "Deck.core" (defArgs s_core) (defBody s_core) (defScope s_core) .none kVcore dccore pmcore ancore cdcore ctcore), slcore⟩)
    (ccore : PySem.W.codeIn K cdcore "Deck.core" = true)
    (kcore : PySem.W.keepIn K (.ref fcore) = true)
    (acore : PySem.W.findIn K (.ref CDeck) "core" = some (some (.ref pcore)))
    (pgcore : PySem.W.specialIn K (.ref pcore) "__get__" = some (some (.builtin "property.__get__")))
    (ptcore : PySem.W.takesIn K (.ref pcore) = some true)
    (prcore : PySem.W.recIn K pcore "property" = some (.ref fcore :: recore))
    (lgrowth : K.lookup fgrowth = some ⟨ocgrowth, odgrowth, .func (PySem.W.fnOf "growth" "Deck.growth" (defArgs s_growth) (defBody s_growth) (defScope s_growth) .none kVgrowth dcgrowth pmgrowth angrowth cdgrowth ctgrowth), slgrowth⟩)
    (cgrowth : PySem.W.codeIn K cdgrowth "Deck.growth" = true)
    (kgrowth : PySem.W.keepIn K (.ref fgrowth) = true)
    (agrowth : PySem.W.findIn K (.ref CDeck) "growth" = some (some (.ref pgrowth)))
    (pggrowth : PySem.W.specialIn K (.ref pgrowth) "__get__" = some (some (.builtin "property.__get__")))
    (ptgrowth : PySem.W.takesIn K (.ref pgrowth) = some true)
    (prgrowth : PySem.W.recIn K pgrowth "property" = some (.ref fgrowth :: regrowth))
    (lgetitem : K.lookup fgetitem = some ⟨ocgetitem, odgetitem, .func (PySem.W.fnOf "__getitem__" "Deck.__getitem__" (defArgs s_getitem) (defBody s_getitem) (defScope s_getitem) .none kVgetitem dcgetitem pmgetitem angetitem cdgetitem ctgetitem), slgetitem⟩)
    (cgetitem : PySem.W.codeIn K cdgetitem "Deck.__getitem__" = true)
    (kgetitem : PySem.W.keepIn K (.ref fgetitem) = true)
    (agetitem : PySem.W.findIn K (.ref CDeck) "__getitem__" = some (some (.ref fgetitem)))
    (igetitem : PySem.W.isFn K (.ref fgetitem) = true)
    (ngetitem : PySem.W.fnIn K fgetitem = true)
    (llength_of : K.lookup flength_of = some ⟨oclength_of, odlength_of, .func (PySem.W.fnOf "length_of" "Deck.length_of" (defArgs s_length_of) (defBody s_length_of) (defScope s_length_of) .none kVlength_of dclength_of pmlength_of anlength_of cdlength_of ctlength_of), sllength_of⟩)
    (clength_of : PySem.W.codeIn K cdlength_of "Deck.length_of" = true)
    (klength_of : PySem.W.keepIn K (.ref flength_of) = true)
    (alength_of : PySem.W.findIn K (.ref CDeck) "length_of" = some (some (.ref flength_of)))
    (ilength_of : PySem.W.isFn K (.ref flength_of) = true)
    (lturns_in : K.lookup fturns_in = some ⟨octurns_in, odturns_in, .func (PySem.W.fnOf "turns_in" "Deck.turns_in" (defArgs s_turns_in) (defBody s_turns_in) (defScope s_turns_in) .none kVturns_in dcturns_in pmturns_in anturns_in cdturns_in ctturns_in), slturns_in⟩)
    (cturns_in : PySem.W.codeIn K cdturns_in "Deck.turns_in" = true)
    (kturns_in : PySem.W.keepIn K (.ref fturns_in) = true)
    (aturns_in : PySem.W.findIn K (.ref CDeck) "turns_in" = some (some (.ref fturns_in)))
    (iturns_in : PySem.W.isFn K (.ref fturns_in) = true)
    (lcall : K.lookup fcall = some ⟨occall, odcall, .func (PySem.W.fnOf "__call__" "Deck.__call__" (defArgs s_call) (defBody s_call) (defScope s_call) .none kVcall dccall pmcall ancall cdcall ctcall), slcall⟩)
    (ccall : PySem.W.codeIn K cdcall "Deck.__call__" = true)
    (kcall : PySem.W.keepIn K (.ref fcall) = true)
    (acall : PySem.W.findIn K (.ref CDeck) "__call__" = some (some (.ref fcall)))
    (icall : PySem.W.isFn K (.ref fcall) = true)
    (ncall : PySem.W.fnIn K fcall = true)
    (lcells : K.lookup fcells = some ⟨occells, odcells, .func (PySem.W.fnOf "cells" "Deck.cells" (defArgs s_cells) (defBody s_cells) (defScope s_cells) .none kVcells dccells pmcells ancells cdcells ctcells), slcells⟩)
    (ccells : PySem.W.codeIn K cdcells "Deck.cells" = true)
    (kcells : PySem.W.keepIn K (.ref fcells) = true)
    (acells : PySem.W.findIn K (.ref CDeck) "cells" = some (some (.ref fcells)))
    (icells : PySem.W.isFn K (.ref fcells) = true)
    (lcells_at : K.lookup fcells_at = some ⟨occells_at, odcells_at, .func (PySem.W.fnOf "cells_at" "Deck.cells_at" (defArgs s_cells_at) (defBody s_cells_at) (defScope s_cells_at) .none kVcells_at dccells_at pmcells_at ancells_at cdcells_at ctcells_at), slcells_at⟩)
    (ccells_at : PySem.W.codeIn K cdcells_at "Deck.cells_at" = true)
    (kcells_at : PySem.W.keepIn K (.ref fcells_at) = true)
    (acells_at : PySem.W.findIn K (.ref CDeck) "cells_at" = some (some (.ref fcells_at)))
    (icells_at : PySem.W.isFn K (.ref fcells_at) = true)
    (llater : K.lookup flater = some ⟨oclater, odlater, .func (PySem.W.fnOf "later_deck" "later_deck" (defArgs s_later) (defBody s_later) (defScope s_later) .none kVlater dclater pmlater anlater cdlater ctlater), sllater⟩)
    (clater : PySem.W.codeIn K cdlater "later_deck" = true)
    (klater : PySem.W.keepIn K (.ref flater) = true)
    (alater : PySem.W.nsIn K mainGlobals "later_deck" = some (some (.ref flater)))
    (lrshift : K.lookup frshift = some ⟨ocrshift, odrshift, .func (PySem.W.fnOf "__rshift__" "Deck.__rshift__" (defArgs s_rshift) (defBody s_rshift) (defScope s_rshift) .none kVrshift dcrshift pmrshift anrshift cdrshift ctrshift), slrshift⟩)
    (crshift : PySem.W.codeIn K cdrshift "Deck.__rshift__" = true)
    (krshift : PySem.W.keepIn K (.ref frshift) = true)
    (sfDeck : PySem.W.selfFirst K CDeck = true)
    (arshift : PySem.W.findIn K (.ref CDeck) "__rshift__" = some (some (.ref frshift)))
    (irshift : PySem.W.isFn K (.ref frshift) = true)
    (ldeq : K.lookup fdeq = some ⟨ocdeq, oddeq, .func (PySem.W.fnOf "__eq__" "Deck.__eq__" (defArgs s_deck_eq) (defBody s_deck_eq) (defScope s_deck_eq) .none kVdeq dcdeq pmdeq andeq cddeq ctdeq), sldeq⟩)
    (cdeq : PySem.W.codeIn K cddeq "Deck.__eq__" = true)
    (kdeq : PySem.W.keepIn K (.ref fdeq) = true)
    (adeq : PySem.W.findIn K (.ref CDeck) "__eq__" = some (some (.ref fdeq)))
    (ideq : PySem.W.isFn K (.ref fdeq) = true)
    (lrrange : K.lookup frrange = some ⟨ocrrange, odrrange, .func (PySem.W.fnOf "reading_range" "reading_range" (defArgs s_rrange) (defBody s_rrange) (defScope s_rrange) .none kVrrange dcrrange pmrrange anrrange cdrrange ctrrange), slrrange⟩)
    (crrange : PySem.W.codeIn K cdrrange "reading_range" = true)
    (krrange : PySem.W.keepIn K (.ref frrange) = true)
    (arrange : PySem.W.nsIn K mainGlobals "reading_range" = some (some (.ref frrange)))
    (ltaken : K.lookup ftaken = some ⟨octaken, odtaken, .func (PySem.W.fnOf "_law_taken" "_law_taken" (defArgs s_taken) (defBody s_taken) (defScope s_taken) .none kVtaken dctaken pmtaken antaken cdtaken cttaken), sltaken⟩)
    (ctaken : PySem.W.codeIn K cdtaken "_law_taken" = true)
    (ktaken : PySem.W.keepIn K (.ref ftaken) = true)
    (ataken : PySem.W.nsIn K mainGlobals "_law_taken" = some (some (.ref ftaken)))
    (vg_MAX_LETTERS : PySem.W.nsIn K mainGlobals "MAX_LETTERS" = some (some (.int 8 tg_MAX_LETTERS)))
    (vg_LETTERS : PySem.W.nsIn K mainGlobals "LETTERS" = some (some (.str "abcdefghijklmnopqrstuvwxyz" tg_LETTERS)))
    (l_is_name : K.lookup f_is_name = some ⟨oc_is_name, od_is_name, .func (PySem.W.fnOf "is_name" "is_name" (defArgs s_is_name) (defBody s_is_name) (defScope s_is_name) .none kV_is_name dc_is_name pm_is_name an_is_name cd_is_name ct_is_name), sl_is_name⟩)
    (c_is_name : PySem.W.codeIn K cd_is_name "is_name" = true)
    (k_is_name : PySem.W.keepIn K (.ref f_is_name) = true)
    (a_is_name : PySem.W.nsIn K mainGlobals "is_name" = some (some (.ref f_is_name)))
    (l_is_song : K.lookup f_is_song = some ⟨oc_is_song, od_is_song, .func (PySem.W.fnOf "is_song" "is_song" (defArgs s_is_song) (defBody s_is_song) (defScope s_is_song) .none kV_is_song dc_is_song pm_is_song an_is_song cd_is_song ct_is_song), sl_is_song⟩)
    (c_is_song : PySem.W.codeIn K cd_is_song "is_song" = true)
    (k_is_song : PySem.W.keepIn K (.ref f_is_song) = true)
    (a_is_song : PySem.W.nsIn K mainGlobals "is_song" = some (some (.ref f_is_song)))
    (vg_MAX_SONGS_tapes : PySem.W.nsIn K mainGlobals "MAX_SONGS_tapes" = some (some (.int 30 tg_MAX_SONGS_tapes)))
    (gInvalidTape : PySem.W.nsIn K mainGlobals "InvalidTape" = some (some (.ref CInvalidTape)))
    (lInvalidTape : K.lookup fInvalidTape = some ⟨ocInvalidTape, odInvalidTape, .func (PySem.W.fnOf "__init__" "InvalidTape.__init__" (defArgs s_xInvalidTape) (defBody s_xInvalidTape) (defScope s_xInvalidTape) .none kVInvalidTape dcInvalidTape pmInvalidTape anInvalidTape cdInvalidTape ctInvalidTape), slInvalidTape⟩)
    (cInvalidTape : PySem.W.codeIn K cdInvalidTape "InvalidTape.__init__" = true)
    (kInvalidTape : PySem.W.keepIn K (.ref fInvalidTape) = true)
    (xkInvalidTape : PySem.W.keepIn K (.ref CInvalidTape) = true)
    (xsInvalidTape : PySem.W.subIn K (.ref CInvalidTape) (.type "BaseException") = some true)
    (xtInvalidTape : PySem.W.typeIn K (.ref CInvalidTape) = some (.type "type"))
    (xaInvalidTape : PySem.W.findIn K (.ref CInvalidTape) "__setattr__" = some (some (.builtin "object.__setattr__")))
    (xiInvalidTape : PySem.W.findIn K (.ref CInvalidTape) "__init__" = some (some (.ref fInvalidTape)))
    (xjInvalidTape : PySem.W.typeIn K (.ref fInvalidTape) = some (.type "function"))
    (xnInvalidTape : PySem.W.findIn K (.ref CInvalidTape) "index" = some none)
    (xlInvalidTape : K.lookup CInvalidTape = some (excClassObj nmInvalidTape qnInvalidTape CInvalidTape NInvalidTape bsInvalidTape bmInvalidTape true snInvalidTape subInvalidTape abInvalidTape colInvalidTape ddInvalidTape kaInvalidTape kbInvalidTape kcInvalidTape kdInvalidTape keInvalidTape "ValueError.__new__"))
    (xrInvalidTape : PySem.HandSPX.refsVE bmInvalidTape = true)
    (gTape : PySem.W.nsIn K mainGlobals "Tape" = some (some (.ref CTape)))
    (pgTape : PySem.W.plainGet K CTape Str.empty = true)
    (hdTape : PySem.W.hasDictIn K CTape = true)
    (poTape : PySem.W.plainOver K CTape = true)
    (saTape : PySem.W.findIn K (.ref CTape) "__setattr__" = some (some (.builtin "object.__setattr__")))
    (nTapelisted : PySem.W.findIn K (.ref CTape) "listed" = some none)
    (nTapebegins : PySem.W.findIn K (.ref CTape) "begins" = some none)
    (nTapetotal : PySem.W.findIn K (.ref CTape) "total" = some none)
    (lTI : K.lookup fTI = some ⟨ocTI, odTI, .func (PySem.W.fnOf "__init__" "Tape.__init__" (defArgs s_tape_init) (defBody s_tape_init) (defScope s_tape_init) .none kVTI dcTI pmTI anTI cdTI ctTI), slTI⟩)
    (cTI : PySem.W.codeIn K cdTI "Tape.__init__" = true)
    (kTI : PySem.W.keepIn K (.ref fTI) = true)
    (mkTape : PySem.W.makesIn K CTape = true)
    (kpTape : PySem.W.keepIn K (.ref CTape) = true)
    (aTI : PySem.W.findIn K (.ref CTape) "__init__" = some (some (.ref fTI)))
    (iTI : PySem.W.isFn K (.ref fTI) = true)
    (l_Tape_songs : K.lookup f_Tape_songs = some ⟨oc_Tape_songs, od_Tape_songs, .func (PySem.W.fnOf "songs" "Tape.songs" (defArgs s_songs) (defBody s_songs) (defScope s_songs) .none kV_Tape_songs dc_Tape_songs pm_Tape_songs an_Tape_songs cd_Tape_songs ct_Tape_songs), sl_Tape_songs⟩)
    (c_Tape_songs : PySem.W.codeIn K cd_Tape_songs "Tape.songs" = true)
    (k_Tape_songs : PySem.W.keepIn K (.ref f_Tape_songs) = true)
    (a_Tape_songs : PySem.W.findIn K (.ref CTape) "songs" = some (some (.ref p_Tape_songs)))
    (pg_Tape_songs : PySem.W.specialIn K (.ref p_Tape_songs) "__get__" = some (some (.builtin "property.__get__")))
    (pt_Tape_songs : PySem.W.takesIn K (.ref p_Tape_songs) = some true)
    (pr_Tape_songs : PySem.W.recIn K p_Tape_songs "property" = some (.ref f_Tape_songs :: re_Tape_songs))
    (l_Tape_names : K.lookup f_Tape_names = some ⟨oc_Tape_names, od_Tape_names, .func (PySem.W.fnOf "names" "Tape.names" (defArgs s_names) (defBody s_names) (defScope s_names) .none kV_Tape_names dc_Tape_names pm_Tape_names an_Tape_names cd_Tape_names ct_Tape_names), sl_Tape_names⟩)
    (c_Tape_names : PySem.W.codeIn K cd_Tape_names "Tape.names" = true)
    (k_Tape_names : PySem.W.keepIn K (.ref f_Tape_names) = true)
    (a_Tape_names : PySem.W.findIn K (.ref CTape) "names" = some (some (.ref p_Tape_names)))
    (pg_Tape_names : PySem.W.specialIn K (.ref p_Tape_names) "__get__" = some (some (.builtin "property.__get__")))
    (pt_Tape_names : PySem.W.takesIn K (.ref p_Tape_names) = some true)
    (pr_Tape_names : PySem.W.recIn K p_Tape_names "property" = some (.ref f_Tape_names :: re_Tape_names))
    (l_Tape_size : K.lookup f_Tape_size = some ⟨oc_Tape_size, od_Tape_size, .func (PySem.W.fnOf "size" "Tape.size" (defArgs s_size) (defBody s_size) (defScope s_size) .none kV_Tape_size dc_Tape_size pm_Tape_size an_Tape_size cd_Tape_size ct_Tape_size), sl_Tape_size⟩)
    (c_Tape_size : PySem.W.codeIn K cd_Tape_size "Tape.size" = true)
    (k_Tape_size : PySem.W.keepIn K (.ref f_Tape_size) = true)
    (a_Tape_size : PySem.W.findIn K (.ref CTape) "size" = some (some (.ref p_Tape_size)))
    (pg_Tape_size : PySem.W.specialIn K (.ref p_Tape_size) "__get__" = some (some (.builtin "property.__get__")))
    (pt_Tape_size : PySem.W.takesIn K (.ref p_Tape_size) = some true)
    (pr_Tape_size : PySem.W.recIn K p_Tape_size "property" = some (.ref f_Tape_size :: re_Tape_size))
    (l_Tape_span_of : K.lookup f_Tape_span_of = some ⟨oc_Tape_span_of, od_Tape_span_of, .func (PySem.W.fnOf "span_of" "Tape.span_of" (defArgs s_span_of) (defBody s_span_of) (defScope s_span_of) .none kV_Tape_span_of dc_Tape_span_of pm_Tape_span_of an_Tape_span_of cd_Tape_span_of ct_Tape_span_of), sl_Tape_span_of⟩)
    (c_Tape_span_of : PySem.W.codeIn K cd_Tape_span_of "Tape.span_of" = true)
    (k_Tape_span_of : PySem.W.keepIn K (.ref f_Tape_span_of) = true)
    (a_Tape_span_of : PySem.W.findIn K (.ref CTape) "span_of" = some (some (.ref f_Tape_span_of)))
    (i_Tape_span_of : PySem.W.isFn K (.ref f_Tape_span_of) = true)
    (l_Tape_in : K.lookup f_Tape_in = some ⟨oc_Tape_in, od_Tape_in, .func (PySem.W.fnOf "__contains__" "Tape.__contains__" (defArgs s_tape_in) (defBody s_tape_in) (defScope s_tape_in) .none kV_Tape_in dc_Tape_in pm_Tape_in an_Tape_in cd_Tape_in ct_Tape_in), sl_Tape_in⟩)
    (c_Tape_in : PySem.W.codeIn K cd_Tape_in "Tape.__contains__" = true)
    (k_Tape_in : PySem.W.keepIn K (.ref f_Tape_in) = true)
    (a_Tape_in : PySem.W.findIn K (.ref CTape) "__contains__" = some (some (.ref f_Tape_in)))
    (i_Tape_in : PySem.W.isFn K (.ref f_Tape_in) = true)
    (l_tape_of : K.lookup f_tape_of = some ⟨oc_tape_of, od_tape_of, .func (PySem.W.fnOf "tape_of" "tape_of" (defArgs s_tape_of) (defBody s_tape_of) (defScope s_tape_of) .none kV_tape_of dc_tape_of pm_tape_of an_tape_of cd_tape_of ct_tape_of), sl_tape_of⟩)
    (c_tape_of : PySem.W.codeIn K cd_tape_of "tape_of" = true)
    (k_tape_of : PySem.W.keepIn K (.ref f_tape_of) = true)
    (a_tape_of : PySem.W.nsIn K mainGlobals "tape_of" = some (some (.ref f_tape_of)))
    (l_Tape_Add : K.lookup f_Tape_Add = some ⟨oc_Tape_Add, od_Tape_Add, .func (PySem.W.fnOf "__add__" "Tape.__add__" (defArgs s_tape_add) (defBody s_tape_add) (defScope s_tape_add) .none kV_Tape_Add dc_Tape_Add pm_Tape_Add an_Tape_Add cd_Tape_Add ct_Tape_Add), sl_Tape_Add⟩)
    (c_Tape_Add : PySem.W.codeIn K cd_Tape_Add "Tape.__add__" = true)
    (k_Tape_Add : PySem.W.keepIn K (.ref f_Tape_Add) = true)
    (sfTape : PySem.W.selfFirst K CTape = true)
    (a_Tape_Add : PySem.W.findIn K (.ref CTape) "__add__" = some (some (.ref f_Tape_Add)))
    (i_Tape_Add : PySem.W.isFn K (.ref f_Tape_Add) = true)
    (l_Tape_inv : K.lookup f_Tape_inv = some ⟨oc_Tape_inv, od_Tape_inv, .func (PySem.W.fnOf "__invert__" "Tape.__invert__" (defArgs s_tape_inv) (defBody s_tape_inv) (defScope s_tape_inv) .none kV_Tape_inv dc_Tape_inv pm_Tape_inv an_Tape_inv cd_Tape_inv ct_Tape_inv), sl_Tape_inv⟩)
    (c_Tape_inv : PySem.W.codeIn K cd_Tape_inv "Tape.__invert__" = true)
    (k_Tape_inv : PySem.W.keepIn K (.ref f_Tape_inv) = true)
    (a_Tape_inv : PySem.W.findIn K (.ref CTape) "__invert__" = some (some (.ref f_Tape_inv)))
    (i_Tape_inv : PySem.W.isFn K (.ref f_Tape_inv) = true)
    (l_counters : K.lookup f_counters = some ⟨oc_counters, od_counters, .func (PySem.W.fnOf "counters" "counters" (defArgs s_counters) (defBody s_counters) (defScope s_counters) .none kV_counters dc_counters pm_counters an_counters cd_counters ct_counters), sl_counters⟩)
    (c_counters : PySem.W.codeIn K cd_counters "counters" = true)
    (k_counters : PySem.W.keepIn K (.ref f_counters) = true)
    (a_counters : PySem.W.nsIn K mainGlobals "counters" = some (some (.ref f_counters)))
    (l_begin_readings : K.lookup f_begin_readings = some ⟨oc_begin_readings, od_begin_readings, .func (PySem.W.fnOf "begin_readings" "begin_readings" (defArgs s_begin_readings) (defBody s_begin_readings) (defScope s_begin_readings) .none kV_begin_readings dc_begin_readings pm_begin_readings an_begin_readings cd_begin_readings ct_begin_readings), sl_begin_readings⟩)
    (c_begin_readings : PySem.W.codeIn K cd_begin_readings "begin_readings" = true)
    (k_begin_readings : PySem.W.keepIn K (.ref f_begin_readings) = true)
    (a_begin_readings : PySem.W.nsIn K mainGlobals "begin_readings" = some (some (.ref f_begin_readings)))
    (l_songs_at : K.lookup f_songs_at = some ⟨oc_songs_at, od_songs_at, .func (PySem.W.fnOf "songs_at" "songs_at" (defArgs s_songs_at) (defBody s_songs_at) (defScope s_songs_at) .none kV_songs_at dc_songs_at pm_songs_at an_songs_at cd_songs_at ct_songs_at), sl_songs_at⟩)
    (c_songs_at : PySem.W.codeIn K cd_songs_at "songs_at" = true)
    (k_songs_at : PySem.W.keepIn K (.ref f_songs_at) = true)
    (a_songs_at : PySem.W.nsIn K mainGlobals "songs_at" = some (some (.ref f_songs_at)))
    (l_alike_songs : K.lookup f_alike_songs = some ⟨oc_alike_songs, od_alike_songs, .func (PySem.W.fnOf "alike_songs" "alike_songs" (defArgs s_alike_songs) (defBody s_alike_songs) (defScope s_alike_songs) .none kV_alike_songs dc_alike_songs pm_alike_songs an_alike_songs cd_alike_songs ct_alike_songs), sl_alike_songs⟩)
    (c_alike_songs : PySem.W.codeIn K cd_alike_songs "alike_songs" = true)
    (k_alike_songs : PySem.W.keepIn K (.ref f_alike_songs) = true)
    (a_alike_songs : PySem.W.nsIn K mainGlobals "alike_songs" = some (some (.ref f_alike_songs)))
    (gInvalidSongs : PySem.W.nsIn K mainGlobals "InvalidSongs" = some (some (.ref CInvalidSongs)))
    (lInvalidSongs : K.lookup fInvalidSongs = some ⟨ocInvalidSongs, odInvalidSongs, .func (PySem.W.fnOf "__init__" "InvalidSongs.__init__" (defArgs s_xInvalidSongs) (defBody s_xInvalidSongs) (defScope s_xInvalidSongs) .none kVInvalidSongs dcInvalidSongs pmInvalidSongs anInvalidSongs cdInvalidSongs ctInvalidSongs), slInvalidSongs⟩)
    (cInvalidSongs : PySem.W.codeIn K cdInvalidSongs "InvalidSongs.__init__" = true)
    (kInvalidSongs : PySem.W.keepIn K (.ref fInvalidSongs) = true)
    (xkInvalidSongs : PySem.W.keepIn K (.ref CInvalidSongs) = true)
    (xsInvalidSongs : PySem.W.subIn K (.ref CInvalidSongs) (.type "BaseException") = some true)
    (xtInvalidSongs : PySem.W.typeIn K (.ref CInvalidSongs) = some (.type "type"))
    (xaInvalidSongs : PySem.W.findIn K (.ref CInvalidSongs) "__setattr__" = some (some (.builtin "object.__setattr__")))
    (xiInvalidSongs : PySem.W.findIn K (.ref CInvalidSongs) "__init__" = some (some (.ref fInvalidSongs)))
    (xjInvalidSongs : PySem.W.typeIn K (.ref fInvalidSongs) = some (.type "function"))
    (xnInvalidSongs : PySem.W.findIn K (.ref CInvalidSongs) "index" = some none)
    (xlInvalidSongs : K.lookup CInvalidSongs = some (excClassObj nmInvalidSongs qnInvalidSongs CInvalidSongs NInvalidSongs bsInvalidSongs bmInvalidSongs true snInvalidSongs subInvalidSongs abInvalidSongs colInvalidSongs ddInvalidSongs kaInvalidSongs kbInvalidSongs kcInvalidSongs kdInvalidSongs keInvalidSongs "ValueError.__new__"))
    (xrInvalidSongs : PySem.HandSPX.refsVE bmInvalidSongs = true)
    (l_check_songs : K.lookup f_check_songs = some ⟨oc_check_songs, od_check_songs, .func (PySem.W.fnOf "check_songs" "check_songs" (defArgs s_check_songs) (defBody s_check_songs) (defScope s_check_songs) .none kV_check_songs dc_check_songs pm_check_songs an_check_songs cd_check_songs ct_check_songs), sl_check_songs⟩)
    (c_check_songs : PySem.W.codeIn K cd_check_songs "check_songs" = true)
    (k_check_songs : PySem.W.keepIn K (.ref f_check_songs) = true)
    (a_check_songs : PySem.W.nsIn K mainGlobals "check_songs" = some (some (.ref f_check_songs)))
    (l_winding : K.lookup f_winding = some ⟨oc_winding, od_winding, .func (PySem.W.fnOf "winding" "winding" (defArgs s_winding) (defBody s_winding) (defScope s_winding) .none kV_winding dc_winding pm_winding an_winding cd_winding ct_winding), sl_winding⟩)
    (c_winding : PySem.W.codeIn K cd_winding "winding" = true)
    (k_winding : PySem.W.keepIn K (.ref f_winding) = true)
    (a_winding : PySem.W.nsIn K mainGlobals "winding" = some (some (.ref f_winding)))
    (l_ordered : K.lookup f_ordered = some ⟨oc_ordered, od_ordered, .func (PySem.W.fnOf "ordered" "ordered" (defArgs s_ordered) (defBody s_ordered) (defScope s_ordered) .none kV_ordered dc_ordered pm_ordered an_ordered cd_ordered ct_ordered), sl_ordered⟩)
    (c_ordered : PySem.W.codeIn K cd_ordered "ordered" = true)
    (k_ordered : PySem.W.keepIn K (.ref f_ordered) = true)
    (a_ordered : PySem.W.nsIn K mainGlobals "ordered" = some (some (.ref f_ordered)))
    (l_candidates : K.lookup f_candidates = some ⟨oc_candidates, od_candidates, .func (PySem.W.fnOf "candidates" "candidates" (defArgs s_candidates) (defBody s_candidates) (defScope s_candidates) .none kV_candidates dc_candidates pm_candidates an_candidates cd_candidates ct_candidates), sl_candidates⟩)
    (c_candidates : PySem.W.codeIn K cd_candidates "candidates" = true)
    (k_candidates : PySem.W.keepIn K (.ref f_candidates) = true)
    (a_candidates : PySem.W.nsIn K mainGlobals "candidates" = some (some (.ref f_candidates)))
    (l_best_order : K.lookup f_best_order = some ⟨oc_best_order, od_best_order, .func (PySem.W.fnOf "best_order" "best_order" (defArgs s_best_order) (defBody s_best_order) (defScope s_best_order) .none kV_best_order dc_best_order pm_best_order an_best_order (.ref cc_best_order) ct_best_order), sl_best_order⟩)
    (c_best_order : PySem.W.codeIn K (.ref cc_best_order) "best_order" = true)
    (k_best_order : PySem.W.keepIn K (.ref f_best_order) = true)
    (lk_best_order : K.lookup cc_best_order = some ⟨.type "code", odk_best_order, .fields vsk_best_order, slk_best_order⟩)
    (zp_best_order : vsk_best_order[11]? = some (.ref P_best_order))
    (zh_best_order : PySem.W.codeHdIn K cc_best_order P_best_order = true)
    (zn_best_order : K.lookup P_best_order = none)
    (zm_best_order : P_best_order ∈ ts)
    (a_best_order : PySem.W.nsIn K mainGlobals "best_order" = some (some (.ref f_best_order)))
    (l_law_pair : K.lookup f_law_pair = some ⟨oc_law_pair, od_law_pair, .func (PySem.W.fnOf "_law_pair" "_law_pair" (defArgs s_pair) (defBody s_pair) (defScope s_pair) .none kV_law_pair dc_law_pair pm_law_pair an_law_pair cd_law_pair ct_law_pair), sl_law_pair⟩)
    (c_law_pair : PySem.W.codeIn K cd_law_pair "_law_pair" = true)
    (k_law_pair : PySem.W.keepIn K (.ref f_law_pair) = true)
    (a_law_pair : PySem.W.nsIn K mainGlobals "_law_pair" = some (some (.ref f_law_pair)))
    (l_law_songs : K.lookup f_law_songs = some ⟨oc_law_songs, od_law_songs, .func (PySem.W.fnOf "_law_songs" "_law_songs" (defArgs s_lsongs) (defBody s_lsongs) (defScope s_lsongs) .none kV_law_songs dc_law_songs pm_law_songs an_law_songs cd_law_songs ct_law_songs), sl_law_songs⟩)
    (c_law_songs : PySem.W.codeIn K cd_law_songs "_law_songs" = true)
    (k_law_songs : PySem.W.keepIn K (.ref f_law_songs) = true)
    (a_law_songs : PySem.W.nsIn K mainGlobals "_law_songs" = some (some (.ref f_law_songs)))
    (l_law_tape : K.lookup f_law_tape = some ⟨oc_law_tape, od_law_tape, .func (PySem.W.fnOf "_law_tape" "_law_tape" (defArgs s_ltape) (defBody s_ltape) (defScope s_ltape) .none kV_law_tape dc_law_tape pm_law_tape an_law_tape cd_law_tape ct_law_tape), sl_law_tape⟩)
    (c_law_tape : PySem.W.codeIn K cd_law_tape "_law_tape" = true)
    (k_law_tape : PySem.W.keepIn K (.ref f_law_tape) = true)
    (a_law_tape : PySem.W.nsIn K mainGlobals "_law_tape" = some (some (.ref f_law_tape)))
    (l_alike : K.lookup f_alike = some ⟨oc_alike, od_alike, .func (PySem.W.fnOf "_law_alike" "_law_alike" (defArgs s_alike) (defBody s_alike) (defScope s_alike) .none kV_alike dc_alike pm_alike an_alike cd_alike ct_alike), sl_alike⟩)
    (c_alike : PySem.W.codeIn K cd_alike "_law_alike" = true)
    (k_alike : PySem.W.keepIn K (.ref f_alike) = true)
    (a_alike : PySem.W.nsIn K mainGlobals "_law_alike" = some (some (.ref f_alike)))
    (l_law_told : K.lookup f_law_told = some ⟨oc_law_told, od_law_told, .func (PySem.W.fnOf "_law_told" "_law_told" (defArgs s_told8) (defBody s_told8) (defScope s_told8) .none kV_law_told dc_law_told pm_law_told an_law_told cd_law_told ct_law_told), sl_law_told⟩)
    (c_law_told : PySem.W.codeIn K cd_law_told "_law_told" = true)
    (k_law_told : PySem.W.keepIn K (.ref f_law_told) = true)
    (a_law_told : PySem.W.nsIn K mainGlobals "_law_told" = some (some (.ref f_law_told)))
    (l_kept : K.lookup f_kept = some ⟨oc_kept, od_kept, .func (PySem.W.fnOf "_law_kept" "_law_kept" (defArgs s_kept) (defBody s_kept) (defScope s_kept) .none kV_kept dc_kept pm_kept an_kept cd_kept ct_kept), sl_kept⟩)
    (c_kept : PySem.W.codeIn K cd_kept "_law_kept" = true)
    (k_kept : PySem.W.keepIn K (.ref f_kept) = true)
    (a_kept : PySem.W.nsIn K mainGlobals "_law_kept" = some (some (.ref f_kept)))
    (llaw : K.lookup flaw = some ⟨oclaw, odlaw, .func (PySem.W.fnOf "law" "law" (defArgs s_law) (defBody s_law) (defScope s_law) .none kVlaw dclaw pmlaw anlaw cdlaw ctlaw), sllaw⟩)
    (claw : PySem.W.codeIn K cdlaw "law" = true)
    (klaw : PySem.W.keepIn K (.ref flaw) = true)
    (alaw : PySem.W.nsIn K mainGlobals "law" = some (some (.ref flaw)))
    (z_isinstance : PySem.W.nsIn K mainGlobals "isinstance" = some none)
    (z_int : PySem.W.nsIn K mainGlobals "int" = some none)
    (z_bool : PySem.W.nsIn K mainGlobals "bool" = some none)
    (z_len : PySem.W.nsIn K mainGlobals "len" = some none)
    (z_range : PySem.W.nsIn K mainGlobals "range" = some none)
    (z_min : PySem.W.nsIn K mainGlobals "min" = some none)
    (z_max : PySem.W.nsIn K mainGlobals "max" = some none)
    (z_abs : PySem.W.nsIn K mainGlobals "abs" = some none)
    (z_sum : PySem.W.nsIn K mainGlobals "sum" = some none)
    (z_list : PySem.W.nsIn K mainGlobals "list" = some none)
    (z_tuple : PySem.W.nsIn K mainGlobals "tuple" = some none)
    (z_set : PySem.W.nsIn K mainGlobals "set" = some none)
    (z_sorted : PySem.W.nsIn K mainGlobals "sorted" = some none)
    (z_dict : PySem.W.nsIn K mainGlobals "dict" = some none)
    (z_enumerate : PySem.W.nsIn K mainGlobals "enumerate" = some none)
    (z_zip : PySem.W.nsIn K mainGlobals "zip" = some none)
    (z_all : PySem.W.nsIn K mainGlobals "all" = some none)
    (z_any : PySem.W.nsIn K mainGlobals "any" = some none)
    (z_str : PySem.W.nsIn K mainGlobals "str" = some none)
    (z_bytes : PySem.W.nsIn K mainGlobals "bytes" = some none) :
    LawT l w K 11 mg fa ts := by
  obtain ⟨π, eπ0⟩ : ∃ π : Str → Addr, π "best_order" = P_best_order := ⟨fun q => if (q == ("best_order" : Str)) = true then P_best_order else 0, rfl⟩
  subst eπ0
  have e := hfa.symm.trans (PySem.W.mg_of X G alaw)
  cases e
  refine ⟨[(cc_best_order, π "best_order", "best_order.<locals>.<lambda>")], PySem.W.fnOf "law" "law" (defArgs s_law) (defBody s_law) (defScope s_law) .none kVlaw dclaw pmlaw anlaw cdlaw ctlaw, fun e he => ?_, fun s v => .of_eq rfl, fun base _ _ TBs => ?_⟩
  · rcases List.mem_cons.mp he with rfl | he
    · exact ⟨zm_best_order, zn_best_order, zh_best_order⟩
    cases he
  have TB_best_order : LamX.TabB base mg cc_best_order (π "best_order") := TBs (cc_best_order, π "best_order", "best_order.<locals>.<lambda>") (by simp)
  let τ : Tx := ⟨CDeck, CTape⟩
  let ε : Excs := { number := CInvalidNumber, deck := CInvalidDeck, tape := CInvalidTape, songs := CInvalidSongs, base := CTapeError }
  have B : Blt mg := ⟨PySem.W.mg_none_of X G z_isinstance, PySem.W.mg_none_of X G z_int, PySem.W.mg_none_of X G z_bool, PySem.W.mg_none_of X G z_len, PySem.W.mg_none_of X G z_range, PySem.W.mg_none_of X G z_min, PySem.W.mg_none_of X G z_max, PySem.W.mg_none_of X G z_abs, PySem.W.mg_none_of X G z_sum, PySem.W.mg_none_of X G z_list, PySem.W.mg_none_of X G z_tuple, PySem.W.mg_none_of X G z_set, PySem.W.mg_none_of X G z_sorted, PySem.W.mg_none_of X G z_dict, PySem.W.mg_none_of X G z_enumerate, PySem.W.mg_none_of X G z_zip, PySem.W.mg_none_of X G z_all, PySem.W.mg_none_of X G z_any, PySem.W.mg_none_of X G z_str, PySem.W.mg_none_of X G z_bytes⟩
  have Fisint := fun_mk (st := s_isint) lisint cisint kisint
  have bisint := Fisint.binds (ps := ["value", "low", "high"]) fun _ _ _ _ _ _ us hl => match us, hl with | [_, _, _], _ => rfl
  have oisint : FnD l.prog w K mg base τ 1 fisint 3 (S_isint) := FnD.of Fisint (ok_isint Fisint B) bisint
  have Gisint : DefD l.prog w K mg base τ "is_integer" 1 3 (S_isint) := ⟨_, PySem.W.mg_of X G aisint, oisint⟩
  have XInvalidNumber : ExcN K mg "InvalidNumber" CInvalidNumber := ⟨PySem.W.mg_of X G gInvalidNumber, xeInvalidNumber, xkInvalidNumber, xsInvalidNumber, xtInvalidNumber⟩
  have Fcheck := fun_mk (st := s_check) lcheck ccheck kcheck
  have bcheck := Fcheck.binds (ps := ["number", "low", "high"]) fun _ _ _ _ _ _ us hl => match us, hl with | [_, _, _], _ => rfl
  have ocheck : FnD l.prog w K mg base τ 2 fcheck 3 (S_check ε) := FnD.of Fcheck (ok_check Fcheck B Gisint XInvalidNumber) bcheck
  have Gcheck : DefD l.prog w K mg base τ "check_number" 2 3 (S_check ε) := ⟨_, PySem.W.mg_of X G acheck, ocheck⟩
  have KDeck : Cls K CDeck := ⟨pgDeck, hdDeck, poDeck, saDeck⟩
  have IDeck : IsiC K CDeck := ⟨KDeck, iaDeck, ib, it, imDeck⟩
  have T : TDeck K mg τ := ⟨⟨KDeck, no2 nDeckfirst nDeckmore⟩, ⟨_, PySem.W.mg_of X G mMC⟩, ⟨_, PySem.W.mg_of X G mMN⟩, IDeck, PySem.W.mg_of X G gDeck, kits6 (kit_own icDeck tyDeck sDeckNoneType) (kit_own icDeck tyDeck sDeckbool) (kit_own icDeck tyDeck sDeckint) (kit_own icDeck tyDeck sDeckstr) (kit_own icDeck tyDeck sDecktuple) (kit_own icDeck tyDeck sDecklist)⟩
  have TB : BaseI K mg "TapeError" CTapeError := ⟨PySem.W.mg_of X G gTapeError, _, ⟨rdTapeError, gaTapeError⟩, tI⟩
  have FInvalidDeck := fun_mk (st := s_xDeck) lInvalidDeck cInvalidDeck kInvalidDeck
  have OInvalidDeck : OexC K CInvalidDeck := ⟨⟨_, _, _, _, _, _, _, _, _, _, _, _, _, _, _, xlInvalidDeck, xrInvalidDeck⟩, xaInvalidDeck, xsInvalidDeck, xtInvalidDeck, xkInvalidDeck⟩
  have bXInvalidDeck := FInvalidDeck.binds (ps := ["self", "part"]) fun _ _ _ _ _ _ us hl => match us, hl with | [_, _], _ => rfl
  have XInvalidDeck : ExcF l.prog w K mg base "InvalidDeck" CInvalidDeck "part" := ⟨PySem.W.mg_of X G gInvalidDeck, OInvalidDeck, _, _, xiInvalidDeck, xjInvalidDeck, bXInvalidDeck, ok_xDeck FInvalidDeck OInvalidDeck xnInvalidDeck TB⟩
  have FDinit := fun_mk (st := s_Deck_init) lDinit cDinit kDinit
  have bDinit := FDinit.binds (ps := ["self", "core", "growth"]) fun _ _ _ _ _ _ us hl => match us, hl with | [_, _, _], _ => rfl
  have oDinit : FnD l.prog w K mg base τ 3 fDinit 3 (S_Deck_init τ ε) := FnD.of FDinit (ok_Deck_init FDinit B T Gisint XInvalidDeck) bDinit
  have GDinit : MakD l.prog w K mg base τ "Deck" CDeck 3 3 (S_Deck_init τ ε) := ⟨PySem.W.mg_of X G gDeck, _, ⟨mkDeck, aDinit, iDinit, kpDeck⟩, oDinit⟩
  have Fcore := fun_mk (st := s_core) lcore ccore kcore
  have bcore := Fcore.binds (ps := ["self"]) fun _ _ _ _ _ _ us hl => match us, hl with | [_], _ => rfl
  have ocore : FnD l.prog w K mg base τ 1 fcore 1 (S_core) := FnD.of Fcore (ok_core Fcore T) bcore
  have Gcore : PrpD l.prog w K mg base τ CDeck "core" 1 (S_core) := ⟨KDeck, _, _, ⟨acore, pgcore, ptcore, ⟨_, prcore⟩⟩, ocore⟩
  have Fgrowth := fun_mk (st := s_growth) lgrowth cgrowth kgrowth
  have bgrowth := Fgrowth.binds (ps := ["self"]) fun _ _ _ _ _ _ us hl => match us, hl with | [_], _ => rfl
  have ogrowth : FnD l.prog w K mg base τ 1 fgrowth 1 (S_growth) := FnD.of Fgrowth (ok_growth Fgrowth T) bgrowth
  have Ggrowth : PrpD l.prog w K mg base τ CDeck "growth" 1 (S_growth) := ⟨KDeck, _, _, ⟨agrowth, pggrowth, ptgrowth, ⟨_, prgrowth⟩⟩, ogrowth⟩
  have Fgetitem := fun_mk (st := s_getitem) lgetitem cgetitem kgetitem
  have bgetitem := Fgetitem.binds (ps := ["self", "turn"]) fun _ _ _ _ _ _ us hl => match us, hl with | [_, _], _ => rfl
  have ogetitem : FnD l.prog w K mg base τ 2 fgetitem 2 (S_getitem ε) := FnD.of Fgetitem (ok_getitem Fgetitem B T Gisint XInvalidNumber) bgetitem
  have Ggetitem : ItmD l.prog w K mg base τ CDeck 2 (S_getitem ε) := ⟨_, ⟨agetitem, ngetitem, igetitem⟩, ogetitem⟩
  have Flength_of := fun_mk (st := s_length_of) llength_of clength_of klength_of
  have blength_of := Flength_of.binds (ps := ["self", "turns"]) fun _ _ _ _ _ _ us hl => match us, hl with | [_, _], _ => rfl
  have olength_of : FnD l.prog w K mg base τ 1 flength_of 2 (S_length_of) := FnD.of Flength_of (ok_length_of Flength_of T) blength_of
  have Glength_of : MetD l.prog w K mg base τ CDeck "length_of" 1 2 (S_length_of) := ⟨KDeck, _, ⟨alength_of, ilength_of, klength_of⟩, olength_of⟩
  have Fturns_in := fun_mk (st := s_turns_in) lturns_in cturns_in kturns_in
  have bturns_in := Fturns_in.binds (ps := ["self", "cell"]) fun _ _ _ _ _ _ us hl => match us, hl with | [_, _], _ => rfl
  have oturns_in : FnD l.prog w K mg base τ 2 fturns_in 2 (S_turns_in) := FnD.of Fturns_in (ok_turns_in Fturns_in T Glength_of) bturns_in
  have Gturns_in : MetD l.prog w K mg base τ CDeck "turns_in" 2 2 (S_turns_in) := ⟨KDeck, _, ⟨aturns_in, iturns_in, kturns_in⟩, oturns_in⟩
  have Fcall := fun_mk (st := s_call) lcall ccall kcall
  have bcall := Fcall.binds (ps := ["self", "cell"]) fun _ _ _ _ _ _ us hl => match us, hl with | [_, _], _ => rfl
  have ocall : FnD l.prog w K mg base τ 3 fcall 2 (S_call ε) := FnD.of Fcall (ok_call Fcall T Gcheck Gturns_in) bcall
  have Gcall : CalD l.prog w K mg base τ CDeck 3 2 (S_call ε) := ⟨_, ⟨acall, icall, ncall⟩, ocall⟩
  have Fcells := fun_mk (st := s_cells) lcells ccells kcells
  have bcells := Fcells.binds (ps := ["self", "turns"]) fun _ _ _ _ _ _ us hl => match us, hl with | [_, _], _ => rfl
  have ocells : FnD l.prog w K mg base τ 3 fcells 2 (S_cells ε) := FnD.of Fcells (ok_cells Fcells T Gcheck Glength_of) bcells
  have Gcells : MetD l.prog w K mg base τ CDeck "cells" 3 2 (S_cells ε) := ⟨KDeck, _, ⟨acells, icells, kcells⟩, ocells⟩
  have Fcells_at := fun_mk (st := s_cells_at) lcells_at ccells_at kcells_at
  have bcells_at := Fcells_at.binds (ps := ["self", "reading"]) fun _ _ _ _ _ _ us hl => match us, hl with | [_, _], _ => rfl
  have ocells_at : FnD l.prog w K mg base τ 3 fcells_at 2 (S_cells_at ε) := FnD.of Fcells_at (ok_cells_at Fcells_at T Gcheck Glength_of) bcells_at
  have Gcells_at : MetD l.prog w K mg base τ CDeck "cells_at" 3 2 (S_cells_at ε) := ⟨KDeck, _, ⟨acells_at, icells_at, kcells_at⟩, ocells_at⟩
  have Flater := fun_mk (st := s_later) llater clater klater
  have blater := Flater.binds (ps := ["first", "more", "turns"]) fun _ _ _ _ _ _ us hl => match us, hl with | [_, _, _], _ => rfl
  have olater : FnD l.prog w K mg base τ 5 flater 3 (S_later ε) := FnD.of Flater (ok_later Flater T Gcheck GDinit) blater
  have Glater : DefD l.prog w K mg base τ "later_deck" 5 3 (S_later ε) := ⟨_, PySem.W.mg_of X G alater, olater⟩
  have Frshift := fun_mk (st := s_rshift) lrshift crshift krshift
  have brshift := Frshift.binds (ps := ["self", "turns"]) fun _ _ _ _ _ _ us hl => match us, hl with | [_, _], _ => rfl
  have orshift : FnD l.prog w K mg base τ 6 frshift 2 (S_rshift ε) := FnD.of Frshift (ok_rshift Frshift T Glater) brshift
  have Grshift : BinD l.prog w K mg base τ CDeck .RShift 6 (S_rshift ε) := ⟨_, ⟨sfDeck, arshift, irshift⟩, orshift⟩
  have Fdeq := fun_mk (st := s_deck_eq) ldeq cdeq kdeq
  have bdeq := Fdeq.binds (ps := ["self", "other"]) fun _ _ _ _ _ _ us hl => match us, hl with | [_, _], _ => rfl
  have odeq : FnD l.prog w K mg base τ 1 fdeq 2 (S_deck_eq) := FnD.of Fdeq (ok_deck_eq Fdeq B T) bdeq
  have Gdeq : EqlD l.prog w K mg base τ CDeck 1 (S_deck_eq) := ⟨_, ⟨adeq, ideq⟩, odeq⟩
  have Frrange := fun_mk (st := s_rrange) lrrange crrange krrange
  have brrange := Frrange.binds (ps := ["deck", "other", "reading"]) fun _ _ _ _ _ _ us hl => match us, hl with | [_, _, _], _ => rfl
  have orrange : FnD l.prog w K mg base τ 4 frrange 3 (S_rrange ε) := FnD.of Frrange (ok_rrange Frrange T Gcells_at Gturns_in) brrange
  have Grrange : DefD l.prog w K mg base τ "reading_range" 4 3 (S_rrange ε) := ⟨_, PySem.W.mg_of X G arrange, orrange⟩
  have Ftaken := fun_mk (st := s_taken) ltaken ctaken ktaken
  have btaken := Ftaken.binds (ps := ["_law_row", "_law_many"]) fun _ _ _ _ _ _ us hl => match us, hl with | [_, _], _ => rfl
  have otaken : FnD l.prog w K mg base τ 1 ftaken 2 (S_taken) := FnD.of Ftaken (ok_taken Ftaken B) btaken
  have Gtaken : DefD l.prog w K mg base τ "_law_taken" 1 2 (S_taken) := ⟨_, PySem.W.mg_of X G ataken, otaken⟩
  have B_isinstance : RD.GloN mg "isinstance" := B.m_isinstance
  have B_str : RD.GloN mg "str" := B.m_str
  have B_len : RD.GloN mg "len" := B.m_len
  have B_all : RD.GloN mg "all" := B.m_all
  have B_tuple : RD.GloN mg "tuple" := B.m_tuple
  have B_enumerate : RD.GloN mg "enumerate" := B.m_enumerate
  have B_dict : RD.GloN mg "dict" := B.m_dict
  have B_list : RD.GloN mg "list" := B.m_list
  have B_abs : RD.GloN mg "abs" := B.m_abs
  have B_range : RD.GloN mg "range" := B.m_range
  have B_min : RD.GloN mg "min" := B.m_min
  have B_bool : RD.GloN mg "bool" := B.m_bool
  have g_MAX_LETTERS : RD.GloI mg "MAX_LETTERS" 8 := ⟨_, PySem.W.mg_of X G vg_MAX_LETTERS⟩
  have g_LETTERS : RD.GloS mg "LETTERS" "abcdefghijklmnopqrstuvwxyz" := ⟨_, PySem.W.mg_of X G vg_LETTERS⟩
  have F_is_name := fun_mk (st := s_is_name) l_is_name c_is_name k_is_name
  have b_is_name := F_is_name.binds (ps := ["value"]) fun _ _ _ _ _ _ us hl => match us, hl with | [_], _ => rfl
  have o_is_name : FnD l.prog w K mg base τ 1 f_is_name 1 (S_is_name) := FnD.of F_is_name (ok_is_name F_is_name B_isinstance B_str B_len g_MAX_LETTERS g_LETTERS B_all) b_is_name
  have G_is_name : DefD l.prog w K mg base τ "is_name" 1 1 (S_is_name) := ⟨_, PySem.W.mg_of X G a_is_name, o_is_name⟩
  have G_is_integer := Gisint
  have F_is_song := fun_mk (st := s_is_song) l_is_song c_is_song k_is_song
  have b_is_song := F_is_song.binds (ps := ["value", "most"]) fun _ _ _ _ _ _ us hl => match us, hl with | [_, _], _ => rfl
  have o_is_song : FnD l.prog w K mg base τ 2 f_is_song 2 (S_is_song) := FnD.of F_is_song (ok_is_song F_is_song B_isinstance B_tuple G_is_name G_is_integer) b_is_song
  have G_is_song : DefD l.prog w K mg base τ "is_song" 2 2 (S_is_song) := ⟨_, PySem.W.mg_of X G a_is_song, o_is_song⟩
  have g_MAX_SONGS_tapes : RD.GloI mg "MAX_SONGS_tapes" 30 := ⟨_, PySem.W.mg_of X G vg_MAX_SONGS_tapes⟩
  have g_MAX_NUMBER : RD.GloI mg "MAX_NUMBER" 1000000000000000000 := T.maxn
  have FInvalidTape := fun_mk (st := s_xInvalidTape) lInvalidTape cInvalidTape kInvalidTape
  have OInvalidTape : OexC K CInvalidTape := ⟨⟨_, _, _, _, _, _, _, _, _, _, _, _, _, _, _, xlInvalidTape, xrInvalidTape⟩, xaInvalidTape, xsInvalidTape, xtInvalidTape, xkInvalidTape⟩
  have bXInvalidTape := FInvalidTape.binds (ps := ["self", "index"]) fun _ _ _ _ _ _ us hl => match us, hl with | [_, _], _ => rfl
  have XInvalidTape : ExcF l.prog w K mg base "InvalidTape" CInvalidTape "index" := ⟨PySem.W.mg_of X G gInvalidTape, OInvalidTape, _, _, xiInvalidTape, xjInvalidTape, bXInvalidTape, ok_xInvalidTape FInvalidTape OInvalidTape xnInvalidTape TB⟩
  have X_InvalidTape := XInvalidTape
  have KTape : Cls K CTape := ⟨pgTape, hdTape, poTape, saTape⟩
  have T_Tape : ClsX K τ.tape ["listed", "begins", "total"] := ⟨KTape, no3 nTapelisted nTapebegins nTapetotal⟩
  have FTI := fun_mk (st := s_tape_init) lTI cTI kTI
  have M_Tape : MkS l.prog w K mg base τ "Tape" τ.tape 3 (S_Tape ε) := mkS_Tape (PySem.W.mg_of X G gTape) ⟨mkTape, aTI, iTI, kpTape⟩ fun m hm => ok_tape_init FTI B_enumerate g_MAX_SONGS_tapes G_is_song g_MAX_NUMBER X_InvalidTape T_Tape m hm
  have F_Tape_songs := fun_mk (st := s_songs) l_Tape_songs c_Tape_songs k_Tape_songs
  have b_Tape_songs := F_Tape_songs.binds (ps := ["self"]) fun _ _ _ _ _ _ us hl => match us, hl with | [_], _ => rfl
  have o_Tape_songs : FnD l.prog w K mg base τ 1 f_Tape_songs 1 (S_songs) := FnD.of F_Tape_songs (ok_songs F_Tape_songs T_Tape) b_Tape_songs
  have G_Tape_songs : PrpD l.prog w K mg base τ CTape "songs" 1 (S_songs) := ⟨KTape, _, _, ⟨a_Tape_songs, pg_Tape_songs, pt_Tape_songs, ⟨_, pr_Tape_songs⟩⟩, o_Tape_songs⟩
  have F_Tape_names := fun_mk (st := s_names) l_Tape_names c_Tape_names k_Tape_names
  have b_Tape_names := F_Tape_names.binds (ps := ["self"]) fun _ _ _ _ _ _ us hl => match us, hl with | [_], _ => rfl
  have o_Tape_names : FnD l.prog w K mg base τ 1 f_Tape_names 1 (S_names) := FnD.of F_Tape_names (ok_names F_Tape_names T_Tape B_tuple) b_Tape_names
  have G_Tape_names : PrpD l.prog w K mg base τ CTape "names" 1 (S_names) := ⟨KTape, _, _, ⟨a_Tape_names, pg_Tape_names, pt_Tape_names, ⟨_, pr_Tape_names⟩⟩, o_Tape_names⟩
  have F_Tape_size := fun_mk (st := s_size) l_Tape_size c_Tape_size k_Tape_size
  have b_Tape_size := F_Tape_size.binds (ps := ["self"]) fun _ _ _ _ _ _ us hl => match us, hl with | [_], _ => rfl
  have o_Tape_size : FnD l.prog w K mg base τ 1 f_Tape_size 1 (S_size) := FnD.of F_Tape_size (ok_size F_Tape_size T_Tape) b_Tape_size
  have G_Tape_size : PrpD l.prog w K mg base τ CTape "size" 1 (S_size) := ⟨KTape, _, _, ⟨a_Tape_size, pg_Tape_size, pt_Tape_size, ⟨_, pr_Tape_size⟩⟩, o_Tape_size⟩
  have F_Tape_span_of := fun_mk (st := s_span_of) l_Tape_span_of c_Tape_span_of k_Tape_span_of
  have b_Tape_span_of := F_Tape_span_of.binds (ps := ["self", "name"]) fun _ _ _ _ _ _ us hl => match us, hl with | [_, _], _ => rfl
  have o_Tape_span_of : FnD l.prog w K mg base τ 1 f_Tape_span_of 2 (S_span_of) := FnD.of F_Tape_span_of (ok_span_of F_Tape_span_of T_Tape B_dict) b_Tape_span_of
  have G_Tape_span_of : MetD l.prog w K mg base τ CTape "span_of" 1 2 (S_span_of) := ⟨KTape, _, ⟨a_Tape_span_of, i_Tape_span_of, k_Tape_span_of⟩, o_Tape_span_of⟩
  have F_Tape_in := fun_mk (st := s_tape_in) l_Tape_in c_Tape_in k_Tape_in
  have b_Tape_in := F_Tape_in.binds (ps := ["self", "name"]) fun _ _ _ _ _ _ us hl => match us, hl with | [_, _], _ => rfl
  have o_Tape_in : FnD l.prog w K mg base τ 1 f_Tape_in 2 (S_tape_in) := FnD.of F_Tape_in (ok_tape_in F_Tape_in B_isinstance B_str T_Tape) b_Tape_in
  have G_Tape_in : ConD l.prog w K mg base τ CTape 1 (S_tape_in) := ⟨_, ⟨a_Tape_in, i_Tape_in⟩, o_Tape_in⟩
  have F_tape_of := fun_mk (st := s_tape_of) l_tape_of c_tape_of k_tape_of
  have b_tape_of := F_tape_of.binds (ps := ["songs"]) fun _ _ _ _ _ _ us hl => match us, hl with | [_], _ => rfl
  have o_tape_of : FnD l.prog w K mg base τ 5 f_tape_of 1 (S_tape_of ε) := FnD.of F_tape_of (ok_tape_of F_tape_of M_Tape) b_tape_of
  have G_tape_of : DefD l.prog w K mg base τ "tape_of" 5 1 (S_tape_of ε) := ⟨_, PySem.W.mg_of X G a_tape_of, o_tape_of⟩
  have F_Tape_Add := fun_mk (st := s_tape_add) l_Tape_Add c_Tape_Add k_Tape_Add
  have b_Tape_Add := F_Tape_Add.binds (ps := ["self", "other"]) fun _ _ _ _ _ _ us hl => match us, hl with | [_, _], _ => rfl
  have o_Tape_Add : FnD l.prog w K mg base τ 6 f_Tape_Add 2 (S_tape_add ε) := FnD.of F_Tape_Add (ok_tape_add F_Tape_Add G_tape_of T_Tape) b_Tape_Add
  have G_Tape_Add : BinD l.prog w K mg base τ CTape .Add 6 (S_tape_add ε) := ⟨_, ⟨sfTape, a_Tape_Add, i_Tape_Add⟩, o_Tape_Add⟩
  have F_Tape_inv := fun_mk (st := s_tape_inv) l_Tape_inv c_Tape_inv k_Tape_inv
  have b_Tape_inv := F_Tape_inv.binds (ps := ["self"]) fun _ _ _ _ _ _ us hl => match us, hl with | [_], _ => rfl
  have o_Tape_inv : FnD l.prog w K mg base τ 6 f_Tape_inv 1 (S_tape_inv) := FnD.of F_Tape_inv (ok_tape_inv F_Tape_inv G_tape_of T_Tape) b_Tape_inv
  have G_Tape_inv : InvD l.prog w K mg base τ CTape 6 (S_tape_inv) := ⟨_, a_Tape_inv, i_Tape_inv, o_Tape_inv⟩
  have G_check_number := Gcheck
  have G_Deck_turns_in := Gturns_in
  have F_counters := fun_mk (st := s_counters) l_counters c_counters k_counters
  have b_counters := F_counters.binds (ps := ["deck", "tape", "cell"]) fun _ _ _ _ _ _ us hl => match us, hl with | [_, _, _], _ => rfl
  have o_counters : FnD l.prog w K mg base τ 3 f_counters 3 (S_counters ε) := FnD.of F_counters (ok_counters F_counters G_check_number T_Tape G_Deck_turns_in) b_counters
  have G_counters : DefD l.prog w K mg base τ "counters" 3 3 (S_counters ε) := ⟨_, PySem.W.mg_of X G a_counters, o_counters⟩
  have F_begin_readings := fun_mk (st := s_begin_readings) l_begin_readings c_begin_readings k_begin_readings
  have b_begin_readings := F_begin_readings.binds (ps := ["deck", "tape"]) fun _ _ _ _ _ _ us hl => match us, hl with | [_, _], _ => rfl
  have o_begin_readings : FnD l.prog w K mg base τ 3 f_begin_readings 2 (S_begin_readings) := FnD.of F_begin_readings (ok_begin_readings F_begin_readings T_Tape G_Deck_turns_in) b_begin_readings
  have G_begin_readings : DefD l.prog w K mg base τ "begin_readings" 3 2 (S_begin_readings) := ⟨_, PySem.W.mg_of X G a_begin_readings, o_begin_readings⟩
  have GO_begin_readings : DefD l.prog w K mg base τ "begin_readings" 3 2 (S_begin_readingsO) := ⟨_, PySem.W.mg_of X G a_begin_readings, FnD.of F_begin_readings (ok_begin_readingsO F_begin_readings T_Tape G_Deck_turns_in) b_begin_readings⟩
  have G_Deck_cells_at := Gcells_at
  have F_songs_at := fun_mk (st := s_songs_at) l_songs_at c_songs_at k_songs_at
  have b_songs_at := F_songs_at.binds (ps := ["deck", "tape", "reading"]) fun _ _ _ _ _ _ us hl => match us, hl with | [_, _, _], _ => rfl
  have o_songs_at : FnD l.prog w K mg base τ 4 f_songs_at 3 (S_songs_at ε) := FnD.of F_songs_at (ok_songs_at F_songs_at G_check_number g_MAX_NUMBER G_Deck_cells_at G_Tape_names G_Tape_span_of) b_songs_at
  have G_songs_at : DefD l.prog w K mg base τ "songs_at" 4 3 (S_songs_at ε) := ⟨_, PySem.W.mg_of X G a_songs_at, o_songs_at⟩
  have F_alike_songs := fun_mk (st := s_alike_songs) l_alike_songs c_alike_songs k_alike_songs
  have b_alike_songs := F_alike_songs.binds (ps := ["deck", "tape"]) fun _ _ _ _ _ _ us hl => match us, hl with | [_, _], _ => rfl
  have o_alike_songs : FnD l.prog w K mg base τ 4 f_alike_songs 2 (S_alike) := FnD.of F_alike_songs (ok_alike_songs F_alike_songs G_begin_readings B_len) b_alike_songs
  have G_alike_songs : DefD l.prog w K mg base τ "alike_songs" 4 2 (S_alike) := ⟨_, PySem.W.mg_of X G a_alike_songs, o_alike_songs⟩
  have FInvalidSongs := fun_mk (st := s_xInvalidSongs) lInvalidSongs cInvalidSongs kInvalidSongs
  have OInvalidSongs : OexC K CInvalidSongs := ⟨⟨_, _, _, _, _, _, _, _, _, _, _, _, _, _, _, xlInvalidSongs, xrInvalidSongs⟩, xaInvalidSongs, xsInvalidSongs, xtInvalidSongs, xkInvalidSongs⟩
  have bXInvalidSongs := FInvalidSongs.binds (ps := ["self", "index"]) fun _ _ _ _ _ _ us hl => match us, hl with | [_, _], _ => rfl
  have XInvalidSongs : ExcF l.prog w K mg base "InvalidSongs" CInvalidSongs "index" := ⟨PySem.W.mg_of X G gInvalidSongs, OInvalidSongs, _, _, xiInvalidSongs, xjInvalidSongs, bXInvalidSongs, ok_xInvalidSongs FInvalidSongs OInvalidSongs xnInvalidSongs TB⟩
  have X_InvalidSongs := XInvalidSongs
  have F_check_songs := fun_mk (st := s_check_songs) l_check_songs c_check_songs k_check_songs
  have b_check_songs := F_check_songs.binds (ps := ["tape", "names"]) fun _ _ _ _ _ _ us hl => match us, hl with | [_, _], _ => rfl
  have o_check_songs : FnD l.prog w K mg base τ 3 f_check_songs 2 (S_check_songs ε) := FnD.of F_check_songs (ok_check_songs F_check_songs B_isinstance B_list X_InvalidSongs B_enumerate G_Tape_in) b_check_songs
  have G_check_songs : DefD l.prog w K mg base τ "check_songs" 3 2 (S_check_songs ε) := ⟨_, PySem.W.mg_of X G a_check_songs, o_check_songs⟩
  have F_winding := fun_mk (st := s_winding) l_winding c_winding k_winding
  have b_winding := F_winding.binds (ps := ["tape", "names", "start"]) fun _ _ _ _ _ _ us hl => match us, hl with | [_, _, _], _ => rfl
  have o_winding : FnD l.prog w K mg base τ 4 f_winding 3 (S_winding ε) := FnD.of F_winding (ok_winding F_winding G_check_songs G_check_number T_Tape G_Tape_span_of B_abs) b_winding
  have G_winding : DefD l.prog w K mg base τ "winding" 4 3 (S_winding ε) := ⟨_, PySem.W.mg_of X G a_winding, o_winding⟩
  have F_ordered := fun_mk (st := s_ordered) l_ordered c_ordered k_ordered
  have b_ordered := F_ordered.binds (ps := ["tape", "names"]) fun _ _ _ _ _ _ us hl => match us, hl with | [_, _], _ => rfl
  have o_ordered : FnD l.prog w K mg base τ 3 f_ordered 2 (S_ordered) := FnD.of F_ordered (ok_ordered F_ordered G_Tape_names) b_ordered
  have G_ordered : DefD l.prog w K mg base τ "ordered" 3 2 (S_ordered) := ⟨_, PySem.W.mg_of X G a_ordered, o_ordered⟩
  have F_candidates := fun_mk (st := s_candidates) l_candidates c_candidates k_candidates
  have b_candidates := F_candidates.binds (ps := ["tape", "names", "start"]) fun _ _ _ _ _ _ us hl => match us, hl with | [_, _, _], _ => rfl
  have G_candidates : GenD l.prog w K mg base τ "candidates" 4 3 (S_cands) := ⟨_, _, _, PySem.W.mg_of X G a_candidates, ok_candidates F_candidates G_ordered G_Tape_span_of B_len B_range, k_candidates, b_candidates⟩
  have F_best_order : FunC K "best_order" "best_order" s_best_order f_best_order _ cc_best_order := ⟨⟨_, _, _, _, _, _, _, _, rfl, l_best_order, c_best_order⟩, k_best_order⟩
  have b_best_order := F_best_order.fn.binds (ps := ["tape", "names", "start"]) fun _ _ _ _ _ _ us hl => match us, hl with | [_, _, _], _ => rfl
  have G_best_order : DefD l.prog w K mg base τ "best_order" 8 3 (S_bestD π) := ⟨_, PySem.W.mg_of X G a_best_order, FnD.of F_best_order.fn (ok_best_order F_best_order G_check_songs G_check_number T_Tape G_candidates B_list G_winding TB_best_order B_min) b_best_order⟩
  have G_law_taken := Gtaken
  have F_law_pair := fun_mk (st := s_pair) l_law_pair c_law_pair k_law_pair
  have b_law_pair := F_law_pair.binds (ps := ["_law_row"]) fun _ _ _ _ _ _ us hl => match us, hl with | [_], _ => rfl
  have o_law_pair : FnD l.prog w K mg base τ 2 f_law_pair 1 (S_pair) := FnD.of F_law_pair (ok_pair F_law_pair G_law_taken) b_law_pair
  have G_law_pair : DefD l.prog w K mg base τ "_law_pair" 2 1 (S_pair) := ⟨_, PySem.W.mg_of X G a_law_pair, o_law_pair⟩
  have F_law_songs := fun_mk (st := s_lsongs) l_law_songs c_law_songs k_law_songs
  have b_law_songs := F_law_songs.binds (ps := ["_law_row", "_law_most", "_law_long"]) fun _ _ _ _ _ _ us hl => match us, hl with | [_, _, _], _ => rfl
  have o_law_songs : FnD l.prog w K mg base τ 2 f_law_songs 3 (S_lsongs) := FnD.of F_law_songs (ok_lsongs F_law_songs G_law_taken B_len B_range) b_law_songs
  have G_law_songs : DefD l.prog w K mg base τ "_law_songs" 2 3 (S_lsongs) := ⟨_, PySem.W.mg_of X G a_law_songs, o_law_songs⟩
  have F_law_tape := fun_mk (st := s_ltape) l_law_tape c_law_tape k_law_tape
  have b_law_tape := F_law_tape.binds (ps := ["_law_songs_here"]) fun _ _ _ _ _ _ us hl => match us, hl with | [_], _ => rfl
  have o_law_tape : FnD l.prog w K mg base τ 7 f_law_tape 1 (S_ltape) := FnD.of F_law_tape (ok_ltape F_law_tape M_Tape G_Tape_Add) b_law_tape
  have G_law_tape : DefD l.prog w K mg base τ "_law_tape" 7 1 (S_ltape) := ⟨_, PySem.W.mg_of X G a_law_tape, o_law_tape⟩
  have F_alike := fun_mk (st := s_alike) l_alike c_alike k_alike
  have b_alike := F_alike.binds (ps := ["_law_one", "_law_due"]) fun _ _ _ _ _ _ us hl => match us, hl with | [_, _], _ => rfl
  have G_law_alike_n : DefD l.prog w K mg base τ "_law_alike" 0 2 S_no := ⟨_, PySem.W.mg_of X G a_alike, FnD.of F_alike (fnNo (ps := ["_law_one", "_law_due"])) b_alike⟩
  have G_law_alike_0 : DefD l.prog w K mg base τ "_law_alike" 1 2 (S_alk 0) := ⟨_, PySem.W.mg_of X G a_alike, FnD.of F_alike (ok_alike (Nat.le_refl 0) F_alike B_isinstance B_tuple B_list B_len B_range G_law_alike_n B_bool b_alike0) b_alike⟩
  have G_law_alike_1 : DefD l.prog w K mg base τ "_law_alike" 2 2 (S_alk 1) := ⟨_, PySem.W.mg_of X G a_alike, FnD.of F_alike (ok_alike (Nat.le_refl 1) F_alike B_isinstance B_tuple B_list B_len B_range G_law_alike_0 B_bool b_alike1) b_alike⟩
  have G_law_alike_2 : DefD l.prog w K mg base τ "_law_alike" 3 2 (S_alk 2) := ⟨_, PySem.W.mg_of X G a_alike, FnD.of F_alike (ok_alike (Nat.le_refl 2) F_alike B_isinstance B_tuple B_list B_len B_range G_law_alike_1 B_bool b_alike2) b_alike⟩
  have G_law_alike_3 : DefD l.prog w K mg base τ "_law_alike" 4 2 (S_alk 3) := ⟨_, PySem.W.mg_of X G a_alike, FnD.of F_alike (ok_alike (Nat.le_refl 3) F_alike B_isinstance B_tuple B_list B_len B_range G_law_alike_2 B_bool b_alike3) b_alike⟩
  have G_law_alike_4 : DefD l.prog w K mg base τ "_law_alike" 5 2 (S_alk 4) := ⟨_, PySem.W.mg_of X G a_alike, FnD.of F_alike (ok_alike (Nat.le_refl 4) F_alike B_isinstance B_tuple B_list B_len B_range G_law_alike_3 B_bool b_alike4) b_alike⟩
  have G_law_alike := G_law_alike_4
  have G_reading_range := Grrange
  have M_Deck := mkM_Deck (ε := ε) GDinit
  have F_law_told := fun_mk (st := s_told8) l_law_told c_law_told k_law_told
  have b_law_told := F_law_told.binds (ps := ["_law_case"]) fun _ _ _ _ _ _ us hl => match us, hl with | [_], _ => rfl
  have o_law_told : FnD l.prog w K mg base τ 9 f_law_told 1 (S_told8 π) := FnD.of F_law_told (ok_told8 F_law_told G_Tape_names B_list G_alike_songs G_songs_at G_best_order G_Tape_size G_begin_readings G_counters G_reading_range M_Deck G_Deck_cells_at G_Tape_songs G_winding G_Tape_inv) b_law_told
  have G_law_told : DefD l.prog w K mg base τ "_law_told" 9 1 (S_told8 π) := ⟨_, PySem.W.mg_of X G a_law_told, o_law_told⟩
  have F_kept := fun_mk (st := s_kept) l_kept c_kept k_kept
  have b_kept := F_kept.binds (ps := ["_law_thing"]) fun _ _ _ _ _ _ us hl => match us, hl with | [_], _ => rfl
  have G_law_kept_n : DefD l.prog w K mg base τ "_law_kept" 0 1 S_no := ⟨_, PySem.W.mg_of X G a_kept, FnD.of F_kept (fnNo (ps := ["_law_thing"])) b_kept⟩
  have G_law_kept_0 : DefD l.prog w K mg base τ "_law_kept" 1 1 (S_kept 0) := ⟨_, PySem.W.mg_of X G a_kept, FnD.of F_kept (ok_kept (Nat.le_refl 0) F_kept B_isinstance B_list G_law_kept_n B_tuple b_kept0) b_kept⟩
  have G_law_kept_1 : DefD l.prog w K mg base τ "_law_kept" 2 1 (S_kept 1) := ⟨_, PySem.W.mg_of X G a_kept, FnD.of F_kept (ok_kept (Nat.le_refl 1) F_kept B_isinstance B_list G_law_kept_0 B_tuple b_kept1) b_kept⟩
  have G_law_kept_2 : DefD l.prog w K mg base τ "_law_kept" 3 1 (S_kept 2) := ⟨_, PySem.W.mg_of X G a_kept, FnD.of F_kept (ok_kept (Nat.le_refl 2) F_kept B_isinstance B_list G_law_kept_1 B_tuple b_kept2) b_kept⟩
  have G_law_kept_3 : DefD l.prog w K mg base τ "_law_kept" 4 1 (S_kept 3) := ⟨_, PySem.W.mg_of X G a_kept, FnD.of F_kept (ok_kept (Nat.le_refl 3) F_kept B_isinstance B_list G_law_kept_2 B_tuple b_kept3) b_kept⟩
  have G_law_kept_4 : DefD l.prog w K mg base τ "_law_kept" 5 1 (S_kept 4) := ⟨_, PySem.W.mg_of X G a_kept, FnD.of F_kept (ok_kept (Nat.le_refl 4) F_kept B_isinstance B_list G_law_kept_3 B_tuple b_kept4) b_kept⟩
  have G_law_kept := G_law_kept_4
  have Flaw := fun_mk (st := s_law) llaw claw klaw
  exact law_endT (by simp) (ok_law Flaw G_law_pair M_Deck G_law_tape G_law_songs B_range G_law_kept G_law_told G_law_taken G_law_alike GO_begin_readings)
open TZ
abbrev SZ (h : Heap) (K : PySem.W.Frag) : Prop := Hz.SaysZ fns tfs (Hz.exOf xs) h K
section
variable {h : Heap} {K : PySem.W.Frag}
theorem h_aisint (c : SZ h K) : PySem.W.nsIn K mainGlobals "is_integer" = some (some (.ref (A_fisint K))) := c.i2 0 x0 rfl 0 rfl
theorem h_gInvalidNumber (c : SZ h K) : PySem.W.nsIn K mainGlobals "InvalidNumber" = some (some (.ref (A_CInvalidNumber K))) := c.i2 0 x0 rfl 1 rfl
theorem h_xeInvalidNumber (c : SZ h K) : PySem.W.excIn K (A_CInvalidNumber K) [.type "ValueError", .type "Exception", .type "BaseException", .type "object"] "ValueError.__new__" = true := c.i2 0 x0 rfl 2 rfl
theorem h_xkInvalidNumber (c : SZ h K) : PySem.W.keepIn K (.ref (A_CInvalidNumber K)) = true := c.i2 0 x0 rfl 3 rfl
theorem h_xsInvalidNumber (c : SZ h K) : PySem.W.subIn K (.ref (A_CInvalidNumber K)) (.type "BaseException") = some true := c.i2 0 x0 rfl 4 rfl
theorem h_xtInvalidNumber (c : SZ h K) : PySem.W.typeIn K (.ref (A_CInvalidNumber K)) = some (.type "type") := c.i2 0 x0 rfl 5 rfl
theorem h_acheck (c : SZ h K) : PySem.W.nsIn K mainGlobals "check_number" = some (some (.ref (A_fcheck K))) := c.i2 0 x0 rfl 6 rfl
theorem h_gDeck (c : SZ h K) : PySem.W.nsIn K mainGlobals "Deck" = some (some (.ref (A_CDeck K))) := c.i2 0 x0 rfl 7 rfl
theorem h_pgDeck (c : SZ h K) : PySem.W.plainGet K (A_CDeck K) Str.empty = true := c.i2 0 x0 rfl 8 rfl
theorem h_hdDeck (c : SZ h K) : PySem.W.hasDictIn K (A_CDeck K) = true := c.i2 0 x0 rfl 9 rfl
theorem h_poDeck (c : SZ h K) : PySem.W.plainOver K (A_CDeck K) = true := c.i2 0 x0 rfl 10 rfl
theorem h_saDeck (c : SZ h K) : PySem.W.findIn K (.ref (A_CDeck K)) "__setattr__" = some (some (.builtin "object.__setattr__")) := c.i2 0 x0 rfl 11 rfl
theorem h_iaDeck (c : SZ h K) : PySem.W.findIn K (.ref (A_CDeck K)) "__class__" = some (some (.builtin "object.__class__")) := c.i2 1 x1 rfl 0 rfl
theorem h_ib (c : SZ h K) : PySem.W.specialIn K (.builtin "object.__class__") "__get__" = some (some (.builtin "getset_descriptor.__get__")) := c.i2 1 x1 rfl 1 rfl
theorem h_it (c : SZ h K) : PySem.W.takesIn K (.builtin "object.__class__") = some true := c.i2 1 x1 rfl 2 rfl
theorem h_imDeck (c : SZ h K) : PySem.W.mroIn K (A_CDeck K) (.type "object") = some true := c.i2 1 x1 rfl 3 rfl
theorem h_sDeckNoneType (c : SZ h K) : PySem.W.subIn K (.type "NoneType") (.ref (A_CDeck K)) = some false := c.i2 1 x1 rfl 4 rfl
theorem h_sDeckbool (c : SZ h K) : PySem.W.subIn K (.type "bool") (.ref (A_CDeck K)) = some false := c.i2 1 x1 rfl 5 rfl
theorem h_sDeckint (c : SZ h K) : PySem.W.subIn K (.type "int") (.ref (A_CDeck K)) = some false := c.i2 1 x1 rfl 6 rfl
theorem h_sDeckstr (c : SZ h K) : PySem.W.subIn K (.type "str") (.ref (A_CDeck K)) = some false := c.i2 1 x1 rfl 7 rfl
theorem h_sDecktuple (c : SZ h K) : PySem.W.subIn K (.type "tuple") (.ref (A_CDeck K)) = some false := c.i2 1 x1 rfl 8 rfl
theorem h_sDecklist (c : SZ h K) : PySem.W.subIn K (.type "list") (.ref (A_CDeck K)) = some false := c.i2 1 x1 rfl 9 rfl
theorem h_icDeck (c : SZ h K) : PySem.W.isClsIn K (A_CDeck K) = true := c.i2 1 x1 rfl 10 rfl
theorem h_tyDeck (c : SZ h K) : PySem.W.typeIn K (.ref (A_CDeck K)) = some (.type "type") := c.i2 1 x1 rfl 11 rfl
theorem h_nDeckfirst (c : SZ h K) : PySem.W.findIn K (.ref (A_CDeck K)) "first" = some none := c.i2 2 x2 rfl 0 rfl
theorem h_nDeckmore (c : SZ h K) : PySem.W.findIn K (.ref (A_CDeck K)) "more" = some none := c.i2 2 x2 rfl 1 rfl
theorem h_gInvalidDeck (c : SZ h K) : PySem.W.nsIn K mainGlobals "InvalidDeck" = some (some (.ref (A_CInvalidDeck K))) := c.i2 2 x2 rfl 4 rfl
theorem h_gTapeError (c : SZ h K) : PySem.W.nsIn K mainGlobals "TapeError" = some (some (.ref (A_CTapeError K))) := c.i2 2 x2 rfl 5 rfl
theorem h_rdTapeError (c : SZ h K) : PySem.W.readsIn K (A_CTapeError K) (.type "type") = true := c.i2 2 x2 rfl 6 rfl
theorem h_gaTapeError (c : SZ h K) : PySem.W.specialIn K (.ref (A_CTapeError K)) "__getattribute__" = some (some (.builtin "type.__getattribute__")) := c.i2 2 x2 rfl 7 rfl
theorem h_xkInvalidDeck (c : SZ h K) : PySem.W.keepIn K (.ref (A_CInvalidDeck K)) = true := c.i2 2 x2 rfl 9 rfl
theorem h_xsInvalidDeck (c : SZ h K) : PySem.W.subIn K (.ref (A_CInvalidDeck K)) (.type "BaseException") = some true := c.i2 2 x2 rfl 10 rfl
theorem h_xtInvalidDeck (c : SZ h K) : PySem.W.typeIn K (.ref (A_CInvalidDeck K)) = some (.type "type") := c.i2 2 x2 rfl 11 rfl
theorem h_xaInvalidDeck (c : SZ h K) : PySem.W.findIn K (.ref (A_CInvalidDeck K)) "__setattr__" = some (some (.builtin "object.__setattr__")) := c.i2 3 x3 rfl 0 rfl
theorem h_xiInvalidDeck (c : SZ h K) : PySem.W.findIn K (.ref (A_CInvalidDeck K)) "__init__" = some (some (.ref (A_fInvalidDeck K))) := c.i2 3 x3 rfl 1 rfl
theorem h_xjInvalidDeck (c : SZ h K) : PySem.W.typeIn K (.ref (A_fInvalidDeck K)) = some (.type "function") := c.i2 3 x3 rfl 2 rfl
theorem h_xnInvalidDeck (c : SZ h K) : PySem.W.findIn K (.ref (A_CInvalidDeck K)) "part" = some none := c.i2 3 x3 rfl 3 rfl
theorem h_mkDeck (c : SZ h K) : PySem.W.makesIn K (A_CDeck K) = true := c.i2 3 x3 rfl 5 rfl
theorem h_kpDeck (c : SZ h K) : PySem.W.keepIn K (.ref (A_CDeck K)) = true := c.i2 3 x3 rfl 6 rfl
theorem h_aDinit (c : SZ h K) : PySem.W.findIn K (.ref (A_CDeck K)) "__init__" = some (some (.ref (A_fDinit K))) := c.i2 3 x3 rfl 7 rfl
theorem h_iDinit (c : SZ h K) : PySem.W.isFn K (.ref (A_fDinit K)) = true := c.i2 3 x3 rfl 8 rfl
theorem h_acore (c : SZ h K) : PySem.W.findIn K (.ref (A_CDeck K)) "core" = some (some (.ref (A_pcore K))) := c.i2 3 x3 rfl 9 rfl
theorem h_pgcore (c : SZ h K) : PySem.W.specialIn K (.ref (A_pcore K)) "__get__" = some (some (.builtin "property.__get__")) := c.i2 3 x3 rfl 10 rfl
theorem h_ptcore (c : SZ h K) : PySem.W.takesIn K (.ref (A_pcore K)) = some true := c.i2 3 x3 rfl 11 rfl
theorem h_agrowth (c : SZ h K) : PySem.W.findIn K (.ref (A_CDeck K)) "growth" = some (some (.ref (A_pgrowth K))) := c.i2 4 x4 rfl 1 rfl
theorem h_pggrowth (c : SZ h K) : PySem.W.specialIn K (.ref (A_pgrowth K)) "__get__" = some (some (.builtin "property.__get__")) := c.i2 4 x4 rfl 2 rfl
theorem h_ptgrowth (c : SZ h K) : PySem.W.takesIn K (.ref (A_pgrowth K)) = some true := c.i2 4 x4 rfl 3 rfl
theorem h_agetitem (c : SZ h K) : PySem.W.findIn K (.ref (A_CDeck K)) "__getitem__" = some (some (.ref (A_fgetitem K))) := c.i2 4 x4 rfl 5 rfl
theorem h_igetitem (c : SZ h K) : PySem.W.isFn K (.ref (A_fgetitem K)) = true := c.i2 4 x4 rfl 6 rfl
theorem h_ngetitem (c : SZ h K) : PySem.W.fnIn K (A_fgetitem K) = true := c.i2 4 x4 rfl 7 rfl
theorem h_alength_of (c : SZ h K) : PySem.W.findIn K (.ref (A_CDeck K)) "length_of" = some (some (.ref (A_flength_of K))) := c.i2 4 x4 rfl 8 rfl
theorem h_ilength_of (c : SZ h K) : PySem.W.isFn K (.ref (A_flength_of K)) = true := c.i2 4 x4 rfl 9 rfl
theorem h_aturns_in (c : SZ h K) : PySem.W.findIn K (.ref (A_CDeck K)) "turns_in" = some (some (.ref (A_fturns_in K))) := c.i2 4 x4 rfl 10 rfl
theorem h_iturns_in (c : SZ h K) : PySem.W.isFn K (.ref (A_fturns_in K)) = true := c.i2 4 x4 rfl 11 rfl
theorem h_acall (c : SZ h K) : PySem.W.findIn K (.ref (A_CDeck K)) "__call__" = some (some (.ref (A_fcall K))) := c.i2 5 x5 rfl 0 rfl
theorem h_icall (c : SZ h K) : PySem.W.isFn K (.ref (A_fcall K)) = true := c.i2 5 x5 rfl 1 rfl
theorem h_ncall (c : SZ h K) : PySem.W.fnIn K (A_fcall K) = true := c.i2 5 x5 rfl 2 rfl
theorem h_acells (c : SZ h K) : PySem.W.findIn K (.ref (A_CDeck K)) "cells" = some (some (.ref (A_fcells K))) := c.i2 5 x5 rfl 3 rfl
theorem h_icells (c : SZ h K) : PySem.W.isFn K (.ref (A_fcells K)) = true := c.i2 5 x5 rfl 4 rfl
theorem h_acells_at (c : SZ h K) : PySem.W.findIn K (.ref (A_CDeck K)) "cells_at" = some (some (.ref (A_fcells_at K))) := c.i2 5 x5 rfl 5 rfl
theorem h_icells_at (c : SZ h K) : PySem.W.isFn K (.ref (A_fcells_at K)) = true := c.i2 5 x5 rfl 6 rfl
theorem h_alater (c : SZ h K) : PySem.W.nsIn K mainGlobals "later_deck" = some (some (.ref (A_flater K))) := c.i2 5 x5 rfl 7 rfl
theorem h_sfDeck (c : SZ h K) : PySem.W.selfFirst K (A_CDeck K) = true := c.i2 5 x5 rfl 8 rfl
theorem h_arshift (c : SZ h K) : PySem.W.findIn K (.ref (A_CDeck K)) "__rshift__" = some (some (.ref (A_frshift K))) := c.i2 5 x5 rfl 9 rfl
theorem h_irshift (c : SZ h K) : PySem.W.isFn K (.ref (A_frshift K)) = true := c.i2 5 x5 rfl 10 rfl
theorem h_adeq (c : SZ h K) : PySem.W.findIn K (.ref (A_CDeck K)) "__eq__" = some (some (.ref (A_fdeq K))) := c.i2 5 x5 rfl 11 rfl
theorem h_ideq (c : SZ h K) : PySem.W.isFn K (.ref (A_fdeq K)) = true := c.i2 6 x6 rfl 0 rfl
theorem h_arrange (c : SZ h K) : PySem.W.nsIn K mainGlobals "reading_range" = some (some (.ref (A_frrange K))) := c.i2 6 x6 rfl 1 rfl
theorem h_ataken (c : SZ h K) : PySem.W.nsIn K mainGlobals "_law_taken" = some (some (.ref (A_ftaken K))) := c.i2 6 x6 rfl 2 rfl
theorem h_a_is_name (c : SZ h K) : PySem.W.nsIn K mainGlobals "is_name" = some (some (.ref (A_f_is_name K))) := c.i2 6 x6 rfl 5 rfl
theorem h_a_is_song (c : SZ h K) : PySem.W.nsIn K mainGlobals "is_song" = some (some (.ref (A_f_is_song K))) := c.i2 6 x6 rfl 6 rfl
theorem h_gInvalidTape (c : SZ h K) : PySem.W.nsIn K mainGlobals "InvalidTape" = some (some (.ref (A_CInvalidTape K))) := c.i2 6 x6 rfl 8 rfl
theorem h_xkInvalidTape (c : SZ h K) : PySem.W.keepIn K (.ref (A_CInvalidTape K)) = true := c.i2 6 x6 rfl 9 rfl
theorem h_xsInvalidTape (c : SZ h K) : PySem.W.subIn K (.ref (A_CInvalidTape K)) (.type "BaseException") = some true := c.i2 6 x6 rfl 10 rfl
theorem h_xtInvalidTape (c : SZ h K) : PySem.W.typeIn K (.ref (A_CInvalidTape K)) = some (.type "type") := c.i2 6 x6 rfl 11 rfl
theorem h_xaInvalidTape (c : SZ h K) : PySem.W.findIn K (.ref (A_CInvalidTape K)) "__setattr__" = some (some (.builtin "object.__setattr__")) := c.i2 7 x7 rfl 0 rfl
theorem h_xiInvalidTape (c : SZ h K) : PySem.W.findIn K (.ref (A_CInvalidTape K)) "__init__" = some (some (.ref (A_fInvalidTape K))) := c.i2 7 x7 rfl 1 rfl
theorem h_xjInvalidTape (c : SZ h K) : PySem.W.typeIn K (.ref (A_fInvalidTape K)) = some (.type "function") := c.i2 7 x7 rfl 2 rfl
theorem h_xnInvalidTape (c : SZ h K) : PySem.W.findIn K (.ref (A_CInvalidTape K)) "index" = some none := c.i2 7 x7 rfl 3 rfl
theorem h_gTape (c : SZ h K) : PySem.W.nsIn K mainGlobals "Tape" = some (some (.ref (A_CTape K))) := c.i2 7 x7 rfl 5 rfl
theorem h_pgTape (c : SZ h K) : PySem.W.plainGet K (A_CTape K) Str.empty = true := c.i2 7 x7 rfl 6 rfl
theorem h_hdTape (c : SZ h K) : PySem.W.hasDictIn K (A_CTape K) = true := c.i2 7 x7 rfl 7 rfl
theorem h_poTape (c : SZ h K) : PySem.W.plainOver K (A_CTape K) = true := c.i2 7 x7 rfl 8 rfl
theorem h_saTape (c : SZ h K) : PySem.W.findIn K (.ref (A_CTape K)) "__setattr__" = some (some (.builtin "object.__setattr__")) := c.i2 7 x7 rfl 9 rfl
theorem h_nTapelisted (c : SZ h K) : PySem.W.findIn K (.ref (A_CTape K)) "listed" = some none := c.i2 7 x7 rfl 10 rfl
theorem h_nTapebegins (c : SZ h K) : PySem.W.findIn K (.ref (A_CTape K)) "begins" = some none := c.i2 7 x7 rfl 11 rfl
theorem h_nTapetotal (c : SZ h K) : PySem.W.findIn K (.ref (A_CTape K)) "total" = some none := c.i2 8 x8 rfl 0 rfl
theorem h_mkTape (c : SZ h K) : PySem.W.makesIn K (A_CTape K) = true := c.i2 8 x8 rfl 1 rfl
theorem h_kpTape (c : SZ h K) : PySem.W.keepIn K (.ref (A_CTape K)) = true := c.i2 8 x8 rfl 2 rfl
theorem h_aTI (c : SZ h K) : PySem.W.findIn K (.ref (A_CTape K)) "__init__" = some (some (.ref (A_fTI K))) := c.i2 8 x8 rfl 3 rfl
theorem h_iTI (c : SZ h K) : PySem.W.isFn K (.ref (A_fTI K)) = true := c.i2 8 x8 rfl 4 rfl
theorem h_a_Tape_songs (c : SZ h K) : PySem.W.findIn K (.ref (A_CTape K)) "songs" = some (some (.ref (A_p_Tape_songs K))) := c.i2 8 x8 rfl 5 rfl
theorem h_pg_Tape_songs (c : SZ h K) : PySem.W.specialIn K (.ref (A_p_Tape_songs K)) "__get__" = some (some (.builtin "property.__get__")) := c.i2 8 x8 rfl 6 rfl
theorem h_pt_Tape_songs (c : SZ h K) : PySem.W.takesIn K (.ref (A_p_Tape_songs K)) = some true := c.i2 8 x8 rfl 7 rfl
theorem h_a_Tape_names (c : SZ h K) : PySem.W.findIn K (.ref (A_CTape K)) "names" = some (some (.ref (A_p_Tape_names K))) := c.i2 8 x8 rfl 9 rfl
theorem h_pg_Tape_names (c : SZ h K) : PySem.W.specialIn K (.ref (A_p_Tape_names K)) "__get__" = some (some (.builtin "property.__get__")) := c.i2 8 x8 rfl 10 rfl
theorem h_pt_Tape_names (c : SZ h K) : PySem.W.takesIn K (.ref (A_p_Tape_names K)) = some true := c.i2 8 x8 rfl 11 rfl
theorem h_a_Tape_size (c : SZ h K) : PySem.W.findIn K (.ref (A_CTape K)) "size" = some (some (.ref (A_p_Tape_size K))) := c.i2 9 x9 rfl 1 rfl
theorem h_pg_Tape_size (c : SZ h K) : PySem.W.specialIn K (.ref (A_p_Tape_size K)) "__get__" = some (some (.builtin "property.__get__")) := c.i2 9 x9 rfl 2 rfl
theorem h_pt_Tape_size (c : SZ h K) : PySem.W.takesIn K (.ref (A_p_Tape_size K)) = some true := c.i2 9 x9 rfl 3 rfl
theorem h_a_Tape_span_of (c : SZ h K) : PySem.W.findIn K (.ref (A_CTape K)) "span_of" = some (some (.ref (A_f_Tape_span_of K))) := c.i2 9 x9 rfl 5 rfl
theorem h_i_Tape_span_of (c : SZ h K) : PySem.W.isFn K (.ref (A_f_Tape_span_of K)) = true := c.i2 9 x9 rfl 6 rfl
theorem h_a_Tape_in (c : SZ h K) : PySem.W.findIn K (.ref (A_CTape K)) "__contains__" = some (some (.ref (A_f_Tape_in K))) := c.i2 9 x9 rfl 7 rfl
theorem h_i_Tape_in (c : SZ h K) : PySem.W.isFn K (.ref (A_f_Tape_in K)) = true := c.i2 9 x9 rfl 8 rfl
theorem h_a_tape_of (c : SZ h K) : PySem.W.nsIn K mainGlobals "tape_of" = some (some (.ref (A_f_tape_of K))) := c.i2 9 x9 rfl 9 rfl
theorem h_sfTape (c : SZ h K) : PySem.W.selfFirst K (A_CTape K) = true := c.i2 9 x9 rfl 10 rfl
theorem h_a_Tape_Add (c : SZ h K) : PySem.W.findIn K (.ref (A_CTape K)) "__add__" = some (some (.ref (A_f_Tape_Add K))) := c.i2 9 x9 rfl 11 rfl
theorem h_i_Tape_Add (c : SZ h K) : PySem.W.isFn K (.ref (A_f_Tape_Add K)) = true := c.i2 10 x10 rfl 0 rfl
theorem h_a_Tape_inv (c : SZ h K) : PySem.W.findIn K (.ref (A_CTape K)) "__invert__" = some (some (.ref (A_f_Tape_inv K))) := c.i2 10 x10 rfl 1 rfl
theorem h_i_Tape_inv (c : SZ h K) : PySem.W.isFn K (.ref (A_f_Tape_inv K)) = true := c.i2 10 x10 rfl 2 rfl
theorem h_a_counters (c : SZ h K) : PySem.W.nsIn K mainGlobals "counters" = some (some (.ref (A_f_counters K))) := c.i2 10 x10 rfl 3 rfl
theorem h_a_begin_readings (c : SZ h K) : PySem.W.nsIn K mainGlobals "begin_readings" = some (some (.ref (A_f_begin_readings K))) := c.i2 10 x10 rfl 4 rfl
theorem h_a_songs_at (c : SZ h K) : PySem.W.nsIn K mainGlobals "songs_at" = some (some (.ref (A_f_songs_at K))) := c.i2 10 x10 rfl 5 rfl
theorem h_a_alike_songs (c : SZ h K) : PySem.W.nsIn K mainGlobals "alike_songs" = some (some (.ref (A_f_alike_songs K))) := c.i2 10 x10 rfl 6 rfl
theorem h_gInvalidSongs (c : SZ h K) : PySem.W.nsIn K mainGlobals "InvalidSongs" = some (some (.ref (A_CInvalidSongs K))) := c.i2 10 x10 rfl 7 rfl
theorem h_xkInvalidSongs (c : SZ h K) : PySem.W.keepIn K (.ref (A_CInvalidSongs K)) = true := c.i2 10 x10 rfl 8 rfl
theorem h_xsInvalidSongs (c : SZ h K) : PySem.W.subIn K (.ref (A_CInvalidSongs K)) (.type "BaseException") = some true := c.i2 10 x10 rfl 9 rfl
theorem h_xtInvalidSongs (c : SZ h K) : PySem.W.typeIn K (.ref (A_CInvalidSongs K)) = some (.type "type") := c.i2 10 x10 rfl 10 rfl
theorem h_xaInvalidSongs (c : SZ h K) : PySem.W.findIn K (.ref (A_CInvalidSongs K)) "__setattr__" = some (some (.builtin "object.__setattr__")) := c.i2 10 x10 rfl 11 rfl
theorem h_xiInvalidSongs (c : SZ h K) : PySem.W.findIn K (.ref (A_CInvalidSongs K)) "__init__" = some (some (.ref (A_fInvalidSongs K))) := c.i2 11 x11 rfl 0 rfl
theorem h_xjInvalidSongs (c : SZ h K) : PySem.W.typeIn K (.ref (A_fInvalidSongs K)) = some (.type "function") := c.i2 11 x11 rfl 1 rfl
theorem h_xnInvalidSongs (c : SZ h K) : PySem.W.findIn K (.ref (A_CInvalidSongs K)) "index" = some none := c.i2 11 x11 rfl 2 rfl
theorem h_a_check_songs (c : SZ h K) : PySem.W.nsIn K mainGlobals "check_songs" = some (some (.ref (A_f_check_songs K))) := c.i2 11 x11 rfl 4 rfl
theorem h_a_winding (c : SZ h K) : PySem.W.nsIn K mainGlobals "winding" = some (some (.ref (A_f_winding K))) := c.i2 11 x11 rfl 5 rfl
theorem h_a_ordered (c : SZ h K) : PySem.W.nsIn K mainGlobals "ordered" = some (some (.ref (A_f_ordered K))) := c.i2 11 x11 rfl 6 rfl
theorem h_a_candidates (c : SZ h K) : PySem.W.nsIn K mainGlobals "candidates" = some (some (.ref (A_f_candidates K))) := c.i2 11 x11 rfl 7 rfl
theorem h_a_best_order (c : SZ h K) : PySem.W.nsIn K mainGlobals "best_order" = some (some (.ref (A_f_best_order K))) := c.i2 11 x11 rfl 8 rfl
theorem h_a_law_pair (c : SZ h K) : PySem.W.nsIn K mainGlobals "_law_pair" = some (some (.ref (A_f_law_pair K))) := c.i2 11 x11 rfl 9 rfl
theorem h_a_law_songs (c : SZ h K) : PySem.W.nsIn K mainGlobals "_law_songs" = some (some (.ref (A_f_law_songs K))) := c.i2 11 x11 rfl 10 rfl
theorem h_a_law_tape (c : SZ h K) : PySem.W.nsIn K mainGlobals "_law_tape" = some (some (.ref (A_f_law_tape K))) := c.i2 11 x11 rfl 11 rfl
theorem h_a_alike (c : SZ h K) : PySem.W.nsIn K mainGlobals "_law_alike" = some (some (.ref (A_f_alike K))) := c.i2 12 x12 rfl 0 rfl
theorem h_a_law_told (c : SZ h K) : PySem.W.nsIn K mainGlobals "_law_told" = some (some (.ref (A_f_law_told K))) := c.i2 12 x12 rfl 1 rfl
theorem h_a_kept (c : SZ h K) : PySem.W.nsIn K mainGlobals "_law_kept" = some (some (.ref (A_f_kept K))) := c.i2 12 x12 rfl 2 rfl
theorem h_alaw (c : SZ h K) : PySem.W.nsIn K mainGlobals "law" = some (some (.ref (A_flaw K))) := c.i2 12 x12 rfl 3 rfl
theorem h_z_isinstance (c : SZ h K) : PySem.W.nsIn K mainGlobals "isinstance" = some none := c.i2 12 x12 rfl 4 rfl
theorem h_z_int (c : SZ h K) : PySem.W.nsIn K mainGlobals "int" = some none := c.i2 12 x12 rfl 5 rfl
theorem h_z_bool (c : SZ h K) : PySem.W.nsIn K mainGlobals "bool" = some none := c.i2 12 x12 rfl 6 rfl
theorem h_z_len (c : SZ h K) : PySem.W.nsIn K mainGlobals "len" = some none := c.i2 12 x12 rfl 7 rfl
theorem h_z_range (c : SZ h K) : PySem.W.nsIn K mainGlobals "range" = some none := c.i2 12 x12 rfl 8 rfl
theorem h_z_min (c : SZ h K) : PySem.W.nsIn K mainGlobals "min" = some none := c.i2 12 x12 rfl 9 rfl
theorem h_z_max (c : SZ h K) : PySem.W.nsIn K mainGlobals "max" = some none := c.i2 12 x12 rfl 10 rfl
theorem h_z_abs (c : SZ h K) : PySem.W.nsIn K mainGlobals "abs" = some none := c.i2 12 x12 rfl 11 rfl
theorem h_z_sum (c : SZ h K) : PySem.W.nsIn K mainGlobals "sum" = some none := c.i2 13 x13 rfl 0 rfl
theorem h_z_list (c : SZ h K) : PySem.W.nsIn K mainGlobals "list" = some none := c.i2 13 x13 rfl 1 rfl
theorem h_z_tuple (c : SZ h K) : PySem.W.nsIn K mainGlobals "tuple" = some none := c.i2 13 x13 rfl 2 rfl
theorem h_z_set (c : SZ h K) : PySem.W.nsIn K mainGlobals "set" = some none := c.i2 13 x13 rfl 3 rfl
theorem h_z_sorted (c : SZ h K) : PySem.W.nsIn K mainGlobals "sorted" = some none := c.i2 13 x13 rfl 4 rfl
theorem h_z_dict (c : SZ h K) : PySem.W.nsIn K mainGlobals "dict" = some none := c.i2 13 x13 rfl 5 rfl
theorem h_z_enumerate (c : SZ h K) : PySem.W.nsIn K mainGlobals "enumerate" = some none := c.i2 13 x13 rfl 6 rfl
theorem h_z_zip (c : SZ h K) : PySem.W.nsIn K mainGlobals "zip" = some none := c.i2 13 x13 rfl 7 rfl
theorem h_z_all (c : SZ h K) : PySem.W.nsIn K mainGlobals "all" = some none := c.i2 13 x13 rfl 8 rfl
theorem h_z_any (c : SZ h K) : PySem.W.nsIn K mainGlobals "any" = some none := c.i2 13 x13 rfl 9 rfl
theorem h_z_str (c : SZ h K) : PySem.W.nsIn K mainGlobals "str" = some none := c.i2 13 x13 rfl 10 rfl
theorem h_z_bytes (c : SZ h K) : PySem.W.nsIn K mainGlobals "bytes" = some none := c.i2 13 x13 rfl 11 rfl
end
theorem all_x {l : PySem.W.OpenLaw} {w : World} {K : PySem.W.Frag} {h : Heap} {mg : Str → Option Value} {fa : Addr} (KX : K.In h) (G : h.Ns mainGlobals mg) (hfa : mg "law" = some (.ref fa)) (c : SZ h K) (dk : ∀ p ∈ dts, ∃ es n, L2.KDict K w (p.1 K) es n) : LawT l w K 11 mg fa (tfs.map fun p => Hz.tabZ K (Hz.codeZ K (p K))) := by
  obtain ⟨_, _, _, _, _, _, _, _, lisint, cisint, kisint⟩ := c.fn_ 0 A_fisint "is_integer" "is_integer" s_isint rfl
  obtain ⟨_, _, _, _, _, _, _, _, lcheck, ccheck, kcheck⟩ := c.fn_ 1 A_fcheck "check_number" "check_number" s_check rfl
  obtain ⟨_, mMC⟩ := Hz.intB_ok (c.b2 2 x2 rfl 2 rfl)
  obtain ⟨_, mMN⟩ := Hz.intB_ok (c.b2 2 x2 rfl 3 rfl)
  have tI := Hz.cvB_ok (c.b2 2 x2 rfl 8 rfl)
  obtain ⟨_, _, _, _, _, _, _, _, lInvalidDeck, cInvalidDeck, kInvalidDeck⟩ := c.fn_ 2 A_fInvalidDeck "__init__" "InvalidDeck.__init__" s_xDeck rfl
  obtain ⟨_, _, _, _, _, _, _, _, _, _, _, _, _, _, _, xlInvalidDeck, xrInvalidDeck⟩ := Hz.xlB_ok (c.b2 3 x3 rfl 4 rfl)
  obtain ⟨_, _, _, _, _, _, _, _, lDinit, cDinit, kDinit⟩ := c.fn_ 3 A_fDinit "__init__" "Deck.__init__" s_Deck_init rfl
  obtain ⟨_, _, _, _, _, _, _, _, lcore, ccore, kcore⟩ := c.fn_ 4 A_fcore "core" "Deck.core" s_core rfl
  obtain ⟨_, prcore⟩ := Hz.recB_ok (c.b2 4 x4 rfl 0 rfl)
  obtain ⟨_, _, _, _, _, _, _, _, lgrowth, cgrowth, kgrowth⟩ := c.fn_ 5 A_fgrowth "growth" "Deck.growth" s_growth rfl
  obtain ⟨_, prgrowth⟩ := Hz.recB_ok (c.b2 4 x4 rfl 4 rfl)
  obtain ⟨_, _, _, _, _, _, _, _, lgetitem, cgetitem, kgetitem⟩ := c.fn_ 6 A_fgetitem "__getitem__" "Deck.__getitem__" s_getitem rfl
  obtain ⟨_, _, _, _, _, _, _, _, llength_of, clength_of, klength_of⟩ := c.fn_ 7 A_flength_of "length_of" "Deck.length_of" s_length_of rfl
  obtain ⟨_, _, _, _, _, _, _, _, lturns_in, cturns_in, kturns_in⟩ := c.fn_ 8 A_fturns_in "turns_in" "Deck.turns_in" s_turns_in rfl
  obtain ⟨_, _, _, _, _, _, _, _, lcall, ccall, kcall⟩ := c.fn_ 9 A_fcall "__call__" "Deck.__call__" s_call rfl
  obtain ⟨_, _, _, _, _, _, _, _, lcells, ccells, kcells⟩ := c.fn_ 10 A_fcells "cells" "Deck.cells" s_cells rfl
  obtain ⟨_, _, _, _, _, _, _, _, lcells_at, ccells_at, kcells_at⟩ := c.fn_ 11 A_fcells_at "cells_at" "Deck.cells_at" s_cells_at rfl
  obtain ⟨_, _, _, _, _, _, _, _, llater, clater, klater⟩ := c.fn_ 12 A_flater "later_deck" "later_deck" s_later rfl
  obtain ⟨_, _, _, _, _, _, _, _, lrshift, crshift, krshift⟩ := c.fn_ 13 A_frshift "__rshift__" "Deck.__rshift__" s_rshift rfl
  obtain ⟨_, _, _, _, _, _, _, _, ldeq, cdeq, kdeq⟩ := c.fn_ 14 A_fdeq "__eq__" "Deck.__eq__" s_deck_eq rfl
  obtain ⟨_, _, _, _, _, _, _, _, lrrange, crrange, krrange⟩ := c.fn_ 15 A_frrange "reading_range" "reading_range" s_rrange rfl
  obtain ⟨_, _, _, _, _, _, _, _, ltaken, ctaken, ktaken⟩ := c.fn_ 16 A_ftaken "_law_taken" "_law_taken" s_taken rfl
  obtain ⟨_, vg_MAX_LETTERS⟩ := Hz.intB_ok (c.b2 6 x6 rfl 3 rfl)
  obtain ⟨_, vg_LETTERS⟩ := Hz.strB_ok (c.b2 6 x6 rfl 4 rfl)
  obtain ⟨_, _, _, _, _, _, _, _, l_is_name, c_is_name, k_is_name⟩ := c.fn_ 17 A_f_is_name "is_name" "is_name" s_is_name rfl
  obtain ⟨_, _, _, _, _, _, _, _, l_is_song, c_is_song, k_is_song⟩ := c.fn_ 18 A_f_is_song "is_song" "is_song" s_is_song rfl
  obtain ⟨_, vg_MAX_SONGS_tapes⟩ := Hz.intB_ok (c.b2 6 x6 rfl 7 rfl)
  obtain ⟨_, _, _, _, _, _, _, _, lInvalidTape, cInvalidTape, kInvalidTape⟩ := c.fn_ 19 A_fInvalidTape "__init__" "InvalidTape.__init__" s_xInvalidTape rfl
  obtain ⟨_, _, _, _, _, _, _, _, _, _, _, _, _, _, _, xlInvalidTape, xrInvalidTape⟩ := Hz.xlB_ok (c.b2 7 x7 rfl 4 rfl)
  obtain ⟨_, _, _, _, _, _, _, _, lTI, cTI, kTI⟩ := c.fn_ 20 A_fTI "__init__" "Tape.__init__" s_tape_init rfl
  obtain ⟨_, _, _, _, _, _, _, _, l_Tape_songs, c_Tape_songs, k_Tape_songs⟩ := c.fn_ 21 A_f_Tape_songs "songs" "Tape.songs" s_songs rfl
  obtain ⟨_, pr_Tape_songs⟩ := Hz.recB_ok (c.b2 8 x8 rfl 8 rfl)
  obtain ⟨_, _, _, _, _, _, _, _, l_Tape_names, c_Tape_names, k_Tape_names⟩ := c.fn_ 22 A_f_Tape_names "names" "Tape.names" s_names rfl
  obtain ⟨_, pr_Tape_names⟩ := Hz.recB_ok (c.b2 9 x9 rfl 0 rfl)
  obtain ⟨_, _, _, _, _, _, _, _, l_Tape_size, c_Tape_size, k_Tape_size⟩ := c.fn_ 23 A_f_Tape_size "size" "Tape.size" s_size rfl
  obtain ⟨_, pr_Tape_size⟩ := Hz.recB_ok (c.b2 9 x9 rfl 4 rfl)
  obtain ⟨_, _, _, _, _, _, _, _, l_Tape_span_of, c_Tape_span_of, k_Tape_span_of⟩ := c.fn_ 24 A_f_Tape_span_of "span_of" "Tape.span_of" s_span_of rfl
  obtain ⟨_, _, _, _, _, _, _, _, l_Tape_in, c_Tape_in, k_Tape_in⟩ := c.fn_ 25 A_f_Tape_in "__contains__" "Tape.__contains__" s_tape_in rfl
  obtain ⟨_, _, _, _, _, _, _, _, l_tape_of, c_tape_of, k_tape_of⟩ := c.fn_ 26 A_f_tape_of "tape_of" "tape_of" s_tape_of rfl
  obtain ⟨_, _, _, _, _, _, _, _, l_Tape_Add, c_Tape_Add, k_Tape_Add⟩ := c.fn_ 27 A_f_Tape_Add "__add__" "Tape.__add__" s_tape_add rfl
  obtain ⟨_, _, _, _, _, _, _, _, l_Tape_inv, c_Tape_inv, k_Tape_inv⟩ := c.fn_ 28 A_f_Tape_inv "__invert__" "Tape.__invert__" s_tape_inv rfl
  obtain ⟨_, _, _, _, _, _, _, _, l_counters, c_counters, k_counters⟩ := c.fn_ 29 A_f_counters "counters" "counters" s_counters rfl
  obtain ⟨_, _, _, _, _, _, _, _, l_begin_readings, c_begin_readings, k_begin_readings⟩ := c.fn_ 30 A_f_begin_readings "begin_readings" "begin_readings" s_begin_readings rfl
  obtain ⟨_, _, _, _, _, _, _, _, l_songs_at, c_songs_at, k_songs_at⟩ := c.fn_ 31 A_f_songs_at "songs_at" "songs_at" s_songs_at rfl
  obtain ⟨_, _, _, _, _, _, _, _, l_alike_songs, c_alike_songs, k_alike_songs⟩ := c.fn_ 32 A_f_alike_songs "alike_songs" "alike_songs" s_alike_songs rfl
  obtain ⟨_, _, _, _, _, _, _, _, lInvalidSongs, cInvalidSongs, kInvalidSongs⟩ := c.fn_ 33 A_fInvalidSongs "__init__" "InvalidSongs.__init__" s_xInvalidSongs rfl
  obtain ⟨_, _, _, _, _, _, _, _, _, _, _, _, _, _, _, xlInvalidSongs, xrInvalidSongs⟩ := Hz.xlB_ok (c.b2 11 x11 rfl 3 rfl)
  obtain ⟨_, _, _, _, _, _, _, _, l_check_songs, c_check_songs, k_check_songs⟩ := c.fn_ 34 A_f_check_songs "check_songs" "check_songs" s_check_songs rfl
  obtain ⟨_, _, _, _, _, _, _, _, l_winding, c_winding, k_winding⟩ := c.fn_ 35 A_f_winding "winding" "winding" s_winding rfl
  obtain ⟨_, _, _, _, _, _, _, _, l_ordered, c_ordered, k_ordered⟩ := c.fn_ 36 A_f_ordered "ordered" "ordered" s_ordered rfl
  obtain ⟨_, _, _, _, _, _, _, _, l_candidates, c_candidates, k_candidates⟩ := c.fn_ 37 A_f_candidates "candidates" "candidates" s_candidates rfl
  obtain ⟨_, _, _, _, _, _, _, _, l_best_order, c_best_order, k_best_order⟩ := c.fn_ 38 A_f_best_order "best_order" "best_order" s_best_order rfl
  obtain ⟨zh_best_order, zn_best_order, zm_best_order⟩ := c.tab 0 A_f_best_order rfl
  obtain ⟨_, _, _, lk_best_order, zp_best_order⟩ := Hz.code_tab zh_best_order
  obtain ⟨_, _, _, _, _, _, _, _, l_law_pair, c_law_pair, k_law_pair⟩ := c.fn_ 39 A_f_law_pair "_law_pair" "_law_pair" s_pair rfl
  obtain ⟨_, _, _, _, _, _, _, _, l_law_songs, c_law_songs, k_law_songs⟩ := c.fn_ 40 A_f_law_songs "_law_songs" "_law_songs" s_lsongs rfl
  obtain ⟨_, _, _, _, _, _, _, _, l_law_tape, c_law_tape, k_law_tape⟩ := c.fn_ 41 A_f_law_tape "_law_tape" "_law_tape" s_ltape rfl
  obtain ⟨_, _, _, _, _, _, _, _, l_alike, c_alike, k_alike⟩ := c.fn_ 42 A_f_alike "_law_alike" "_law_alike" s_alike rfl
  obtain ⟨_, _, _, _, _, _, _, _, l_law_told, c_law_told, k_law_told⟩ := c.fn_ 43 A_f_law_told "_law_told" "_law_told" s_told8 rfl
  obtain ⟨_, _, _, _, _, _, _, _, l_kept, c_kept, k_kept⟩ := c.fn_ 44 A_f_kept "_law_kept" "_law_kept" s_kept rfl
  obtain ⟨_, _, _, _, _, _, _, _, llaw, claw, klaw⟩ := c.fn_ 45 A_flaw "law" "law" s_law rfl
  exact all_mk KX G hfa lisint cisint kisint (h_aisint c) (h_gInvalidNumber c) (h_xeInvalidNumber c) (h_xkInvalidNumber c) (h_xsInvalidNumber c) (h_xtInvalidNumber c) lcheck ccheck kcheck (h_acheck c) (h_gDeck c) (h_pgDeck c) (h_hdDeck c) (h_poDeck c) (h_saDeck c) (h_iaDeck c) (h_ib c) (h_it c) (h_imDeck c) (h_sDeckNoneType c) (h_sDeckbool c) (h_sDeckint c) (h_sDeckstr c) (h_sDecktuple c) (h_sDecklist c) (h_icDeck c) (h_tyDeck c) (h_nDeckfirst c) (h_nDeckmore c) mMC mMN (h_gInvalidDeck c) (h_gTapeError c) (h_rdTapeError c) (h_gaTapeError c) tI lInvalidDeck cInvalidDeck kInvalidDeck (h_xkInvalidDeck c) (h_xsInvalidDeck c) (h_xtInvalidDeck c) (h_xaInvalidDeck c) (h_xiInvalidDeck c) (h_xjInvalidDeck c) (h_xnInvalidDeck c) xlInvalidDeck xrInvalidDeck lDinit cDinit kDinit (h_mkDeck c) (h_kpDeck c) (h_aDinit c) (h_iDinit c) lcore ccore kcore (h_acore c) (h_pgcore c) (h_ptcore c) prcore lgrowth cgrowth kgrowth (h_agrowth c) (h_pggrowth c) (h_ptgrowth c) prgrowth lgetitem cgetitem kgetitem (h_agetitem c) (h_igetitem c) (h_ngetitem c) llength_of clength_of klength_of (h_alength_of c) (h_ilength_of c) lturns_in cturns_in kturns_in (h_aturns_in c) (h_iturns_in c) lcall ccall kcall (h_acall c) (h_icall c) (h_ncall c) lcells ccells kcells (h_acells c) (h_icells c) lcells_at ccells_at kcells_at (h_acells_at c) (h_icells_at c) llater clater klater (h_alater c) lrshift crshift krshift (h_sfDeck c) (h_arshift c) (h_irshift c) ldeq cdeq kdeq (h_adeq c) (h_ideq c) lrrange crrange krrange (h_arrange c) ltaken ctaken ktaken (h_ataken c) vg_MAX_LETTERS vg_LETTERS l_is_name c_is_name k_is_name (h_a_is_name c) l_is_song c_is_song k_is_song (h_a_is_song c) vg_MAX_SONGS_tapes (h_gInvalidTape c) lInvalidTape cInvalidTape kInvalidTape (h_xkInvalidTape c) (h_xsInvalidTape c) (h_xtInvalidTape c) (h_xaInvalidTape c) (h_xiInvalidTape c) (h_xjInvalidTape c) (h_xnInvalidTape c) xlInvalidTape xrInvalidTape (h_gTape c) (h_pgTape c) (h_hdTape c) (h_poTape c) (h_saTape c) (h_nTapelisted c) (h_nTapebegins c) (h_nTapetotal c) lTI cTI kTI (h_mkTape c) (h_kpTape c) (h_aTI c) (h_iTI c) l_Tape_songs c_Tape_songs k_Tape_songs (h_a_Tape_songs c) (h_pg_Tape_songs c) (h_pt_Tape_songs c) pr_Tape_songs l_Tape_names c_Tape_names k_Tape_names (h_a_Tape_names c) (h_pg_Tape_names c) (h_pt_Tape_names c) pr_Tape_names l_Tape_size c_Tape_size k_Tape_size (h_a_Tape_size c) (h_pg_Tape_size c) (h_pt_Tape_size c) pr_Tape_size l_Tape_span_of c_Tape_span_of k_Tape_span_of (h_a_Tape_span_of c) (h_i_Tape_span_of c) l_Tape_in c_Tape_in k_Tape_in (h_a_Tape_in c) (h_i_Tape_in c) l_tape_of c_tape_of k_tape_of (h_a_tape_of c) l_Tape_Add c_Tape_Add k_Tape_Add (h_sfTape c) (h_a_Tape_Add c) (h_i_Tape_Add c) l_Tape_inv c_Tape_inv k_Tape_inv (h_a_Tape_inv c) (h_i_Tape_inv c) l_counters c_counters k_counters (h_a_counters c) l_begin_readings c_begin_readings k_begin_readings (h_a_begin_readings c) l_songs_at c_songs_at k_songs_at (h_a_songs_at c) l_alike_songs c_alike_songs k_alike_songs (h_a_alike_songs c) (h_gInvalidSongs c) lInvalidSongs cInvalidSongs kInvalidSongs (h_xkInvalidSongs c) (h_xsInvalidSongs c) (h_xtInvalidSongs c) (h_xaInvalidSongs c) (h_xiInvalidSongs c) (h_xjInvalidSongs c) (h_xnInvalidSongs c) xlInvalidSongs xrInvalidSongs l_check_songs c_check_songs k_check_songs (h_a_check_songs c) l_winding c_winding k_winding (h_a_winding c) l_ordered c_ordered k_ordered (h_a_ordered c) l_candidates c_candidates k_candidates (h_a_candidates c) l_best_order c_best_order k_best_order lk_best_order zp_best_order zh_best_order zn_best_order zm_best_order (h_a_best_order c) l_law_pair c_law_pair k_law_pair (h_a_law_pair c) l_law_songs c_law_songs k_law_songs (h_a_law_songs c) l_law_tape c_law_tape k_law_tape (h_a_law_tape c) l_alike c_alike k_alike (h_a_alike c) l_law_told c_law_told k_law_told (h_a_law_told c) l_kept c_kept k_kept (h_a_kept c) llaw claw klaw (h_alaw c) (h_z_isinstance c) (h_z_int c) (h_z_bool c) (h_z_len c) (h_z_range c) (h_z_min c) (h_z_max c) (h_z_abs c) (h_z_sum c) (h_z_list c) (h_z_tuple c) (h_z_set c) (h_z_sorted c) (h_z_dict c) (h_z_enumerate c) (h_z_zip c) (h_z_all c) (h_z_any c) (h_z_str c) (h_z_bytes c)
end TC
open PySem PySem.W PySem.Calls PyProof.Rows
set_option maxRecDepth 100000 in
set_option maxHeartbeats 0 in
theorem PySem.Challenge.cw_tapecounters_k08_repeated_calls_holds : PySem.Challenge.rw_tapecounters_k08_repeated_calls.Holds := by
  w_on; o_law
  refine HandSHeadRun.head_any (r := OpenLaw.row PySem.Challenge.rw_tapecounters_k08_repeated_calls) (q := TZ.qv) (H := TZ.hk) (ob := TZ.ob) (M := 20000) (loose := TZ.loose_) (d := HandSHeadRun.topDef (OpenLaw.row PySem.Challenge.rw_tapecounters_k08_repeated_calls).prog 44) (kwd := []) TZ.ob_eq
    (by kernel_rfl) (fun s => by kernel_rfl) TZ.run (by kernel_rfl) (by kernel_rfl) (by kernel_rfl) (by rfl) (by first | assumption | decide +kernel) (by decide +kernel) ⟨rfl, rfl, rfl, rfl, rfl, by decide +kernel⟩ ?hw ?hc
  case hw => w_witness2
  case hc =>
    refine TC.walkZ (l := PySem.Challenge.rw_tapecounters_k08_repeated_calls) (k := 11) (by decide) rfl (by kernel_rfl) ?F
    intro w mg fa h Y G hmg0
    obtain ⟨K, KX, c, dk⟩ := Y
    have hmg : mg ("law" : PySem.Str) = some (.ref fa) := by
      have e : (HandSHeadRun.topDef (OpenLaw.row PySem.Challenge.rw_tapecounters_k08_repeated_calls).prog 44).name = ("law" : PySem.Str) := by kernel_rfl
      rw [← e]
      exact hmg0
    refine ⟨K, _, KX, fun P hP => ?_, TC.all_x KX G hmg c dk⟩
    obtain ⟨p, hp, rfl⟩ := List.mem_map.mp hP
    exact c.empty p hp
#print axioms PySem.Challenge.cw_tapecounters_k08_repeated_calls_holds
