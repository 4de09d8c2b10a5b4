import PyProof.Rows.All
import Wide.All
import OpenK.AllK
import Wide.FinOn
import KE.KStateDown
import Lean
import HandS.Head0
import HandS.Head1
import HandS.Head2
import HandS.HeadHook2
import HandS.Words
import PySem.Challenge.RW_watchfloor_k95_analysis_whole_sure_for_a
import PySem.Str
import HandS.ForMost
import HandS.Style
import HandS.IsInst
import HandS.Gcd
import HandS.NoneIn
import HandS.Defaults
import HandS.MakeKwOnly
import HandS.Exc
import HandS.TryOnly
import HandS.ExcOwn
import HandS.WordsExc
import PyProof.ExcBaseAll.ValueError
import HandS.Sort
import KE.KSortTupAny
import HandS.HeadEnd
/-! text H1 -/
section
set_option Elab.async false
set_option linter.all false
set_option maxRecDepth 100000
/-! the head of a program that begins with imports: one kernel run over the heap as a tree, from the very start -/
noncomputable section
namespace Hi
open PySem PySem.W PySem.Calls PyProof.Rows HandSHeadRun
section
variable (st : SharedT → Thread → Option (SharedT × Thread))
def goI : Nat → SharedT → Thread → Option SharedT
  | 0, _, _ => none
  | m + 1, s, t => match t.atExitBegin with
    | some [] => some s
    | some (_ :: _) => none
    | none => match st s t with
      | some (s', t') => frS s' fun s' => goI m s' t'
      | none => none
end
theorem goI_ok {tb : String → Option Builtin} {p : Program} {w : World} : ∀ {m : Nat} {s s' : SharedT} {t : Thread}, goI (stepT (denote tb) p w) m s t = some s' → importEnds tb p w m s.abs t = some s'.abs
  | 0, _, _, _, h => by cases h
  | m + 1, s, s', t, h => by
    unfold goI at h
    unfold importEnds
    cases ht : t.atExitBegin with
    | some l =>
      rw [ht] at h
      cases l with
      | nil =>
        cases h
        rfl
      | cons a b => cases h
    | none =>
      rw [ht] at h
      cases hs : stepT (denote tb) p w s t with
      | none =>
        rw [hs] at h
        cases h
      | some r =>
        obtain ⟨s2, t2⟩ := r
        rw [hs] at h
        have h3 : (frS s2 fun s' => goI (stepT (denote tb) p w) m s' t2) = some s' := h
        rw [frS_eq] at h3
        have q := goI_ok h3
        dsimp only
        rw [stepT_spec hs]
        exact q
/-- the start as a tree -/
def startT (p : Program) : SharedT := ⟨.nil, 0, (start p).1.heap.life, #[], (start p).1.drawn, (start p).1.toks, (start p).1.os⟩
theorem startT_abs (p : Program) : (startT p).abs = (start p).1 := rfl

/-! ### the fence off the tree -/
def boundG (g : Addr → Option Obj) (ns : Addr) (name : PySem.Str) : Option Value :=
  match g ns with
  | some o => match o.data with
    | .dict es _ => (es.find? (·.key.isStr name)).map (·.val)
    | _ => none
  | none => none
def fenceT (m : PySem.Str) (s : SharedT) : Option SharedT :=
  match boundG (getT s) sysModules m, tameNamesOf? m with
  | some (.ref a), some row => (match getT s a with
    | some o => (match o.dict with
      | some D => (match getT s D with
        | some od => (match fenceDict? m row od with
          | some od' => (match s.tree.get D with
            | some _ => some { s with tree := s.tree.set D fun _ => od' }
            | none => none)
          | none => none)
        | none => none)
      | none => none)
    | none => none)
  | _, _ => none
theorem fenceT_ok {m : PySem.Str} {s s' : SharedT} (h : fenceT m s = some s') : fenceModule? m s.abs = some s'.abs := by
  have eg : getT s = s.abs.heap.get? := funext (getT_eq s)
  unfold fenceT at h
  unfold fenceModule?
  rw [eg] at h
  have eb : boundG s.abs.heap.get? sysModules m = boundIn s.abs.heap sysModules m := rfl
  rw [eb] at h
  split at h
  · rename_i a row e1 e2
    rw [e1, e2]
    dsimp only
    split at h
    · rename_i o e3
      rw [e3]
      dsimp only
      split at h
      · rename_i D e4
        rw [e4]
        dsimp only
        split at h
        · rename_i od e5
          rw [e5]
          dsimp only
          split at h
          · rename_i od' e6
            rw [e6]
            split at h
            · rename_i x e7
              cases h
              show some _ = some _
              refine congrArg some ?_
              show ({ s.abs with heap := s.abs.heap.update D fun _ => od' } : Shared) = (⟨absHeap (s.tree.set D fun _ => od') s.n s.life, s.gens, s.drawn, s.toks, s.os⟩ : Shared)
              rw [absHeap_set e7]
              rfl
            · cases h
          · cases h
        · cases h
      · cases h
    · cases h
  · cases h
def fencesT : List PySem.Str → SharedT → Option SharedT
  | [], s => some s
  | m :: r, s => match fenceT m s with
    | some s' => fencesT r s'
    | none => none
theorem fencesT_ok : ∀ {ms : List PySem.Str} {s s' : SharedT}, fencesT ms s = some s' → fenceAll? ms s.abs = some s'.abs
  | [], s, s', h => by
    cases h
    rfl
  | m :: r, s, s', h => by
    unfold fencesT at h
    unfold fenceAll?
    cases e : fenceT m s with
    | none =>
      rw [e] at h
      cases h
    | some s2 =>
      rw [e] at h
      rw [fenceT_ok e]
      exact fencesT_ok (ms := r) h
/-! ### the whole run: the boot and the imports, the fence, the top -/
def annT (s : SharedT) : Option Value := (boundGN (getT s))
where boundGN (g : Addr → Option Obj) : Option Value := match g mainGlobals with
  | some o => (match o.data with | .dict es _ => nsFind es "__annotations__" | _ => none)
  | none => none
theorem annT_eq (s : SharedT) : annT s = s.abs.heap.nsMap mainGlobals "__annotations__" := by
  have eg : getT s = s.abs.heap.get? := funext (getT_eq s)
  unfold annT
  rw [eg]
  rfl
/-- st: a step of a program; M1, M: bounds of the steps -/
def allF (st : Program → SharedT → Thread → Option (SharedT × Thread)) (M1 M : Nat) (p : Program) : Option (SharedT × SharedT) :=
  match goI (st (opening p)) M1 (startT (opening p)) (start (opening p)).2 with
  | some s1 => (match fencesT (importedModules p.main.body) s1 with
    | some s2 => frS s2 fun s2 => (match goF (st p) s2.n (annT s2) M s2 (topStub p) with
      | some s3 => some (s2, s3)
      | none => none)
    | none => none)
  | none => none
def looksT (p : Program) (h0 h1 : Heap) (g0 : Array GenState) (s1 : Shared) : Bool := (h0.isNs mainGlobals && g0.size == 0) && (staticsOk (importedModules p.main.body) h0 h1 && namesBound p h1 && gensDone s1 && laidKept h0 h1)
theorem left_imp {p q : Program} {loose : List PySem.Str} {Xt : Shared → Bool} {α : Type} {Yf : Shared → α} {Ya : World → α} {N M1 M : Nat}
    (hnp : (p.main.body.any namesNumpy) = false) (le1 : Nat.ble M1 N = true) (le : Nat.ble M N = true)
    (run : ∀ w : World, (allF (fun p => stepT (denote treeTable) p w) M1 M p).map (fun r => (looksT p r.1.abs.heap r.2.abs.heap r.1.gens r.2.abs, openSeen q loose (importedModules p.main.body) Xt true r.2.abs, Yf r.2.abs)) = some (true, openGood q loose, Ya w)) :
    LeftO p q loose Xt Yf Ya N true := fun w => by
  obtain ⟨⟨s2, s3⟩, hr, hv⟩ := Option.map_eq_some_iff.mp (run w)
  obtain ⟨l1, l2, l3⟩ : _ ∧ _ ∧ _ := by simpa only [Prod.mk.injEq] using hv
  unfold allF at hr
  cases e1 : goI (stepT (denote treeTable) (opening p) w) M1 (startT (opening p)) (start (opening p)).2 with
  | none =>
    rw [e1] at hr
    cases hr
  | some s1 =>
    rw [e1] at hr
    dsimp only at hr
    cases e2 : fencesT (importedModules p.main.body) s1 with
    | none =>
      rw [e2] at hr
      cases hr
    | some s2' =>
      rw [e2] at hr
      dsimp only at hr
      rw [frS_eq] at hr
      cases e3 : goF (stepT (denote treeTable) p w) s2'.n (annT s2') M s2' (topStub p) with
      | none =>
        rw [e3] at hr
        cases hr
      | some s3' =>
        rw [e3] at hr
        obtain ⟨rfl, rfl⟩ : s2' = s2 ∧ s3' = s3 := by simpa using hr
        have i1 := goI_ok e1
        rw [startT_abs] at i1
        have i2 := importEnds_mono (N - M1) _ _ _ _ i1
        rw [show M1 + (N - M1) = N by have := Nat.le_of_ble_eq_true le1; omega] at i2
        have i3 := fencesT_ok e2
        have i4 : fenceModules? p s1.abs = some s2'.abs := by
          unfold fenceModules?
          rw [i3, hnp]
          rfl
        have r := topRun_mono (N - M) _ _ _ _ (goF_ok e3)
        rw [show M + (N - M) = N by have := Nat.le_of_ble_eq_true le; omega] at r
        have l1' : ((s2'.abs.heap.isNs mainGlobals && s2'.gens.size == 0) && (staticsOk (importedModules p.main.body) s2'.abs.heap s3'.abs.heap && namesBound p s3'.abs.heap && gensDone s3'.abs && laidKept s2'.abs.heap s3'.abs.heap)) = true := l1
        obtain ⟨l4, l5⟩ := Bool.and_eq_true_iff.mp l1'
        have l4' : (s2'.abs.heap.isNs mainGlobals && s2'.abs.gens.size == 0) = true := l4
        have sz : s2'.abs.heap.objs.size = s2'.n := absHeap_size _ _ _
        have t : topFrom treeTable p w N s2'.abs = some s3'.abs := by
          unfold topFrom
          rw [l4']
          dsimp only
          rw [sz, ← annT_eq, r]
          show (match staticsOk (importedModules p.main.body) s2'.abs.heap s3'.abs.heap && namesBound p s3'.abs.heap && gensDone s3'.abs && laidKept s2'.abs.heap s3'.abs.heap with | true => some s3'.abs | false => none) = _
          rw [l5]
        unfold openEnds fencedOpening
        rw [i2]
        show ((fenceModules? p s1.abs).bind (topFrom treeTable p w N)).map _ = _
        rw [i4]
        show (topFrom treeTable p w N s2'.abs).map _ = _
        rw [t]
        exact congrArg some (Prod.ext l2 l3)
def RunEqI (r : OpenRow) (q : Program) (H : Hook) (ob : SharedT → H.α) (M1 M : Nat) (loose : List PySem.Str) (w : World) : Prop :=
  (allF (fun p => stepQ (denQ tabQ) p w) M1 M r.prog).map (fun t => (looksT r.prog t.1.abs.heap t.2.abs.heap t.1.gens t.2.abs, seenQ q loose (importedModules r.prog.main.body) (fun s => xlAt q [] s && recOk r.toRowW.records s) t.2.abs, ob t.2)) = some (true, openGood q loose, H.val w)
theorem head_imp {r : OpenRow} {q : Program} {H : Hook} {ob : SharedT → H.α} {M1 M : Nat} {loose : List PySem.Str} {d : DefRec} {kwd : List (PySem.Str × PySem.Expr)} (ho : ∀ s : SharedT, ob s = H.obs s.abs)
    (hnp : (r.prog.main.body.any namesNumpy) = false) (run : ∀ w, RunEqI r q H ob M1 M loose w)
    (hdef : defOf q r.name = some (d, kwd)) (hp : r.prog.theDef r.name = some (d.params, d.body, d.scope)) (hk : kwWritten? d.params.kwonlyargs d.params.kw_defaults = some kwd)
    (hwr : (!r.writes || r.records.isEmpty) = true) (k1 : r.wellSaid = true) (ok : (chainsOk q && opensWell r.prog && (frees r.toRowW && r.within.isEmpty)) = true) (hb : r.prog.bare) (hw : r.toRowW.promised)
    (call : WalkO q loose (XL q []) H.says r.toRowW d kwd fun f vs => PySem.call f vs) : r.Holds := by
  have left : LeftO r.prog q loose (fun s => xlAt q [] s && recOk r.toRowW.records s) H.obs H.val (M + M1) true :=
    left_imp (M1 := M1) (M := M) hnp (Nat.ble_eq_true_of_le (by omega)) (Nat.ble_eq_true_of_le (by omega)) fun w => by
      have z := run w
      have eo : ob = fun s => H.obs s.abs := funext ho
      rw [eo] at z
      simp only [stepQ_eq, denQ_eq, tabQ_eq, seenQ_eq]
      exact z
  exact holds_open (r := r) (q := q) (loose := loose) (XP := XL q []) (YP := H.says) (d := d) (kwd := kwd) left H.of H.keeps (fun s z => xl_of s (Bool.and_eq_true_iff.mp z).1) XL.keeps hdef hp hk (fun s z => recFacts_of (Bool.and_eq_true_iff.mp z).2) hwr k1 ok hb hw call
end Hi
end
end
/-! text WY -/
section
set_option Elab.async false
set_option linter.all false
set_option maxRecDepth 100000
set_option maxHeartbeats 4000000
/-! What the head is asked for: printed by gen.py. -/
namespace WF
open PySem PySem.Spec PyProof.Rows L2
def topS (i : Nat) : Stmt := PySem.Challenge.pw_watchfloor_k95_analysis_whole_sure_for_a.main.body.getD i (.Pass ⟨0, 0, 0, 0⟩)
abbrev sInit : Stmt := inClass (topS 55) 0
/-- the default of setup's store -/
def stAt (K : PySem.W.Frag) : Addr := match K.lookup (He.fAd K ("setup", none)) with
  | some ⟨_, _, .func fd, _⟩ => (match fd.kwdefaults with
    | .ref D => (match PySem.W.nsIn K D "store" with
      | some (some (.ref a)) => a
      | _ => 0)
    | _ => 0)
  | _ => 0
def isLcm : Option (Option Value) → Bool
  | some (some (.builtin n)) => decide (n = "math.lcm")
  | _ => false
def tup4 (o : Option Obj) : Bool := match o with
  | some ⟨.type c, _, .seq its _, _⟩ => decide (c = "tuple") && (decide (its.size ≤ sizeLine) && He.relAll [V.int 0, V.int 10, V.int 2, V.int 0] its.toList)
  | _ => false
/-- lcm; the default of store -/
def exB (K : PySem.W.Frag) : Bool := isLcm (PySem.W.nsIn K mainGlobals "lcm") && tup4 (K.lookup (stAt K))
/-- the names of the defs -/
def fnNames : List Str := [("require" : Str), ("is_between" : Str), ("names_of" : Str), ("is_value" : Str), ("is_name" : Str), ("is_new_name" : Str), ("all_true" : Str), ("span_fits" : Str), ("layer_fits" : Str), ("standin_fits" : Str), ("schedule_fits" : Str), ("check_people" : Str), ("policy_fits" : Str), ("window_fits" : Str), ("label_fits" : Str), ("labels_fit" : Str), ("settings_fit" : Str), ("matcher_fits" : Str), ("matchers_fit" : Str), ("route_fits" : Str), ("holdback_fits" : Str), ("check_routes" : Str), ("store_fits" : Str), ("check_rest" : Str), ("_law_setup" : Str), ("entry_of" : Str), ("policy_of" : Str), ("schedule_of" : Str), ("period" : Str), ("settled" : Str), ("_horizon" : Str), ("value_of" : Str), ("matches" : Str), ("matches_all" : Str), ("_later" : Str), ("way" : Str), ("end_of" : Str), ("in_spans" : Str), ("window_of" : Str), ("is_muted" : Str), ("on_layer" : Str), ("on_call" : Str), ("channels_of" : Str), ("is_sure" : Str), ("plan" : Str), ("delay" : Str), ("slack" : Str), ("sure_limit" : Str), ("_law_labels" : Str), ("_law_words" : Str), ("_law_cell" : Str), ("_law_worths" : Str), ("_law_draws" : Str), ("_law_layer" : Str), ("_law_rota" : Str), ("_law_ladder" : Str), ("_law_shutter" : Str), ("_law_matcher" : Str), ("_law_route" : Str), ("_law_holds" : Str), ("_law_world" : Str), ("_law_rich" : Str), ("_law_value" : Str), ("_law_matches" : Str), ("_law_way" : Str), ("_law_find" : Str), ("_law_lcm" : Str), ("_law_period" : Str), ("_law_settled" : Str), ("_law_muted" : Str), ("_law_on" : Str), ("_law_is_bad" : Str), ("can_fail" : Str), ("is_forced" : Str), ("can_follow" : Str), ("_from_here" : Str), ("failing" : Str), ("first_due" : Str), ("can_begin" : Str), ("_pages" : Str), ("_script" : Str), ("can_precede" : Str), ("gap" : Str), ("law" : Str)]
def nmA (g : Addr → Option Obj) (x : Str) : List Addr := match Hi.boundG g mainGlobals x with
  | some (.ref a) => [a]
  | _ => []
def grow1 (g : Addr → Option Obj) (as : List Addr) : List Addr := as.flatMap fun a => match g a with
  | some o => He.refsD o
  | none => []
/-- the part of the heap that is looked at -/
def asX (g : Addr → Option Obj) : List Addr :=
  let fs := fnNames.flatMap (nmA g)
  let c0 := ([("Setup" : Str), ("PeriodTooLong" : Str), ("setup" : Str)]).flatMap (nmA g)
  let c1 := grow1 g c0
  let c2 := grow1 g c1
  let c3 := grow1 g c2
  mainGlobals :: (fs ++ (grow1 g fs ++ (c0 ++ (c1 ++ (c2 ++ c3)))))
def fnL : List He.DefD := [
  ⟨("require", none), "require", "require", defArgs (topS 58), defBody (topS 58), defScope (topS 58), [], []⟩,
  ⟨("is_between", none), "is_between", "is_between", defArgs (topS 35), defBody (topS 35), defScope (topS 35), [], []⟩,
  ⟨("names_of", none), "names_of", "names_of", defArgs (topS 56), defBody (topS 56), defScope (topS 56), [], []⟩,
  ⟨("is_value", none), "is_value", "is_value", defArgs (topS 22), defBody (topS 22), defScope (topS 22), [], []⟩,
  ⟨("is_name", none), "is_name", "is_name", defArgs (topS 23), defBody (topS 23), defScope (topS 23), [], []⟩,
  ⟨("is_new_name", none), "is_new_name", "is_new_name", defArgs (topS 57), defBody (topS 57), defScope (topS 57), [], []⟩,
  ⟨("all_true", none), "all_true", "all_true", defArgs (topS 36), defBody (topS 36), defScope (topS 36), [], []⟩,
  ⟨("span_fits", none), "span_fits", "span_fits", defArgs (topS 37), defBody (topS 37), defScope (topS 37), [], []⟩,
  ⟨("layer_fits", none), "layer_fits", "layer_fits", defArgs (topS 40), defBody (topS 40), defScope (topS 40), [], []⟩,
  ⟨("standin_fits", none), "standin_fits", "standin_fits", defArgs (topS 41), defBody (topS 41), defScope (topS 41), [], []⟩,
  ⟨("schedule_fits", none), "schedule_fits", "schedule_fits", defArgs (topS 42), defBody (topS 42), defScope (topS 42), [], []⟩,
  ⟨("check_people", none), "check_people", "check_people", defArgs (topS 59), defBody (topS 59), defScope (topS 59), [], []⟩,
  ⟨("policy_fits", none), "policy_fits", "policy_fits", defArgs (topS 43), defBody (topS 43), defScope (topS 43), [], []⟩,
  ⟨("window_fits", none), "window_fits", "window_fits", defArgs (topS 44), defBody (topS 44), defScope (topS 44), [], []⟩,
  ⟨("label_fits", none), "label_fits", "label_fits", defArgs (topS 38), defBody (topS 38), defScope (topS 38), [], []⟩,
  ⟨("labels_fit", none), "labels_fit", "labels_fit", defArgs (topS 39), defBody (topS 39), defScope (topS 39), [], []⟩,
  ⟨("settings_fit", none), "settings_fit", "settings_fit", defArgs (topS 47), defBody (topS 47), defScope (topS 47), [], []⟩,
  ⟨("matcher_fits", none), "matcher_fits", "matcher_fits", defArgs (topS 45), defBody (topS 45), defScope (topS 45), [], []⟩,
  ⟨("matchers_fit", none), "matchers_fit", "matchers_fit", defArgs (topS 46), defBody (topS 46), defScope (topS 46), [], []⟩,
  ⟨("route_fits", none), "route_fits", "route_fits", defArgs (topS 48), defBody (topS 48), defScope (topS 48), [], []⟩,
  ⟨("holdback_fits", none), "holdback_fits", "holdback_fits", defArgs (topS 49), defBody (topS 49), defScope (topS 49), [], []⟩,
  ⟨("check_routes", none), "check_routes", "check_routes", defArgs (topS 60), defBody (topS 60), defScope (topS 60), [], []⟩,
  ⟨("store_fits", none), "store_fits", "store_fits", defArgs (topS 52), defBody (topS 52), defScope (topS 52), [], []⟩,
  ⟨("check_rest", none), "check_rest", "check_rest", defArgs (topS 61), defBody (topS 61), defScope (topS 61), [], []⟩,
  ⟨("_law_setup", none), "_law_setup", "_law_setup", defArgs (topS 108), defBody (topS 108), defScope (topS 108), [], []⟩,
  ⟨("entry_of", none), "entry_of", "entry_of", defArgs (topS 63), defBody (topS 63), defScope (topS 63), [], []⟩,
  ⟨("policy_of", none), "policy_of", "policy_of", defArgs (topS 66), defBody (topS 66), defScope (topS 66), [], []⟩,
  ⟨("schedule_of", none), "schedule_of", "schedule_of", defArgs (topS 65), defBody (topS 65), defScope (topS 65), [], []⟩,
  ⟨("period", none), "period", "period", defArgs (topS 6), defBody (topS 6), defScope (topS 6), [], []⟩,
  ⟨("settled", none), "settled", "settled", defArgs (topS 5), defBody (topS 5), defScope (topS 5), [], []⟩,
  ⟨("_horizon", none), "_horizon", "_horizon", defArgs (topS 86), defBody (topS 86), defScope (topS 86), [], []⟩,
  ⟨("value_of", none), "value_of", "value_of", defArgs (topS 24), defBody (topS 24), defScope (topS 24), [], []⟩,
  ⟨("matches", none), "matches", "matches", defArgs (topS 25), defBody (topS 25), defScope (topS 25), [], []⟩,
  ⟨("matches_all", none), "matches_all", "matches_all", defArgs (topS 26), defBody (topS 26), defScope (topS 26), [], []⟩,
  ⟨("_later", none), "_later", "_later", defArgs (topS 82), defBody (topS 82), defScope (topS 82), [], []⟩,
  ⟨("way", none), "way", "way", defArgs (topS 83), defBody (topS 83), defScope (topS 83), [], []⟩,
  ⟨("end_of", none), "end_of", "end_of", defArgs (topS 84), defBody (topS 84), defScope (topS 84), [], []⟩,
  ⟨("in_spans", none), "in_spans", "in_spans", defArgs (topS 2), defBody (topS 2), defScope (topS 2), [], []⟩,
  ⟨("window_of", none), "window_of", "window_of", defArgs (topS 67), defBody (topS 67), defScope (topS 67), [], []⟩,
  ⟨("is_muted", none), "is_muted", "is_muted", defArgs (topS 69), defBody (topS 69), defScope (topS 69), [], []⟩,
  ⟨("on_layer", none), "on_layer", "on_layer", defArgs (topS 3), defBody (topS 3), defScope (topS 3), [], []⟩,
  ⟨("on_call", none), "on_call", "on_call", defArgs (topS 4), defBody (topS 4), defScope (topS 4), [], []⟩,
  ⟨("channels_of", none), "channels_of", "channels_of", defArgs (topS 64), defBody (topS 64), defScope (topS 64), [], []⟩,
  ⟨("is_sure", none), "is_sure", "is_sure", defArgs (topS 70), defBody (topS 70), defScope (topS 70), [], []⟩,
  ⟨("plan", none), "plan", "plan", defArgs (topS 71), defBody (topS 71), defScope (topS 71), [], []⟩,
  ⟨("delay", none), "delay", "delay", defArgs (topS 72), defBody (topS 72), defScope (topS 72), [], []⟩,
  ⟨("slack", none), "slack", "slack", defArgs (topS 74), defBody (topS 74), defScope (topS 74), [], []⟩,
  ⟨("sure_limit", none), "sure_limit", "sure_limit", defArgs (topS 87), defBody (topS 87), defScope (topS 87), [], []⟩,
  ⟨("_law_labels", none), "_law_labels", "_law_labels", defArgs (topS 100), defBody (topS 100), defScope (topS 100), [], []⟩,
  ⟨("_law_words", none), "_law_words", "_law_words", defArgs (topS 98), defBody (topS 98), defScope (topS 98), [], []⟩,
  ⟨("_law_cell", none), "_law_cell", "_law_cell", defArgs (topS 95), defBody (topS 95), defScope (topS 95), [], []⟩,
  ⟨("_law_worths", none), "_law_worths", "_law_worths", defArgs (topS 99), defBody (topS 99), defScope (topS 99), [], []⟩,
  ⟨("_law_draws", none), "_law_draws", "_law_draws", defArgs (topS 96), defBody (topS 96), defScope (topS 96), [], []⟩,
  ⟨("_law_layer", none), "_law_layer", "_law_layer", defArgs (topS 106), defBody (topS 106), defScope (topS 106), [], []⟩,
  ⟨("_law_rota", none), "_law_rota", "_law_rota", defArgs (topS 107), defBody (topS 107), defScope (topS 107), [], []⟩,
  ⟨("_law_ladder", none), "_law_ladder", "_law_ladder", defArgs (topS 109), defBody (topS 109), defScope (topS 109), [], []⟩,
  ⟨("_law_shutter", none), "_law_shutter", "_law_shutter", defArgs (topS 110), defBody (topS 110), defScope (topS 110), [], []⟩,
  ⟨("_law_matcher", none), "_law_matcher", "_law_matcher", defArgs (topS 101), defBody (topS 101), defScope (topS 101), [], []⟩,
  ⟨("_law_route", none), "_law_route", "_law_route", defArgs (topS 105), defBody (topS 105), defScope (topS 105), [], []⟩,
  ⟨("_law_holds", none), "_law_holds", "_law_holds", defArgs (topS 111), defBody (topS 111), defScope (topS 111), [], []⟩,
  ⟨("_law_world", none), "_law_world", "_law_world", defArgs (topS 112), defBody (topS 112), defScope (topS 112), [], []⟩,
  ⟨("_law_rich", none), "_law_rich", "_law_rich", defArgs (topS 119), defBody (topS 119), defScope (topS 119), [], []⟩,
  ⟨("_law_value", none), "_law_value", "_law_value", defArgs (topS 102), defBody (topS 102), defScope (topS 102), [], []⟩,
  ⟨("_law_matches", none), "_law_matches", "_law_matches", defArgs (topS 103), defBody (topS 103), defScope (topS 103), [], []⟩,
  ⟨("_law_way", none), "_law_way", "_law_way", defArgs (topS 104), defBody (topS 104), defScope (topS 104), [], []⟩,
  ⟨("_law_find", none), "_law_find", "_law_find", defArgs (topS 117), defBody (topS 117), defScope (topS 117), [], []⟩,
  ⟨("_law_lcm", none), "_law_lcm", "_law_lcm", defArgs (topS 114), defBody (topS 114), defScope (topS 114), [], []⟩,
  ⟨("_law_period", none), "_law_period", "_law_period", defArgs (topS 115), defBody (topS 115), defScope (topS 115), [], []⟩,
  ⟨("_law_settled", none), "_law_settled", "_law_settled", defArgs (topS 116), defBody (topS 116), defScope (topS 116), [], []⟩,
  ⟨("_law_muted", none), "_law_muted", "_law_muted", defArgs (topS 118), defBody (topS 118), defScope (topS 118), [], []⟩,
  ⟨("_law_on", none), "_law_on", "_law_on", defArgs (topS 113), defBody (topS 113), defScope (topS 113), [], []⟩,
  ⟨("_law_is_bad", none), "_law_is_bad", "_law_is_bad", defArgs (topS 120), defBody (topS 120), defScope (topS 120), [], []⟩,
  ⟨("can_fail", none), "can_fail", "can_fail", defArgs (topS 76), defBody (topS 76), defScope (topS 76), [], []⟩,
  ⟨("is_forced", none), "is_forced", "is_forced", defArgs (topS 75), defBody (topS 75), defScope (topS 75), [], []⟩,
  ⟨("can_follow", none), "can_follow", "can_follow", defArgs (topS 80), defBody (topS 80), defScope (topS 80), [], []⟩,
  ⟨("_from_here", none), "_from_here", "_from_here", defArgs (topS 89), defBody (topS 89), defScope (topS 89), [], []⟩,
  ⟨("failing", none), "failing", "failing", defArgs (topS 90), defBody (topS 90), defScope (topS 90), [], []⟩,
  ⟨("first_due", none), "first_due", "first_due", defArgs (topS 78), defBody (topS 78), defScope (topS 78), [], []⟩,
  ⟨("can_begin", none), "can_begin", "can_begin", defArgs (topS 79), defBody (topS 79), defScope (topS 79), [], []⟩,
  ⟨("_pages", none), "_pages", "_pages", defArgs (topS 91), defBody (topS 91), defScope (topS 91), [], []⟩,
  ⟨("_script", none), "_script", "_script", defArgs (topS 92), defBody (topS 92), defScope (topS 92), [], []⟩,
  ⟨("can_precede", none), "can_precede", "can_precede", defArgs (topS 77), defBody (topS 77), defScope (topS 77), [], []⟩,
  ⟨("gap", none), "gap", "gap", defArgs (topS 93), defBody (topS 93), defScope (topS 93), [], []⟩,
  ⟨("law", none), "law", "law", defArgs (topS 121), defBody (topS 121), defScope (topS 121), [], []⟩,
  ⟨("setup", none), "setup", "setup", defArgs (topS 62), defBody (topS 62), defScope (topS 62), [], [("store", .adr stAt)]⟩,
  ⟨("Setup", some "__init__"), "__init__", "Setup.__init__", defArgs sInit, defBody sInit, defScope sInit, [], []⟩]
def faL : List He.Fa := [.glo "require", .glo "is_between", .glo "names_of", .glo "is_value", .glo "is_name", .glo "is_new_name", .glo "all_true", .glo "span_fits", .glo "layer_fits", .glo "standin_fits", .glo "schedule_fits", .glo "check_people", .glo "policy_fits", .glo "window_fits", .glo "label_fits", .glo "labels_fit", .glo "settings_fit", .glo "matcher_fits", .glo "matchers_fit", .glo "route_fits", .glo "holdback_fits", .glo "check_routes", .glo "store_fits", .glo "check_rest", .glo "_law_setup", .glo "entry_of", .glo "policy_of", .glo "schedule_of", .glo "period", .glo "settled", .glo "_horizon", .glo "value_of", .glo "matches", .glo "matches_all", .glo "_later", .glo "way", .glo "end_of", .glo "in_spans", .glo "window_of", .glo "is_muted", .glo "on_layer", .glo "on_call", .glo "channels_of", .glo "is_sure", .glo "plan", .glo "delay", .glo "slack", .glo "sure_limit", .glo "_law_labels", .glo "_law_words", .glo "_law_cell", .glo "_law_worths", .glo "_law_draws", .glo "_law_layer", .glo "_law_rota", .glo "_law_ladder", .glo "_law_shutter", .glo "_law_matcher", .glo "_law_route", .glo "_law_holds", .glo "_law_world", .glo "_law_rich", .glo "_law_value", .glo "_law_matches", .glo "_law_way", .glo "_law_find", .glo "_law_lcm", .glo "_law_period", .glo "_law_settled", .glo "_law_muted", .glo "_law_on", .glo "_law_is_bad", .glo "can_fail", .glo "is_forced", .glo "can_follow", .glo "_from_here", .glo "failing", .glo "first_due", .glo "can_begin", .glo "_pages", .glo "_script", .glo "can_precede", .glo "gap", .glo "law", .glo "setup", .glo "Setup", .glo "PeriodTooLong", .cls "Setup", .mkr "Setup", .exc "PeriodTooLong", .exm "PeriodTooLong" "PeriodTooLong" true, .free "sorted", .free "len", .free "int", .free "any", .free "max", .free "min", .free "list", .free "tuple", .free "isinstance", .free "range", .free "enumerate", .free "bool", .noat "Setup" "week", .noat "Setup" "people", .noat "Setup" "schedules", .noat "Setup" "policies", .noat "Setup" "windows", .noat "Setup" "routes", .noat "Setup" "holdbacks", .noat "Setup" "groups", .noat "Setup" "replicas", .noat "Setup" "pause", .noat "Setup" "down", .noat "Setup" "store", .noat "Setup" "lookback", .int "MOST_PERIOD" 2000, .str "LETTERS" "abcdefghijklmnopqrstuvwxyz", .str "WORD_CHARS" "abcdefghijklmnopqrstuvwxyz0123456789_", .int "MOST_CHARS" 20, .int "LAST_TIME" 10000, .int "MOST_LABELS" 6, .str "RESERVED" "zzzzzzzzzzzzzzzzzzzz", .int "LONGEST_checks" 1000, .int "MOST" 6, .int "LONGEST_setup" 1000]
end WF
end
/-! text WZ1 -/
section
set_option Elab.async false
set_option linter.all false
set_option maxRecDepth 100000
set_option maxHeartbeats 0
/-! The head's run. -/
namespace WF
open PySem PySem.W PySem.Calls PyProof.Rows HandSHeadRun Hi
def hookE (as : (Addr → Option Obj) → List Addr) (fa : List He.Fa) (fn : List He.DefD) (ex : PySem.W.Frag → Bool) : PySem.W.Hook where
  α := He.AlD × Bool
  obs := fun s => (He.obsD fa fn (He.frG s.heap.get? (as s.heap.get?)), ex (He.frG s.heap.get? (as s.heap.get?)))
  val := fun _ => (He.valD fn, true)
  says := fun _ h => ∃ K : PySem.W.Frag, K.In h ∧ He.SaysD fa fn K ∧ ex K = true
  of := fun _ _ e => ⟨_, He.frG_in, congrArg (fun z : He.AlD × Bool => z.1) e, congrArg (fun z : He.AlD × Bool => z.2) e⟩
  keeps := fun _ _ _ ⟨K, hK, c⟩ k => ⟨K, PySem.W.Frag.In.keeps hK k, c⟩
abbrev R : OpenRow := OpenLaw.row PySem.Challenge.rw_watchfloor_k95_analysis_whole_sure_for_a
def names : List PySem.Str := R.prog.main.scope.names.filterMap fun y => match y.2 with
  | .local => (match decide (y.1 = ("law" : PySem.Str)) with | true => none | false => some y.1)
  | _ => none
abbrev qv : Program := view R.prog [121]
abbrev hk : PySem.W.Hook := hookE asX faL fnL exB
def ob (s : SharedT) : He.AlD × Bool := (He.obsD faL fnL (He.frG (getT s) (asX (getT s))), exB (He.frG (getT s) (asX (getT s))))
theorem ob_eq (s : SharedT) : ob s = hk.obs s.abs := by
  have e : getT s = s.abs.heap.get? := funext (getT_eq s)
  unfold ob
  rw [e]
  rfl
/-! The run three times, with one question each: a run with all three at once wants 1.7 GB more. -/
theorem map3 {A B C D : Type} {o : Option A} {f : A → B} {g : A → C} {h : A → D} {b : B} {c : C} {d : D} (p : o.map f = some b) (q : o.map g = some c) (r : o.map h = some d) : o.map (fun t => (f t, g t, h t)) = some (b, c, d) := by
  cases o with
  | none => cases p
  | some t =>
    cases p
    cases q
    cases r
    rfl
theorem run1 (w : World) : (allF (fun p => stepQ (denQ tabQ) p w) 3000 6000 R.prog).map (fun t => looksT R.prog t.1.abs.heap t.2.abs.heap t.1.gens t.2.abs) = some true := by
  kernel_rfl
theorem run2 (w : World) : (allF (fun p => stepQ (denQ tabQ) p w) 3000 6000 R.prog).map (fun t => seenQ qv names (importedModules R.prog.main.body) (fun s => xlAt qv [] s && recOk R.toRowW.records s) t.2.abs) = some (openGood qv names) := by
  kernel_rfl
theorem run3 (w : World) : (allF (fun p => stepQ (denQ tabQ) p w) 3000 6000 R.prog).map (fun t => ob t.2) = some (hk.val w) := by
  kernel_rfl
theorem run (w : World) : RunEqI R qv hk ob 3000 6000 names w := map3 (run1 w) (run2 w) (run3 w)
end WF
end
/-! text WD -/
section
set_option linter.all false
/-! Plain data, environments, and the combinators that a def's body is made of: pure Lean, no heap. -/
namespace WF
open PySem

inductive D where
  | non | bl (b : Bool) | int (i : Int) | str (x : Str)
  | lst (xs : List D) | tup (xs : List D)
  /-- a list of ints that stands locked (the script) -/
  | scr (ns : List Int)
  /-- an object: its attributes' names and values -/
  | obj (ns : List Str) (xs : List D)

/-- what a name holds: nothing, a value that may be shared, a list of one's own that may still grow -/
inductive Slot where
  | no | val (d : D) | own (ds : List D)
abbrev Env := List Slot
inductive Out where
  | nx (ρ : Env) | rt (d : D)
abbrev SE := Env → Option D
abbrev ST := Env → Option Bool
abbrev SA := Env → Option (List D)
abbrev SO := Env → Option (Option Int)
abbrev SG := D → Env → Option Env
abbrev SS := Env → Option Out

/-! ### values -/
def atD {α : Type} (xs : List α) (i : Int) : Option α :=
  if 0 ≤ i then xs[i.toNat]? else if -(xs.length : Int) ≤ i then xs[(i + xs.length).toNat]? else none
def sIx (n d : Nat) : Option Int → Nat
  | none => d
  | some v => if v < 0 then (v + (n : Int)).toNat else min v.toNat n
def cutD {α : Type} (xs : List α) (lo hi : Option Int) : List α := (xs.drop (sIx xs.length 0 lo)).take (sIx xs.length xs.length hi - sIx xs.length 0 lo)
def big : Nat := 100000
def small64 (i : Int) : Bool := decide (-(2 ^ 64) < i) && decide (i < 2 ^ 64)
def small62 (i : Int) : Bool := decide (-(2 ^ 62) ≤ i) && decide (i < 2 ^ 62)

inductive Bop where | add | sub | mul | fdiv | mod | pow
@[simp] def binD : Bop → D → D → Option D
  | .add, .int i, .int j => some (.int (i + j))
  | .add, .str x, .str y => if x.length + y.length ≤ big then some (.str (x ++ y)) else none
  | .add, .lst xs, .lst ys => if xs.length + ys.length ≤ big then some (.lst (xs ++ ys)) else none
  | .sub, .int i, .int j => some (.int (i - j))
  | .mul, .int i, .int j => if small64 i || small64 j then some (.int (i * j)) else none
  | .fdiv, .int i, .int j => if 0 < j ∧ j < 1073741824 then some (.int (i / j)) else none
  | .mod, .int i, .int j => if 0 < j then some (.int (i % j)) else none
  | .pow, .int i, .int j => if 0 ≤ j ∧ j ≤ 1000000 ∧ i.natAbs < 2 ^ 64 then some (.int (i ^ j.toNat)) else none
  | _, _, _ => none

inductive Cop where | eq | ne | lt | le | gt | ge | is | isNot | inn | notIn
@[simp] def eqD : D → D → Option Bool
  | .non, .non => some true
  | .non, .int _ => some false | .int _, .non => some false | .non, .bl _ => some false | .bl _, .non => some false | .non, .str _ => some false | .str _, .non => some false
  | .int i, .int j => some (decide (i = j)) | .bl a, .bl b => some (decide (a = b)) | .str x, .str y => some (decide (x = y))
  | .int _, .str _ => some false | .str _, .int _ => some false | .bl _, .str _ => some false | .str _, .bl _ => some false
  | _, _ => none
@[simp] def strsOf : List D → Option (List Str)
  | [] => some []
  | .str x :: r => (strsOf r).map (x :: ·)
  | _ => none
@[simp] def blsOf : List D → Option (List Bool)
  | [] => some []
  | .bl x :: r => (blsOf r).map (x :: ·)
  | _ => none
@[simp] def intsOf : List D → Option (List Int)
  | [] => some []
  | .int x :: r => (intsOf r).map (x :: ·)
  | _ => none
@[simp] def inD : D → D → Option Bool
  | .str x, .lst ds => (strsOf ds).map fun l => decide (x ∈ l)
  | .str x, .tup ds => (strsOf ds).map fun l => decide (x ∈ l)
  | .str x, .str z => match x.cps.toList with
    | [c] => some (decide (c ∈ z.cps.toList))
    | _ => none
  | _, _ => none
@[simp] def isNon : D → Bool
  | .non => true
  | _ => false
@[simp] def cmpD : Cop → D → D → Option Bool
  | .eq, x, y => eqD x y
  | .ne, x, y => (eqD x y).map (!·)
  | .lt, .int i, .int j => some (decide (i < j))
  | .le, .int i, .int j => some (decide (i ≤ j))
  | .gt, .int i, .int j => some (decide (j < i))
  | .ge, .int i, .int j => some (decide (j ≤ i))
  | .is, x, .non => some (isNon x)
  | .isNot, x, .non => some (!isNon x)
  | .inn, x, y => inD x y
  | .notIn, x, y => (inD x y).map (!·)
  | _, _, _ => none
@[simp] def truD : D → Option Bool
  | .non => some false
  | .bl b => some b
  | .int i => some (i != 0)
  | .lst xs => some (!xs.isEmpty)
  | .tup xs => some (!xs.isEmpty)
  | _ => none

inductive Blt where | len | int | any | max | min | list | tuple | lcm | isInt | isBool
def maxI : Int → List Int → Int
  | m, [] => m
  | m, x :: r => maxI (if m < x then x else m) r
def minI : Int → List Int → Int
  | m, [] => m
  | m, x :: r => minI (if x < m then x else m) r
@[simp] def bltD : Blt → List D → Option D
  | .len, [.str z] => if z.length ≤ big then some (.int (z.length : Nat)) else none
  | .len, [.lst ds] => some (.int (ds.length : Nat))
  | .len, [.tup ds] => some (.int (ds.length : Nat))
  | .len, [.scr ns] => some (.int (ns.length : Nat))
  | .int, [.int i] => some (.int i)
  | .int, [.bl b] => some (.int (if b = true then 1 else 0))
  | .any, [.lst ds] => (blsOf ds).map fun l => .bl (l.any id)
  | .max, [.int i, .int j] => some (.int (if j > i then j else i))
  | .max, [.lst ds] => match intsOf ds with
    | some (x :: r) => some (.int (maxI x r))
    | _ => none
  | .min, [.lst ds] => match intsOf ds with
    | some (x :: r) => some (.int (minI x r))
    | _ => none
  | .list, [.lst ds] => some (.lst ds)
  | .list, [.tup ds] => some (.lst ds)
  | .tuple, [.lst ds] => some (.tup ds)
  | .tuple, [.tup ds] => some (.tup ds)
  | .lcm, [.int a, .int b] => if a.natAbs < 2 ^ 64 ∧ b.natAbs < 2 ^ 64 then some (.int (Nat.lcm a.natAbs b.natAbs : Nat)) else none
  | .isInt, [.int _] => some (.bl true)
  | .isInt, [.non] => some (.bl false)
  | .isBool, [.int _] => some (.bl false)
  | .isBool, [.non] => some (.bl false)
  | _, _ => none
@[simp] def ixD : D → D → Option D
  | .lst ds, .int i => atD ds i
  | .tup ds, .int i => atD ds i
  | .scr ns, .int i => (atD ns i).map .int
  | .str z, .int i => if z.length ≤ big then (atD z.cps.toList i).map fun c => .str ⟨#[c]⟩ else none
  | _, _ => none
def cutS (z : Str) (lo hi : Option Int) : Str := ⟨(cutD z.cps.toList lo hi).toArray⟩
@[simp] def slD : D → Option Int → Option Int → Option D
  | .lst ds, lo, hi => some (.lst (cutD ds lo hi))
  | .tup ds, lo, hi => if sIx ds.length 0 lo = 0 ∧ sIx ds.length ds.length hi = ds.length then none else some (.tup (cutD ds lo hi))
  | .str z, lo, hi => if z.length ≤ big then some (.str (cutS z lo hi)) else none
  | _, _, _ => none
@[simp] def fldD : D → Str → Option D
  | .obj ns ds, f => (ns.zip ds).lookup f
  | _, _ => none

/-! ### expressions -/
@[simp] def eCon (d : D)  (_ : Env) : Option D := some d
@[simp] def eVar (i : Nat)  (ρ : Env) : Option D := match ρ[i]? with
  | some (.val d) => some d
  | _ => none
/-- read in passing: a list of one's own stays one's own -/
@[simp] def bVar (i : Nat)  (ρ : Env) : Option D := match ρ[i]? with
  | some (.val d) => some d
  | some (.own ds) => some (.lst ds)
  | _ => none
@[simp] def eBin (o : Bop) (a b : SE)  (ρ : Env) : Option D := (a ρ).bind fun x => (b ρ).bind fun y => binD o x y
@[simp] def tCmp (o : Cop) (a b : SE)  (ρ : Env) : Option Bool := (a ρ).bind fun x => (b ρ).bind fun y => cmpD o x y
/-- a comparison with one more behind it: the test of the first, then the rest from the middle one's value -/
@[simp] def tChain (o : Cop) (a b : SE) (k : D → ST)  (ρ : Env) : Option Bool := (a ρ).bind fun x => (b ρ).bind fun y => (cmpD o x y).bind fun c => if c = true then k y ρ else some false
@[simp] def tLast (o : Cop) (b : SE)  (x : D) (ρ : Env) : Option Bool := (b ρ).bind fun y => cmpD o x y
@[simp] def tMid (o : Cop) (b : SE) (k : D → ST)  (x : D) (ρ : Env) : Option Bool := (b ρ).bind fun y => (cmpD o x y).bind fun c => if c = true then k y ρ else some false
@[simp] def eTest (t : ST)  (ρ : Env) : Option D := (t ρ).map .bl
@[simp] def tVal (e : SE)  (ρ : Env) : Option Bool := (e ρ).bind truD
@[simp] def tBl (e : SE)  (ρ : Env) : Option Bool := (e ρ).bind fun d => match d with
  | .bl b => some b
  | _ => none
@[simp] def tAnd (a b : ST)  (ρ : Env) : Option Bool := (a ρ).bind fun c => if c = true then b ρ else some false
@[simp] def tOr (a b : ST)  (ρ : Env) : Option Bool := (a ρ).bind fun c => if c = true then some true else b ρ
@[simp] def tNot (a : ST)  (ρ : Env) : Option Bool := (a ρ).map (!·)
@[simp] def eAnd (a b : SE)  (ρ : Env) : Option D := (a ρ).bind fun d => match d with
  | .bl c => if c = true then b ρ else some (.bl false)
  | _ => none
@[simp] def eOr (a b : SE)  (ρ : Env) : Option D := (a ρ).bind fun d => match d with
  | .bl c => if c = true then some (.bl true) else b ρ
  | _ => none
@[simp] def eNot (a : SE)  (ρ : Env) : Option D := (a ρ).bind fun d => match d with
  | .bl c => some (.bl (!c))
  | _ => none
@[simp] def eNeg (a : SE)  (ρ : Env) : Option D := (a ρ).bind fun d => match d with
  | .int i => some (.int (-i))
  | _ => none
@[simp] def aNil  (_ : Env) : Option (List D) := some []
@[simp] def aCons (e : SE) (r : SA)  (ρ : Env) : Option (List D) := (e ρ).bind fun d => (r ρ).map (d :: ·)
@[simp] def eLst (es : SA)  (ρ : Env) : Option D := (es ρ).bind fun ds => if ds.length ≤ big then some (.lst ds) else none
@[simp] def eTup (es : SA)  (ρ : Env) : Option D := (es ρ).bind fun ds => if ds.length ≤ big then some (.tup ds) else none
@[simp] def eBlt (f : Blt) (es : SA)  (ρ : Env) : Option D := (es ρ).bind (bltD f)
@[simp] def eCall (f : List D → Option D) (es : SA)  (ρ : Env) : Option D := (es ρ).bind f
@[simp] def eIx (a b : SE)  (ρ : Env) : Option D := (a ρ).bind fun x => (b ρ).bind fun y => ixD x y
@[simp] def oNone  (_ : Env) : Option (Option Int) := some none
@[simp] def oSome (e : SE)  (ρ : Env) : Option (Option Int) := (e ρ).bind fun d => match d with
  | .int i => some (some i)
  | _ => none
@[simp] def eSl (a : SE) (lo hi : SO)  (ρ : Env) : Option D := (a ρ).bind fun x => (lo ρ).bind fun l => (hi ρ).bind fun h => slD x l h
@[simp] def eRev (a : SE)  (ρ : Env) : Option D := (a ρ).bind fun x => match x with
  | .lst ds => some (.lst ds.reverse)
  | _ => none
@[simp] def eFld (a : SE) (f : Str)  (ρ : Env) : Option D := (a ρ).bind fun x => fldD x f
/-! ### what is walked -/
def upTo (lo : Int) (n : Nat) : List D := (List.range n).map fun (k : Nat) => .int (lo + (k : Int))
def byStep (lo c : Int) (n : Nat) : List D := (List.range n).map fun (k : Nat) => .int (lo + (k : Int) * c)
@[simp] def seqD : D → Option (List D)
  | .lst ds => some ds
  | .tup ds => some ds
  | .scr ns => some (ns.map .int)
  | .str z => some (z.cps.toList.map fun c => .str ⟨#[c]⟩)
  | _ => none
def enumFrom : Nat → List D → List D
  | _, [] => []
  | k, d :: r => .tup [.int (k : Nat), d] :: enumFrom (k + 1) r
@[simp] def iSeq (e : SE)  (ρ : Env) : Option (List D) := (e ρ).bind seqD
@[simp] def iEnum (e : SE)  (ρ : Env) : Option (List D) := (e ρ).bind fun d => match d with
  | .lst ds => some (enumFrom 0 ds)
  | _ => none
@[simp] def rng1 : List D → Option (List D)
  | [.int j] => if small62 j then some (upTo 0 j.toNat) else none
  | _ => none
@[simp] def rng2 : List D → Option (List D)
  | [.int i, .int j] => if small62 i && small62 j then some (upTo i (j - i).toNat) else none
  | _ => none
@[simp] def rng3 : List D → Option (List D)
  | [.int i, .int j, .int c] => if small62 i && small62 j then
      (if c = -1 then some (byStep i (-1) (i - j).toNat) else if c = 2 ∧ i = 0 ∧ j = 5 then some (byStep 0 2 3) else none) else none
  | _ => none
@[simp] def iRng (f : List D → Option (List D)) (es : SA)  (ρ : Env) : Option (List D) := (es ρ).bind f
/-! ### targets -/
@[simp] def gName (i : Nat)  (d : D) (ρ : Env) : Option Env := some (ρ.set i (.val d))
@[simp] def setAll : List Nat → List D → Env → Option Env
  | [], [], ρ => some ρ
  | i :: is, d :: ds, ρ => setAll is ds (ρ.set i (.val d))
  | _, _, _ => none
@[simp] def gTup (is : List Nat)  (d : D) (ρ : Env) : Option Env := match d with
  | .tup ds => setAll is ds ρ
  | _ => none
/-! ### comprehensions -/
@[simp] def wipeE (ρ : Env) : List Nat → Env
  | [] => ρ
  | v :: vs => (wipeE ρ vs).set v .no
def compLoop (f : D → Option (Option D)) : List D → Option (List D)
  | [] => some []
  | x :: r => (f x).bind fun y => match y with
    | some d => (compLoop f r).map (d :: ·)
    | none => compLoop f r
def compTurn (g : SG) (t : ST) (e : SE) (vs : List Nat) (ρ : Env) (d : D) : Option (Option D) :=
  (g d (wipeE ρ vs)).bind fun ρ' => (t ρ').bind fun c => if c = true then (e ρ').map some else some none
@[simp] def tYes  (_ : Env) : Option Bool := some true
def eComp (vs : List Nat) (g : SG) (it : SA) (t : ST) (e : SE)  (ρ : Env) : Option D :=
  (it ρ).bind fun ds => if ds.length ≤ big then (compLoop (compTurn g t e vs ρ) ds).map .lst else none
/-! ### statements -/
@[simp] def frz1 (ρ : Env) (i : Nat) : Env := match ρ[i]? with
  | some (.own ds) => ρ.set i (.val (.lst ds))
  | _ => ρ
@[simp] def frz (is : List Nat) (ρ : Env) : Env := is.foldl frz1 ρ
/-- lists of one's own that the statement hands on are one's own no more -/
@[simp] def sFrz (is : List Nat) (s : SS)  (ρ : Env) : Option Out := s (frz is ρ)
@[simp] def sAsg (g : SG) (e : SE)  (ρ : Env) : Option Out := (e ρ).bind fun d => (g d ρ).map .nx
@[simp] def sOwn (i : Nat) (es : SA)  (ρ : Env) : Option Out := (es ρ).bind fun ds => if ds.length ≤ big then some (.nx (ρ.set i (.own ds))) else none
@[simp] def sApp (i : Nat) (e : SE)  (ρ : Env) : Option Out := (e ρ).bind fun d => match ρ[i]? with
  | some (.own ds) => if ds.length < big then some (.nx (ρ.set i (.own (ds ++ [d])))) else none
  | _ => none
@[simp] def sDrop (e : SE)  (ρ : Env) : Option Out := (e ρ).map fun _ => .nx ρ
@[simp] def sRet (e : SE)  (ρ : Env) : Option Out := (e ρ).map .rt
@[simp] def sRetN  (_ : Env) : Option Out := some (.rt .non)
@[simp] def sNext  (ρ : Env) : Option Out := some (.nx ρ)
@[simp] def sFail  (_ : Env) : Option Out := none
@[simp] def andThen (o : Out) (s : SS) : Option Out := match o with
  | .nx ρ => s ρ
  | .rt d => some (.rt d)
@[simp] def sSeq (a b : SS)  (ρ : Env) : Option Out := (a ρ).bind fun o => andThen o b
@[simp] def sIf (t : ST) (a b : SS)  (ρ : Env) : Option Out := (t ρ).bind fun c => if c = true then a ρ else b ρ
def forLoop (f : D → SS) : List D → SS
  | [], ρ => some (.nx ρ)
  | d :: r, ρ => (f d ρ).bind fun o => andThen o (forLoop f r)
/-- one turn: the target, then the body -/
def forTurn (g : SG) (s : SS) (d : D) (ρ : Env) : Option Out := (g d ρ).bind s
@[simp] def sFor (g : SG) (it : SA) (s : SS)  (ρ : Env) : Option Out := (it ρ).bind fun ds => forLoop (forTurn g s) ds ρ
def whileLoop (t : ST) (s : SS) : Nat → SS
  | 0, _ => none
  | n + 1, ρ => (t ρ).bind fun c => if c = true then (s ρ).bind fun o => andThen o (whileLoop t s n) else some (.nx ρ)
def whileFuel : Nat := 1000
def sWhile (t : ST) (s : SS) : SS := whileLoop t s whileFuel
/-! ### defs -/
def entry (N : Nat) (args : List D) : Env := args.map .val ++ List.replicate (N - args.length) .no
@[simp] def finD : Option Out → Option D
  | some (.rt d) => some d
  | some (.nx _) => some .non
  | none => none
/-- a def of p parameters and N names in all -/
def runD (N p : Nat) (s : SS) (args : List D) : Option D := if args.length = p then finD (s (entry N args)) else none
end WF
end
/-! text WS1 -/
section
set_option Elab.async false
set_option linter.all false
set_option maxRecDepth 100000
set_option maxHeartbeats 4000000
/-! What the plain data stand for in the abstract heap. -/
namespace WF
open PySem PySem.Spec PyProof.Rows L2
theorem upd_cases {H : Hp} {a b : Addr} {o : HO} {x : Option HO} (h : upd H a o b = x) : (b = a ∧ x = some o) ∨ (b ≠ a ∧ H b = x) := by
  by_cases e : b = a
  · subst e
    rw [upd_same] at h
    exact .inl ⟨rfl, h.symm⟩
  · rw [upd_ne e] at h
    exact .inr ⟨e, h⟩
theorem same_new {H : Hp} {p : Addr} {o : HO} (h : H p = none) : Same H (upd H p o) := fun a u e => by
  rw [upd_ne (ne_of_none e h)]
  exact e
theorem same_back {H H' : Hp} {p : Addr} (e : Same H H') (h : H' p = none) : H p = none := e.free h
theorem rd_mono {H H' : Hp} {a : Addr} {u : HO} (e : Same H H') (h : Rd H a u) : Rd H' a u := by
  rcases h with h | ⟨o, h⟩
  · exact .inl (e a _ h)
  · exact .inr ⟨o, e a _ h⟩
theorem sqt_mono {K : PySem.W.Frag} {H H' : Hp} {a : Addr} {xs : List V} (e : Same H H') (h : SqT K H a xs) : SqT K H' a xs := by
  rcases h with h | h
  · exact .inl (rd_mono e h)
  · exact .inr h

mutual
inductive Rep (K : PySem.W.Frag) (C : Addr) (H : Hp) : V → D → Prop where
  | non : Rep K C H .non .non
  | bl (b : Bool) : Rep K C H (.bl b) (.bl b)
  | int (i : Int) : Rep K C H (.int i) (.int i)
  | str (x : Str) : Rep K C H (.str x) (.str x)
  | lst {a : Addr} {xs : List V} {ds : List D} (h : H a = some (.lst xs)) (r : Reps K C H xs ds) : Rep K C H (.ref a) (.lst ds)
  | tup {a : Addr} {xs : List V} {ds : List D} (h : SqT K H a xs) (r : Reps K C H xs ds) : Rep K C H (.ref a) (.tup ds)
  | scr {a : Addr} {ns : List Int} (h : SqL K H a (ns.map V.int)) : Rep K C H (.ref a) (.scr ns)
  | obj {a dx : Addr} {fs : List (Str × V)} {ds : List D} (h : H a = some (.ins C dx fs)) (r : Reps K C H (fs.map (·.2)) ds) : Rep K C H (.ref a) (.obj (fs.map (·.1)) ds)
inductive Reps (K : PySem.W.Frag) (C : Addr) (H : Hp) : List V → List D → Prop where
  | nil : Reps K C H [] []
  | cons {v : V} {d : D} {vs : List V} {ds : List D} (h : Rep K C H v d) (t : Reps K C H vs ds) : Reps K C H (v :: vs) (d :: ds)
end
section
variable {K : PySem.W.Frag} {C : Addr} {H H' : Hp}
mutual
theorem Rep.mono (e : Same H H') : ∀ {v : V} {d : D}, Rep K C H v d → Rep K C H' v d
  | _, _, .non => .non
  | _, _, .bl b => .bl b
  | _, _, .int i => .int i
  | _, _, .str x => .str x
  | _, _, .lst h r => .lst (e _ _ h) (Reps.mono e r)
  | _, _, .tup h r => .tup (sqt_mono e h) (Reps.mono e r)
  | _, _, .scr h => .scr (e.seq h)
  | _, _, .obj h r => .obj (e _ _ h) (Reps.mono e r)
theorem Reps.mono (e : Same H H') : ∀ {vs : List V} {ds : List D}, Reps K C H vs ds → Reps K C H' vs ds
  | _, _, .nil => .nil
  | _, _, .cons h t => .cons (Rep.mono e h) (Reps.mono e t)
end
theorem Reps.length : ∀ {vs : List V} {ds : List D}, Reps K C H vs ds → vs.length = ds.length
  | _, _, .nil => rfl
  | _, _, .cons _ t => by rw [List.length_cons, List.length_cons, Reps.length t]
theorem Reps.get : ∀ {vs : List V} {ds : List D} {i : Nat} {d : D}, Reps K C H vs ds → ds[i]? = some d → ∃ v, vs[i]? = some v ∧ Rep K C H v d
  | _, _, _, _, .nil, e => by simp at e
  | _, _, 0, _, .cons h _, e => by
    simp at e
    subst e
    exact ⟨_, rfl, h⟩
  | _, _, i + 1, d, .cons _ t, e => by
    obtain ⟨v, h1, h2⟩ := Reps.get (i := i) (d := d) t (by simpa using e)
    exact ⟨v, by simpa using h1, h2⟩
theorem Reps.getV : ∀ {vs : List V} {ds : List D} {i : Nat} {v : V}, Reps K C H vs ds → vs[i]? = some v → ∃ d, ds[i]? = some d ∧ Rep K C H v d
  | _, _, _, _, .nil, e => by simp at e
  | _, _, 0, _, .cons h _, e => by
    simp at e
    subst e
    exact ⟨_, rfl, h⟩
  | _, _, i + 1, d, .cons _ t, e => by
    obtain ⟨v, h1, h2⟩ := Reps.getV (i := i) (v := d) t (by simpa using e)
    exact ⟨v, by simpa using h1, h2⟩
theorem Reps.append : ∀ {vs ws : List V} {ds es : List D}, Reps K C H vs ds → Reps K C H ws es → Reps K C H (vs ++ ws) (ds ++ es)
  | _, _, _, _, .nil, s => s
  | _, _, _, _, .cons h t, s => .cons h (Reps.append t s)
theorem Reps.take : ∀ {vs : List V} {ds : List D} (n : Nat), Reps K C H vs ds → Reps K C H (vs.take n) (ds.take n)
  | _, _, 0, _ => .nil
  | _, _, _ + 1, .nil => .nil
  | _, _, n + 1, .cons h t => .cons h (Reps.take n t)
theorem Reps.drop : ∀ {vs : List V} {ds : List D} (n : Nat), Reps K C H vs ds → Reps K C H (vs.drop n) (ds.drop n)
  | _, _, 0, r => r
  | _, _, _ + 1, .nil => .nil
  | _, _, n + 1, .cons _ t => Reps.drop n t
theorem Reps.rev {vs : List V} {ds : List D} (r : Reps K C H vs ds) : Reps K C H vs.reverse ds.reverse := by
  induction vs generalizing ds with
  | nil =>
    cases r
    exact .nil
  | cons v vs ih =>
    cases r with
    | cons h t =>
      rw [List.reverse_cons, List.reverse_cons]
      exact (ih t).append (.cons h .nil)
theorem Reps.ints : ∀ {vs : List V} {ds : List D} {ns : List Int}, Reps K C H vs ds → intsOf ds = some ns → vs = ns.map V.int
  | _, _, ns, .nil, e => by
    cases e
    rfl
  | _, d :: ds, ns, .cons h t, e => by
    cases h with
    | int i =>
      have e2 : (intsOf ds).map (i :: ·) = some ns := e
      cases q : intsOf ds with
      | none =>
        rw [q] at e2
        cases e2
      | some l =>
        rw [q] at e2
        cases e2
        rw [List.map_cons, ← Reps.ints t q]
    | _ => cases e
theorem Reps.bls : ∀ {vs : List V} {ds : List D} {ns : List Bool}, Reps K C H vs ds → blsOf ds = some ns → vs = ns.map V.bl
  | _, _, ns, .nil, e => by
    cases e
    rfl
  | _, d :: ds, ns, .cons h t, e => by
    cases h with
    | bl i =>
      have e2 : (blsOf ds).map (i :: ·) = some ns := e
      cases q : blsOf ds with
      | none =>
        rw [q] at e2
        cases e2
      | some l =>
        rw [q] at e2
        cases e2
        rw [List.map_cons, ← Reps.bls t q]
    | _ => cases e
theorem Reps.strs : ∀ {vs : List V} {ds : List D} {ns : List Str}, Reps K C H vs ds → strsOf ds = some ns → vs = ns.map V.str
  | _, _, ns, .nil, e => by
    cases e
    rfl
  | _, d :: ds, ns, .cons h t, e => by
    cases h with
    | str i =>
      have e2 : (strsOf ds).map (i :: ·) = some ns := e
      cases q : strsOf ds with
      | none =>
        rw [q] at e2
        cases e2
      | some l =>
        rw [q] at e2
        cases e2
        rw [List.map_cons, ← Reps.strs t q]
    | _ => cases e
theorem Reps.of_ints (ns : List Int) : Reps K C H (ns.map V.int) (ns.map D.int) := by
  induction ns with
  | nil => exact .nil
  | cons n ns ih => exact .cons (.int n) ih
end

/-- the frozen part and the whole heap: both have grown, what is new in the frozen part is new in the whole -/
structure Grow (Hs H Hs' H' : Hp) : Prop where
  s : Same Hs Hs'
  h : Same H H'
  sub : Same Hs' H'
  fresh : ∀ a, H a ≠ none → Hs' a = Hs a
theorem Grow.refl {Hs H : Hp} (e : Same Hs H) : Grow Hs H Hs H := ⟨.refl _, .refl _, e, fun _ _ => rfl⟩
theorem Grow.trans {Hs H Hs1 H1 Hs2 H2 : Hp} (a : Grow Hs H Hs1 H1) (b : Grow Hs1 H1 Hs2 H2) : Grow Hs H Hs2 H2 := ⟨a.s.trans b.s, a.h.trans b.h, b.sub, fun x hx => by
  rw [b.fresh x, a.fresh x hx]
  intro e
  exact hx (same_back a.h e)⟩
theorem same_upd {Hs H : Hp} {p : Addr} {o : HO} (e : Same Hs H) : Same (upd Hs p o) (upd H p o) := fun a u q => by
  rcases upd_cases q with ⟨z, q2⟩ | ⟨ne, q2⟩
  · rw [z, upd_same]
    exact q2.symm
  · rw [upd_ne ne]
    exact e a u q2
theorem Grow.new {Hs H : Hp} {p : Addr} {o : HO} (e : Same Hs H) (h : H p = none) : Grow Hs H (upd Hs p o) (upd H p o) := ⟨same_new (same_back e h), same_new h, same_upd e, fun a ha => by
  rw [upd_ne fun z => ha (by rw [z]; exact h)]⟩

/-- the names' values: H0 the heap at the def's entry, Hs the frozen part -/
structure StOk (K : PySem.W.Frag) (C : Addr) (H0 : Hp) (σ : L2.St) (Hs H : Hp) (ρ : Env) : Prop where
  sub : Same Hs H
  len : σ.length = ρ.length
  val : ∀ (i : Nat) (d : D), ρ[i]? = some (Slot.val d) → ∃ v, σ[i]? = some (some v) ∧ Rep K C Hs v d
  own : ∀ (i : Nat) (ds : List D), ρ[i]? = some (Slot.own ds) → ∃ a xs, σ[i]? = some (some (V.ref a)) ∧ H0 a = none ∧ Hs a = none ∧ H a = some (.lst xs) ∧ Reps K C Hs xs ds
  dist : ∀ (i j : Nat) (ds es : List D) (a : Addr), ρ[i]? = some (Slot.own ds) → ρ[j]? = some (Slot.own es) → σ[i]? = some (some (V.ref a)) → σ[j]? = some (some (V.ref a)) → i = j
section
variable {K : PySem.W.Frag} {C : Addr} {H0 Hs H Hs' H' : Hp} {σ : L2.St} {ρ : Env}
theorem StOk.grow (st : StOk K C H0 σ Hs H ρ) (g : Grow Hs H Hs' H') : StOk K C H0 σ Hs' H' ρ := ⟨g.sub, st.len, fun i d e => by
    obtain ⟨v, h1, h2⟩ := st.val i d e
    exact ⟨v, h1, h2.mono g.s⟩,
  fun i ds e => by
    obtain ⟨a, xs, h1, h2, h3, h4, h5⟩ := st.own i ds e
    refine ⟨a, xs, h1, h2, ?_, g.h _ _ h4, h5.mono g.s⟩
    rw [g.fresh a (by rw [h4]; intro z; cases z)]
    exact h3,
  st.dist⟩
theorem set_get {α : Type} {xs : List α} {i j : Nat} {a b : α} (h : (xs.set i a)[j]? = some b) : (i = j ∧ b = a) ∨ (i ≠ j ∧ xs[j]? = some b) := by
  by_cases e : i = j
  · subst e
    by_cases hi : i < xs.length
    · rw [List.getElem?_set_self hi] at h
      exact .inl ⟨rfl, (Option.some.inj h).symm⟩
    · rw [List.getElem?_eq_none (by rw [List.length_set]; omega)] at h
      cases h
  · rw [List.getElem?_set_ne e] at h
    exact .inr ⟨e, h⟩
theorem set_got {α : Type} {xs : List α} {i j : Nat} {a b : α} (h : (xs.set i a)[j]? = some b) : (i = j ∧ b = a ∧ i < xs.length) ∨ (i ≠ j ∧ xs[j]? = some b) := by
  rcases set_get h with ⟨e, q⟩ | q
  · refine .inl ⟨e, q, ?_⟩
    have := (List.getElem?_eq_some_iff.mp h).1
    rw [List.length_set] at this
    omega
  · exact .inr q
theorem StOk.set_val (st : StOk K C H0 σ Hs H ρ) {i : Nat} {v : V} {d : D} (r : Rep K C Hs v d) : StOk K C H0 (σ.set i (some v)) Hs H (ρ.set i (.val d)) := ⟨st.sub, by rw [List.length_set, List.length_set]; exact st.len, fun j e h => by
    rcases set_got h with ⟨rfl, q, hl⟩ | ⟨ne, q⟩
    · cases q
      exact ⟨v, by rw [List.getElem?_set_self (by rw [st.len]; exact hl)], r⟩
    · obtain ⟨w, h1, h2⟩ := st.val j e q
      exact ⟨w, by rw [List.getElem?_set_ne ne]; exact h1, h2⟩,
  fun j ds h => by
    rcases set_got h with ⟨rfl, q, hl⟩ | ⟨ne, q⟩
    · cases q
    · obtain ⟨a, xs, h1, h2⟩ := st.own j ds q
      exact ⟨a, xs, by rw [List.getElem?_set_ne ne]; exact h1, h2⟩,
  fun j k ds es a h1 h2 h3 h4 => by
    rcases set_got h1 with ⟨rfl, q, hl⟩ | ⟨ne, q⟩
    · cases q
    rcases set_got h2 with ⟨rfl, q', hl⟩ | ⟨ne', q'⟩
    · cases q'
    rw [List.getElem?_set_ne ne] at h3
    rw [List.getElem?_set_ne ne'] at h4
    exact st.dist j k ds es a q q' h3 h4⟩
/-- a slot forgotten -/
theorem StOk.set_no (st : StOk K C H0 σ Hs H ρ) {i : Nat} {o : Option V} : StOk K C H0 (σ.set i o) Hs H (ρ.set i .no) := ⟨st.sub, by rw [List.length_set, List.length_set]; exact st.len, fun j e h => by
    rcases set_got h with ⟨rfl, q, hl⟩ | ⟨ne, q⟩
    · cases q
    · obtain ⟨w, h1, h2⟩ := st.val j e q
      exact ⟨w, by rw [List.getElem?_set_ne ne]; exact h1, h2⟩,
  fun j ds h => by
    rcases set_got h with ⟨rfl, q, hl⟩ | ⟨ne, q⟩
    · cases q
    · obtain ⟨a, xs, h1, h2⟩ := st.own j ds q
      exact ⟨a, xs, by rw [List.getElem?_set_ne ne]; exact h1, h2⟩,
  fun j k ds es a h1 h2 h3 h4 => by
    rcases set_got h1 with ⟨rfl, q, hl⟩ | ⟨ne, q⟩
    · cases q
    rcases set_got h2 with ⟨rfl, q', hl⟩ | ⟨ne', q'⟩
    · cases q'
    rw [List.getElem?_set_ne ne] at h3
    rw [List.getElem?_set_ne ne'] at h4
    exact st.dist j k ds es a q q' h3 h4⟩
/-- a new list of one's own -/
theorem StOk.set_own (st : StOk K C H0 σ Hs H ρ) (e0 : Same H0 H) {i : Nat} {p : Addr} {xs : List V} {ds : List D} (hp : H p = none) (r : Reps K C Hs xs ds) :
    StOk K C H0 (σ.set i (some (V.ref p))) Hs (upd H p (.lst xs)) (ρ.set i (.own ds)) := by
  have other : ∀ j es a, ρ[j]? = some (Slot.own es) → σ[j]? = some (some (V.ref a)) → a ≠ p := fun j es a h1 h2 z => by
    obtain ⟨b, ys, h3, _, _, h4, _⟩ := st.own j es h1
    rw [h2] at h3
    cases h3
    rw [z, hp] at h4
    cases h4
  refine ⟨st.sub.trans (same_new hp), by rw [List.length_set, List.length_set]; exact st.len, fun j e h => ?_, fun j es h => ?_, fun j k ds' es a h1 h2 h3 h4 => ?_⟩
  · rcases set_got h with ⟨rfl, q, hl⟩ | ⟨ne, q⟩
    · cases q
    · obtain ⟨w, h1, h2⟩ := st.val j e q
      exact ⟨w, by rw [List.getElem?_set_ne ne]; exact h1, h2⟩
  · rcases set_got h with ⟨rfl, q, hl⟩ | ⟨ne, q⟩
    · cases q
      exact ⟨p, xs, by rw [List.getElem?_set_self (by rw [st.len]; exact hl)], same_back e0 hp, same_back st.sub hp, upd_same, r⟩
    · obtain ⟨a, ys, h1, h2, h3, h4, h5⟩ := st.own j es q
      exact ⟨a, ys, by rw [List.getElem?_set_ne ne]; exact h1, h2, h3, by rw [upd_ne (other j es a q h1)]; exact h4, h5⟩
  · rcases set_got h1 with ⟨rfl, q, hl⟩ | ⟨ne, q⟩
    · rcases set_got h2 with ⟨rfl, q', hl⟩ | ⟨ne', q'⟩
      · rfl
      · rw [List.getElem?_set_self (by rw [st.len]; exact hl)] at h3
        cases h3
        rw [List.getElem?_set_ne ne'] at h4
        exact absurd rfl (other k es p q' h4)
    · rw [List.getElem?_set_ne ne] at h3
      rcases set_got h2 with ⟨rfl, q', hl⟩ | ⟨ne', q'⟩
      · rw [List.getElem?_set_self (by rw [st.len]; exact hl)] at h4
        cases h4
        exact absurd rfl (other j ds' p q h3)
      · rw [List.getElem?_set_ne ne'] at h4
        exact st.dist j k ds' es a q q' h3 h4
/-- a list of one's own grows -/
theorem StOk.app (st : StOk K C H0 σ Hs H ρ) {i : Nat} {ds : List D} {v : V} {d : D} (h : ρ[i]? = some (Slot.own ds)) (r : Rep K C Hs v d) :
    ∃ a xs, σ[i]? = some (some (V.ref a)) ∧ H0 a = none ∧ Hs a = none ∧ H a = some (.lst xs) ∧ xs.length = ds.length ∧ StOk K C H0 σ Hs (upd H a (.lst (xs ++ [v]))) (ρ.set i (.own (ds ++ [d]))) := by
  obtain ⟨a, xs, h1, h2, h3, h4, h5⟩ := st.own i ds h
  have other : ∀ j es b, i ≠ j → ρ[j]? = some (Slot.own es) → σ[j]? = some (some (V.ref b)) → b ≠ a := fun j es b ne h6 h7 z => by
    subst z
    exact ne (st.dist i j ds es b h h6 h1 h7)
  refine ⟨a, xs, h1, h2, h3, h4, h5.length, ⟨fun b o q => ?_, by rw [List.length_set]; exact st.len, fun j e q => ?_, fun j es q => ?_, fun j k ds' es b q1 q2 q3 q4 => ?_⟩⟩
  · rw [upd_ne (ne_of_none q h3)]
    exact st.sub _ _ q
  · rcases set_got q with ⟨rfl, q, hl⟩ | ⟨ne, q⟩
    · cases q
    · exact st.val j e q
  · rcases set_got q with ⟨rfl, q, hl⟩ | ⟨ne, q⟩
    · cases q
      exact ⟨a, _, h1, h2, h3, upd_same, h5.append (.cons r .nil)⟩
    · obtain ⟨b, ys, k1, k2, k3, k4, k5⟩ := st.own j es q
      exact ⟨b, ys, k1, k2, k3, by rw [upd_ne (other j es b ne q k1)]; exact k4, k5⟩
  · rcases set_got q1 with ⟨rfl, q1, hl⟩ | ⟨ne, q1⟩
    · rcases set_got q2 with ⟨rfl, q2, hl⟩ | ⟨ne', q2⟩
      · rfl
      · rw [h1] at q3
        cases q3
        exact absurd rfl (other k es a ne' q2 q4)
    · rcases set_got q2 with ⟨rfl, q2, hl⟩ | ⟨ne', q2⟩
      · rw [h1] at q4
        cases q4
        exact absurd rfl (other j ds' a ne q1 q3)
      · exact st.dist j k ds' es b q1 q2 q3 q4
end
end WF
end
/-! text WS2 -/
section
set_option Elab.async false
set_option linter.all false
set_option maxRecDepth 100000
set_option maxHeartbeats 4000000
/-! Readings by plain data, and the rules of operators, built-ins, subscripts by plain data. -/
namespace WF
open PySem PySem.Spec PyProof.Rows L2
section
variable {K : PySem.W.Frag} {C : Addr} {H0 Hs0 Hs H Hs' H' : Hp} {σ : L2.St} {ρ : Env}
theorem StOk.frz1 (st : StOk K C H0 σ Hs H ρ) (g : Grow Hs0 H0 Hs H) (i : Nat) : ∃ Hs', Same Hs Hs' ∧ Grow Hs0 H0 Hs' H ∧ StOk K C H0 σ Hs' H (frz1 ρ i) := by
  unfold WF.frz1
  cases e : ρ[i]? with
  | none => exact ⟨Hs, .refl _, g, st⟩
  | some s =>
    cases s with
    | no => exact ⟨Hs, .refl _, g, st⟩
    | val d => exact ⟨Hs, .refl _, g, st⟩
    | own ds =>
      obtain ⟨a, xs, h1, h2, h3, h4, h5⟩ := st.own i ds e
      have sm : Same Hs (upd Hs a (.lst xs)) := same_new h3
      have sub : Same (upd Hs a (.lst xs)) H := fun b o q => by
        rcases upd_cases q with ⟨z, q2⟩ | ⟨ne, q2⟩
        · rw [z, h4]
          exact q2.symm
        · exact st.sub _ _ q2
      refine ⟨upd Hs a (.lst xs), sm, ⟨g.s.trans sm, g.h, sub, fun b hb => ?_⟩, sub, ?_, fun j d q => ?_, fun j es q => ?_, fun j k es fs b q1 q2 => ?_⟩
      · rw [upd_ne fun z => hb (by rw [z]; exact h2)]
        exact g.fresh b hb
      · show σ.length = (ρ.set i (.val (.lst ds))).length
        rw [List.length_set]
        exact st.len
      · rcases set_got (show (ρ.set i (.val (.lst ds)))[j]? = some (.val d) from q) with ⟨rfl, q, hl⟩ | ⟨ne, q⟩
        · cases q
          exact ⟨_, h1, .lst upd_same (h5.mono sm)⟩
        · obtain ⟨v, k1, k2⟩ := st.val j d q
          exact ⟨v, k1, k2.mono sm⟩
      · rcases set_got (show (ρ.set i (.val (.lst ds)))[j]? = some (.own es) from q) with ⟨rfl, q, hl⟩ | ⟨ne, q⟩
        · cases q
        · obtain ⟨b, ys, k1, k2, k3, k4, k5⟩ := st.own j es q
          refine ⟨b, ys, k1, k2, ?_, k4, k5.mono sm⟩
          rw [upd_ne fun z => ne (st.dist i j ds es a e q h1 (by rw [z] at k1; exact k1))]
          exact k3
      · rcases set_got (show (ρ.set i (.val (.lst ds)))[j]? = some (.own es) from q1) with ⟨rfl, q, hl⟩ | ⟨ne, q⟩
        · cases q
        rcases set_got (show (ρ.set i (.val (.lst ds)))[k]? = some (.own fs) from q2) with ⟨rfl, q', hl⟩ | ⟨ne', q'⟩
        · cases q'
        exact st.dist j k es fs b q q'
theorem StOk.frz (is : List Nat) : ∀ {Hs : Hp} {ρ : Env}, StOk K C H0 σ Hs H ρ → Grow Hs0 H0 Hs H → ∃ Hs', Same Hs Hs' ∧ Grow Hs0 H0 Hs' H ∧ StOk K C H0 σ Hs' H (frz is ρ) := by
  induction is with
  | nil => exact fun {Hs ρ} st g => ⟨Hs, .refl _, g, st⟩
  | cons i is ih =>
    intro Hs ρ st g
    obtain ⟨Hs1, s1, g1, st1⟩ := st.frz1 g i
    obtain ⟨Hs2, s2, g2, st2⟩ := ih st1 g1
    exact ⟨Hs2, s1.trans s2, g2, st2⟩
theorem StOk.wipe (st : StOk K C H0 σ Hs H ρ) : ∀ vs : List Nat, StOk K C H0 (wipe σ vs) Hs H (wipeE ρ vs)
  | [] => st
  | _ :: vs => (st.wipe vs).set_no
end

/-! ### readings -/
section
variable (K : PySem.W.Frag) (C : Addr)
def RepB (Hs H : Hp) (v : V) (d : D) : Prop := Rep K C Hs v d ∨ ∃ a xs ds, v = V.ref a ∧ d = D.lst ds ∧ H a = some (.lst xs) ∧ Reps K C Hs xs ds
def tE (f : SE) : TE := fun σ H Q => ∃ H0 Hs ρ d, StOk K C H0 σ Hs H ρ ∧ f ρ = some d ∧ ∀ v Hs' H', Grow Hs H Hs' H' → Rep K C Hs' v d → Q v H'
def tBo (f : SE) : TE := fun σ H Q => ∃ H0 Hs ρ d, StOk K C H0 σ Hs H ρ ∧ f ρ = some d ∧ ∀ v Hs' H', Grow Hs H Hs' H' → RepB K C Hs' H' v d → Q v H'
def tT (f : ST) : TT := fun σ H Q => ∃ H0 Hs ρ b, StOk K C H0 σ Hs H ρ ∧ f ρ = some b ∧ ∀ Hs' H', Grow Hs H Hs' H' → Q b H'
def tA (f : SA) : TA := fun σ H Q => ∃ H0 Hs ρ ds, StOk K C H0 σ Hs H ρ ∧ f ρ = some ds ∧ ∀ vs Hs' H', Grow Hs H Hs' H' → Reps K C Hs' vs ds → Q vs H'
def tO (f : SO) : TO := fun σ H Q => ∃ H0 Hs ρ o, StOk K C H0 σ Hs H ρ ∧ f ρ = some o ∧ ∀ Hs' H', Grow Hs H Hs' H' → Q o H'
/-- J gives out what ds say, one after another, over whatever heap holds Hs1 -/
def Walks (J : It) (Hs1 : Hp) (ds : List D) : Prop := ∀ (i : Nat) (Hs H : Hp), Same Hs1 Hs → Same Hs H →
  (∀ d, ds[i]? = some d → J.go i H ∧ ∀ x H', J.yld i H x H' → ∃ Hs', Grow Hs H Hs' H' ∧ Rep K C Hs' x d) ∧ (ds.length ≤ i → J.stop i H)
def tI (f : SA) : TI := fun σ H R => ∃ H0 Hs ρ ds, StOk K C H0 σ Hs H ρ ∧ f ρ = some ds ∧ ∀ J Hs' H', Grow Hs H Hs' H' → Walks K C J Hs' ds → R J H'
def tG (g : SG) : TG := fun v σ H Q => ∃ H0 Hs ρ ρ' d, StOk K C H0 σ Hs H ρ ∧ Rep K C Hs v d ∧ g d ρ = some ρ' ∧ ∀ σ', StOk K C H0 σ' Hs H ρ' → Q σ' H
def EndD (H0 Hs0 : Hp) (D : L2.Ends) : Out → Prop
  | .nx ρ' => ∀ σ' Hs' H', Grow Hs0 H0 Hs' H' → StOk K C H0 σ' Hs' H' ρ' → D.nx σ' H'
  | .rt d => ∀ v Hs' H', Grow Hs0 H0 Hs' H' → Rep K C Hs' v d → D.rt v H'
def tS (f : SS) : TS := fun D σ H => ∃ H0 Hs0 Hs ρ o, Grow Hs0 H0 Hs H ∧ StOk K C H0 σ Hs H ρ ∧ f ρ = some o ∧ EndD K C H0 Hs0 D o
end
theorem bind_some {α β : Type} {o : Option α} {f : α → Option β} {b : β} (h : o.bind f = some b) : ∃ a, o = some a ∧ f a = some b := Option.bind_eq_some_iff.mp h
theorem PE.imp {X : Cx} {e : Expr} {t t' : TE} (h : PE X e t) (i : ∀ σ H Q, t' σ H Q → t σ H Q) : PE X e t' := ⟨fun pins s σ H Q I q => h.run pins s σ H Q I (i σ H Q q)⟩
theorem PT.imp {X : Cx} {e : Expr} {t t' : TT} (h : PT X e t) (i : ∀ σ H Q, t' σ H Q → t σ H Q) : PT X e t' := ⟨fun pins s σ H Q I q => h.run pins s σ H Q I (i σ H Q q)⟩
theorem PW.imp {X : Cx} {e : Expr} {t t' : TT} (h : PW X e t) (i : ∀ σ H Q, t' σ H Q → t σ H Q) : PW X e t' := ⟨fun wh pins s σ H Q I q => h.run wh pins s σ H Q I (i σ H Q q)⟩
theorem PA.imp {X : Cx} {e : List Expr} {t t' : TA} (h : PA X e t) (i : ∀ σ H Q, t' σ H Q → t σ H Q) : PA X e t' := ⟨fun p pins s σ H Q I q => h.run p pins s σ H Q I (i σ H Q q)⟩
theorem PI.imp {X : Cx} {tg e : Expr} {t t' : TI} (h : PI X tg e t) (i : ∀ σ H Q, t' σ H Q → t σ H Q) : PI X tg e t' := ⟨fun pins s σ H Q I q => h.run pins s σ H Q I (i σ H Q q)⟩
theorem PO.imp {X : Cx} {e : Option Expr} {t t' : TO} (h : PO X e t) (i : ∀ σ H Q, t' σ H Q → t σ H Q) : PO X e t' := ⟨fun pins s σ H Q I q => h.run pins s σ H Q I (i σ H Q q)⟩
theorem PG.imp {X : Cx} {e : Expr} {t t' : TG} (h : PG X e t) (i : ∀ v σ H Q, t' v σ H Q → t v σ H Q) : PG X e t' := ⟨fun pins s σ H v u Q I r q => h.run pins s σ H v u Q I r (i v σ H Q q)⟩
theorem PS.imp {X : Cx} {e : Stmt} {t t' : TS} (h : PS X e t) (i : ∀ D σ H, t' D σ H → t D σ H) : PS X e t' := ⟨fun pins s σ H D I q => h.run pins s σ H D I (i D σ H q)⟩
theorem PSs.imp {X : Cx} {e : List Stmt} {t t' : TS} (h : PSs X e t) (i : ∀ D σ H, t' D σ H → t D σ H) : PSs X e t' := ⟨fun pins s σ H D I q => h.run pins s σ H D I (i D σ H q)⟩

/-! ### operators by plain data -/
section
variable {X : Cx} (C : Addr)
theorem big_line {n : Nat} (h : n ≤ big) : n ≤ sizeLine := Nat.le_trans h (by decide)
theorem small64_ok {i : Int} (h : small64 i = true) : -(2 ^ 64) < i ∧ i < 2 ^ 64 := by
  obtain ⟨a, b⟩ := Bool.and_eq_true_iff.mp h
  exact ⟨of_decide_eq_true a, of_decide_eq_true b⟩
theorem small62_ok {i : Int} (h : small62 i = true) : -(2 ^ 62) ≤ i ∧ i < 2 ^ 62 := by
  obtain ⟨a, b⟩ := Bool.and_eq_true_iff.mp h
  exact ⟨of_decide_eq_true a, of_decide_eq_true b⟩
/-- what an operator gives, by plain data -/
def rD2 (K : PySem.W.Frag) (f : D → D → Option D) : R2 := fun x y H Q => ∃ Hs dx dy dz, Same Hs H ∧ Rep K C Hs x dx ∧ Rep K C Hs y dy ∧ f dx dy = some dz ∧ ∀ v Hs' H', Grow Hs H Hs' H' → Rep K C Hs' v dz → Q v H'
def opB : Operator → Option Bop
  | .Add => some .add | .Sub => some .sub | .Mult => some .mul | .FloorDiv => some .fdiv | .Mod => some .mod | .Pow => some .pow
  | _ => none
theorem opr_bin {op : Operator} {o : Bop} (h : opB op = some o) : OpR X (binaryOp op) (rD2 C X.K (binD o)) := by
  intro pins s σ H x y v u Q I rx ry q
  obtain ⟨Hs, dx, dy, dz, sub, hx, hy, e, k⟩ := q
  have fin : ∀ w, Rep X.K C Hs w dz → Q w H := fun w r => k w Hs H (.refl sub) r
  cases op <;> cases h
  · -- add
    cases hx with
    | int i =>
      cases hy with
      | int j =>
        cases e
        exact op_add pins s σ H _ _ v u Q I rx ry ⟨i, j, rfl, rfl, fin _ (.int _)⟩
      | _ => cases e
    | str a =>
      cases hy with
      | str b =>
        have e2 : (if a.length + b.length ≤ big then some (D.str (a ++ b)) else none) = some dz := e
        by_cases hl : a.length + b.length ≤ big
        · rw [if_pos hl] at e2
          cases e2
          exact op_add_str pins s σ H _ _ v u Q I rx ry ⟨a, b, rfl, rfl, big_line hl, fin _ (.str _)⟩
        · rw [if_neg hl] at e2
          cases e2
      | _ => cases e
    | @lst a xs ds ha ra =>
      cases hy with
      | @lst b ys es hb rb =>
        have e2 : (if ds.length + es.length ≤ big then some (D.lst (ds ++ es)) else none) = some dz := e
        by_cases hl : ds.length + es.length ≤ big
        · rw [if_pos hl] at e2
          cases e2
          refine op_cat pins s σ H _ _ v u Q I rx ry ⟨a, b, xs, ys, rfl, rfl, sub _ _ ha, sub _ _ hb, ?_, fun p hp => ?_⟩
          · rw [ra.length, rb.length]
            exact big_line hl
          · have g := Grow.new (o := .lst (xs ++ ys)) sub hp
            exact k _ _ _ g (.lst upd_same ((ra.append rb).mono g.s))
        · rw [if_neg hl] at e2
          cases e2
      | _ => cases e
    | _ => cases hy <;> cases e
  · cases hx with
    | int i =>
      cases hy with
      | int j =>
        cases e
        exact op_sub pins s σ H _ _ v u Q I rx ry ⟨i, j, rfl, rfl, fin _ (.int _)⟩
      | _ => cases e
    | _ => cases hy <;> cases e
  · cases hx with
    | int i =>
      cases hy with
      | int j =>
        have e2 : (if (small64 i || small64 j) = true then some (D.int (i * j)) else none) = some dz := e
        by_cases hl : (small64 i || small64 j) = true
        · rw [if_pos hl] at e2
          cases e2
          refine op_mul pins s σ H _ _ v u Q I rx ry ⟨i, j, rfl, rfl, ?_, fin _ (.int _)⟩
          rcases Bool.or_eq_true_iff.mp hl with z | z
          · exact .inl (small64_ok z)
          · exact .inr (small64_ok z)
        · rw [if_neg hl] at e2
          cases e2
      | _ => cases e
    | _ => cases hy <;> cases e
  · cases hx with
    | int i =>
      cases hy with
      | int j =>
        have e2 : (if 0 < j then some (D.int (i % j)) else none) = some dz := e
        by_cases hl : 0 < j
        · rw [if_pos hl] at e2
          cases e2
          exact op_mod pins s σ H _ _ v u Q I rx ry ⟨i, j, rfl, rfl, hl, fin _ (.int _)⟩
        · rw [if_neg hl] at e2
          cases e2
      | _ => cases e
    | _ => cases hy <;> cases e
  · cases hx with
    | int i =>
      cases hy with
      | int j =>
        have e2 : (if 0 ≤ j ∧ j ≤ 1000000 ∧ i.natAbs < 2 ^ 64 then some (D.int (i ^ j.toNat)) else none) = some dz := e
        by_cases hl : 0 ≤ j ∧ j ≤ 1000000 ∧ i.natAbs < 2 ^ 64
        · rw [if_pos hl] at e2
          cases e2
          exact op_pow pins s σ H _ _ v u Q I rx ry ⟨i, j, rfl, rfl, hl, fin _ (.int _)⟩
        · rw [if_neg hl] at e2
          cases e2
      | _ => cases e
    | _ => cases hy <;> cases e
  · cases hx with
    | int i =>
      cases hy with
      | int j =>
        have e2 : (if 0 < j ∧ j < 1073741824 then some (D.int (i / j)) else none) = some dz := e
        by_cases hl : 0 < j ∧ j < 1073741824
        · rw [if_pos hl] at e2
          cases e2
          exact op_fdiv pins s σ H _ _ v u Q I rx ry ⟨i, j, rfl, rfl, hl, fin _ (.int _)⟩
        · rw [if_neg hl] at e2
          cases e2
      | _ => cases e
    | _ => cases hy <;> cases e
end
end WF
end
/-! text WS3 -/
section
set_option Elab.async false
set_option linter.all false
set_option maxRecDepth 100000
set_option maxHeartbeats 4000000
/-! Comparisons, truth, built-ins, subscripts by plain data. -/
namespace WF
open PySem PySem.Spec PyProof.Rows L2
section
variable {X : Cx} (C : Addr)
def rC2 (K : PySem.W.Frag) (f : D → D → Option Bool) : R2 := fun x y H Q => ∃ Hs dx dy b, Same Hs H ∧ Rep K C Hs x dx ∧ RepB K C Hs H y dy ∧ f dx dy = some b ∧ Q (.bl b) H
def opC : CmpOp → Cop
  | .Eq => .eq | .NotEq => .ne | .Lt => .lt | .LtE => .le | .Gt => .gt | .GtE => .ge | .Is => .is | .IsNot => .isNot | .In => .inn | .NotIn => .notIn
theorem RepB.rep {K : PySem.W.Frag} {C : Addr} {Hs H : Hp} {v : V} {d : D} (h : RepB K C Hs H v d) (sub : Same Hs H) : Rep K C H v d := by
  rcases h with h | ⟨a, xs, ds, rfl, rfl, h1, h2⟩
  · exact h.mono sub
  · exact .lst h1 (h2.mono sub)
theorem eq_rep {K : PySem.W.Frag} {C : Addr} {H H' : Hp} {x y : V} {dx dy : D} {b : Bool} (hx : Rep K C H x dx) (hy : Rep K C H' y dy) (e : eqD dx dy = some b) : scal x y = true ∧ decide (x = y) = b := by
  cases hx <;> cases hy <;> cases e <;> exact ⟨rfl, by simp⟩
theorem in_strs (x : Str) (ns : List Str) : inV (.str x) (ns.map V.str) = decide (x ∈ ns) := by
  unfold inV
  induction ns with
  | nil => rfl
  | cons n ns ih =>
    rw [List.map_cons, List.any_cons, ih]
    show ((n == x) || decide (x ∈ ns)) = decide (x ∈ n :: ns)
    rw [Bool.eq_iff_iff]
    simp only [Bool.or_eq_true, beq_iff_eq, decide_eq_true_eq, List.mem_cons]
    constructor
    · rintro (h | h)
      · exact .inl h.symm
      · exact .inr h
    · rintro (h | h)
      · exact .inl h.symm
      · exact .inr h
theorem flat_strs (ns : List Str) : (ns.map V.str).all flatV = true := by
  induction ns with
  | nil => rfl
  | cons n ns ih => rw [List.map_cons, List.all_cons, ih]; rfl
theorem one_sign {x : Str} {c : Nat} (h : x.cps.toList = [c]) : x = ⟨#[c]⟩ := by
  obtain ⟨a⟩ := x
  have : a = #[c] := by
    apply Array.ext'
    exact h
  rw [this]
theorem in_rep {K : PySem.W.Frag} {C : Addr} {Hs H : Hp} {x y : V} {dx dy : D} {b : Bool} (hx : Rep K C Hs x dx) (hy : Rep K C H y dy) (e : inD dx dy = some b) :
    (∃ p xs, y = V.ref p ∧ (SqL K H p xs ∨ SqT K H p xs) ∧ flatV x = true ∧ xs.all flatV = true ∧ inV x xs = b) ∨ (∃ (c : Nat) (z : Str), x = .str ⟨#[c]⟩ ∧ y = .str z ∧ decide (c ∈ z.cps.toList) = b) := by
  cases hx with
  | str x =>
    cases hy with
    | @lst a xs ds h r =>
      have e2 : (strsOf ds).map (fun l => decide (x ∈ l)) = some b := e
      obtain ⟨l, h1, h2⟩ := Option.map_eq_some_iff.mp e2
      have h3 := r.strs h1
      subst h3
      exact .inl ⟨a, _, rfl, .inl (SqL.of h), rfl, flat_strs l, by rw [in_strs, h2]⟩
    | @tup a xs ds h r =>
      have e2 : (strsOf ds).map (fun l => decide (x ∈ l)) = some b := e
      obtain ⟨l, h1, h2⟩ := Option.map_eq_some_iff.mp e2
      have h3 := r.strs h1
      subst h3
      exact .inl ⟨a, _, rfl, .inr h, rfl, flat_strs l, by rw [in_strs, h2]⟩
    | str z =>
      have e2 : (match x.cps.toList with
        | [c] => some (decide (c ∈ z.cps.toList))
        | _ => none) = some b := e
      split at e2
      · rename_i c h
        have h3 := one_sign h
        cases e2
        exact .inr ⟨c, z, by rw [h3], rfl, rfl⟩
      · cases e2
    | _ => cases e
  | _ => cases hy <;> cases e
theorem non_rep {K : PySem.W.Frag} {C : Addr} {H : Hp} {x : V} {d : D} (h : Rep K C H x d) : decide (x = .non) = isNon d := by
  cases h <;> rfl
theorem opr_cmp (op : CmpOp) : OpR X (compareOp op) (rC2 C X.K (cmpD (opC op))) := by
  intro pins s σ H x y v u Q I rx ry q
  obtain ⟨Hs, dx, dy, b, sub, hx, hyb, e, k⟩ := q
  have hy : Rep X.K C H y dy := hyb.rep sub
  cases op with
  | Eq =>
    obtain ⟨h1, h2⟩ := eq_rep hx hy e
    exact op_eq pins s σ H x y v u Q I rx ry ⟨h1, by rw [h2]; exact k⟩
  | NotEq =>
    have e2 : (eqD dx dy).map (!·) = some b := e
    obtain ⟨c, h0, h3⟩ := Option.map_eq_some_iff.mp e2
    obtain ⟨h1, h2⟩ := eq_rep hx hy h0
    exact op_ne pins s σ H x y v u Q I rx ry ⟨h1, by rw [h2, h3]; exact k⟩
  | Lt =>
    cases hx <;> cases hy <;> cases e
    exact op_lt pins s σ H _ _ v u Q I rx ry ⟨_, _, rfl, rfl, k⟩
  | LtE =>
    cases hx <;> cases hy <;> cases e
    exact op_le pins s σ H _ _ v u Q I rx ry ⟨_, _, rfl, rfl, k⟩
  | Gt =>
    cases hx <;> cases hy <;> cases e
    exact op_gt pins s σ H _ _ v u Q I rx ry ⟨_, _, rfl, rfl, k⟩
  | GtE =>
    cases hx <;> cases hy <;> cases e
    exact op_ge pins s σ H _ _ v u Q I rx ry ⟨_, _, rfl, rfl, k⟩
  | Is =>
    cases hy with
    | non =>
      have e2 : some (isNon dx) = some b := by cases dx <;> exact e
      cases e2
      exact op_isN pins s σ H _ _ v u Q I rx ry ⟨rfl, by rw [non_rep hx]; exact k⟩
    | _ => cases dx <;> cases e
  | IsNot =>
    cases hy with
    | non =>
      have e2 : some (!isNon dx) = some b := by cases dx <;> exact e
      cases e2
      exact op_notN pins s σ H _ _ v u Q I rx ry ⟨rfl, by rw [non_rep hx]; exact k⟩
    | _ => cases dx <;> cases e
  | In =>
    have e2 : inD dx dy = some b := by cases dx <;> cases dy <;> exact e
    rcases in_rep hx hy e2 with ⟨p, xs, rfl, h1, h2, h3, h4⟩ | ⟨c, z, rfl, rfl, h4⟩
    · exact op_in_seq pins s σ H _ _ v u Q I rx ry ⟨p, xs, rfl, h1, h2, h3, by show Q (.bl (inV x xs)) H; rw [h4]; exact k⟩
    · exact op_in_sign pins s σ H _ _ v u Q I rx ry ⟨c, z, rfl, rfl, by rw [h4]; exact k⟩
  | NotIn =>
    have e2 : (inD dx dy).map (!·) = some b := by cases dx <;> cases dy <;> exact e
    obtain ⟨c', h0, h5⟩ := Option.map_eq_some_iff.mp e2
    rcases in_rep hx hy h0 with ⟨p, xs, rfl, h1, h2, h3, h4⟩ | ⟨c, z, rfl, rfl, h4⟩
    · exact op_notIn_seq pins s σ H _ _ v u Q I rx ry ⟨p, xs, rfl, h1, h2, h3, by show Q (.bl (!inV x xs)) H; rw [h4, h5]; exact k⟩
    · exact op_notIn_sign pins s σ H _ _ v u Q I rx ry ⟨c, z, rfl, rfl, by rw [h4, h5]; exact k⟩
/-- truth -/
theorem tru_rep {K : PySem.W.Frag} {C : Addr} {H : Hp} {x : V} {d : D} {b : Bool} (h : Rep K C H x d) (e : truD d = some b) : TruV K x H b := by
  cases h with
  | non => cases e; rfl
  | bl c => cases e; rfl
  | int i => cases e; rfl
  | str z => cases e
  | @lst a xs ds h r =>
    cases e
    exact .inl ⟨xs, SqL.of h, by cases r <;> rfl⟩
  | @tup a xs ds h r =>
    cases e
    exact .inr (.inl ⟨xs, h, by cases r <;> rfl⟩)
  | scr h => cases e
  | obj h r => cases e
/-! ### built-ins -/
def rDB (K : PySem.W.Frag) (f : List D → Option D) : List V → Hp → VK → Prop := fun vs H Q => ∃ Hs ds dz, Same Hs H ∧ Reps K C Hs vs ds ∧ f ds = some dz ∧ ∀ v Hs' H', Grow Hs H Hs' H' → Rep K C Hs' v dz → Q v H'
theorem reps1 {K : PySem.W.Frag} {C : Addr} {H : Hp} {vs : List V} {d : D} (r : Reps K C H vs [d]) : ∃ v, vs = [v] ∧ Rep K C H v d := by
  cases r with
  | cons h t =>
    cases t
    exact ⟨_, rfl, h⟩
theorem reps2 {K : PySem.W.Frag} {C : Addr} {H : Hp} {vs : List V} {d e : D} (r : Reps K C H vs [d, e]) : ∃ v w, vs = [v, w] ∧ Rep K C H v d ∧ Rep K C H w e := by
  cases r with
  | cons h t =>
    cases t with
    | cons h2 t =>
      cases t
      exact ⟨_, _, rfl, h, h2⟩
theorem maxI_ge (m : Int) (l : List Int) : m ≤ maxI m l ∧ (∀ x ∈ l, x ≤ maxI m l) ∧ (maxI m l = m ∨ maxI m l ∈ l) := by
  induction l generalizing m with
  | nil => exact ⟨Int.le_refl _, (by intro x hx; cases hx), .inl rfl⟩
  | cons y l ih =>
    obtain ⟨h1, h2, h3⟩ := ih (if m < y then y else m)
    show m ≤ maxI (if m < y then y else m) l ∧ (∀ x ∈ y :: l, x ≤ maxI (if m < y then y else m) l) ∧ (maxI (if m < y then y else m) l = m ∨ maxI (if m < y then y else m) l ∈ y :: l)
    generalize maxI (if m < y then y else m) l = M at *
    by_cases c : m < y
    · simp only [if_pos c] at h1 h3
      refine ⟨by omega, fun x hx => ?_, ?_⟩
      · rcases List.mem_cons.mp hx with rfl | hx
        · exact h1
        · exact h2 x hx
      · rcases h3 with h3 | h3
        · exact .inr (by rw [h3]; exact List.mem_cons_self)
        · exact .inr (List.mem_cons_of_mem _ h3)
    · simp only [if_neg c] at h1 h3
      refine ⟨by omega, fun x hx => ?_, ?_⟩
      · rcases List.mem_cons.mp hx with rfl | hx
        · omega
        · exact h2 x hx
      · rcases h3 with h3 | h3
        · exact .inl h3
        · exact .inr (List.mem_cons_of_mem _ h3)
theorem minI_le (m : Int) (l : List Int) : minI m l ≤ m ∧ (∀ x ∈ l, minI m l ≤ x) ∧ (minI m l = m ∨ minI m l ∈ l) := by
  induction l generalizing m with
  | nil => exact ⟨Int.le_refl _, (by intro x hx; cases hx), .inl rfl⟩
  | cons y l ih =>
    obtain ⟨h1, h2, h3⟩ := ih (if y < m then y else m)
    show minI (if y < m then y else m) l ≤ m ∧ (∀ x ∈ y :: l, minI (if y < m then y else m) l ≤ x) ∧ (minI (if y < m then y else m) l = m ∨ minI (if y < m then y else m) l ∈ y :: l)
    generalize minI (if y < m then y else m) l = M at *
    by_cases c : y < m
    · simp only [if_pos c] at h1 h3
      refine ⟨by omega, fun x hx => ?_, ?_⟩
      · rcases List.mem_cons.mp hx with rfl | hx
        · exact h1
        · exact h2 x hx
      · rcases h3 with h3 | h3
        · exact .inr (by rw [h3]; exact List.mem_cons_self)
        · exact .inr (List.mem_cons_of_mem _ h3)
    · simp only [if_neg c] at h1 h3
      refine ⟨by omega, fun x hx => ?_, ?_⟩
      · rcases List.mem_cons.mp hx with rfl | hx
        · omega
        · exact h2 x hx
      · rcases h3 with h3 | h3
        · exact .inl h3
        · exact .inr (List.mem_cons_of_mem _ h3)
theorem max_is {x : Int} {r : List Int} {m : Int} (hm : m ∈ x :: r) (hle : ∀ y, y ∈ x :: r → y ≤ m) : m = maxI x r := by
  obtain ⟨h1, h2, h3⟩ := maxI_ge x r
  have a : maxI x r ≤ m := by
    rcases h3 with h3 | h3
    · rw [h3]
      exact hle x List.mem_cons_self
    · exact hle _ (List.mem_cons_of_mem _ h3)
  have b : m ≤ maxI x r := by
    rcases List.mem_cons.mp hm with rfl | hm
    · exact h1
    · exact h2 m hm
  omega
theorem min_is {x : Int} {r : List Int} {m : Int} (hm : m ∈ x :: r) (hle : ∀ y, y ∈ x :: r → m ≤ y) : m = minI x r := by
  obtain ⟨h1, h2, h3⟩ := minI_le x r
  have a : m ≤ minI x r := by
    rcases h3 with h3 | h3
    · rw [h3]
      exact hle x List.mem_cons_self
    · exact hle _ (List.mem_cons_of_mem _ h3)
  have b : minI x r ≤ m := by
    rcases List.mem_cons.mp hm with rfl | hm
    · exact h1
    · exact h2 m hm
  omega
theorem cr_int : CallR X (.type "int") (rDB C X.K (bltD .int)) := by
  intro pins s σ H vs us Q I r q
  obtain ⟨Hs, ds, dz, sub, rs, e, k⟩ := q
  cases rs with
  | nil => cases e
  | cons h t =>
    cases t with
    | cons _ _ => cases h <;> cases e
    | nil =>
      cases h with
      | int i =>
        cases e
        exact call_int1 pins s σ H _ us Q I r (.inl ⟨i, rfl, k _ _ _ (.refl sub) (.int _)⟩)
      | bl b =>
        cases e
        exact call_int1 pins s σ H _ us Q I r (.inr ⟨b, rfl, k _ _ _ (.refl sub) (.int _)⟩)
      | _ => cases e
theorem crd_any (hc : X.calm = true) : CallR X (.builtin "any") (rDB C X.K (bltD .any)) := by
  intro pins s σ H vs us Q I r q
  obtain ⟨Hs, ds, dz, sub, rs, e, k⟩ := q
  cases rs with
  | nil => cases e
  | cons h t =>
    cases t with
    | cons _ _ => cases h <;> cases e
    | nil =>
      cases h with
      | @lst a xs ds h rr =>
        have e2 : (blsOf ds).map (fun l => D.bl (l.any id)) = some dz := e
        obtain ⟨l, h1, h2⟩ := Option.map_eq_some_iff.mp e2
        subst h2
        have h3 := rr.bls h1
        subst h3
        exact cr_any hc pins s σ H _ us Q I r ⟨a, l, rfl, SqL.of (sub _ _ h), k _ _ _ (.refl sub) (.bl _)⟩
      | _ => cases e
theorem crd_max (hc : X.calm = true) : CallR X (.builtin "max") (rDB C X.K (bltD .max)) := by
  intro pins s σ H vs us Q I r q
  obtain ⟨Hs, ds, dz, sub, rs, e, k⟩ := q
  cases rs with
  | nil => cases e
  | cons h t =>
    cases t with
    | cons h2 t =>
      cases t with
      | cons _ _ => cases h <;> cases h2 <;> cases e
      | nil =>
        cases h with
        | int i =>
          cases h2 with
          | int j =>
            cases e
            exact call_max2 hc pins s σ H _ us Q I r ⟨i, j, rfl, k _ _ _ (.refl sub) (.int _)⟩
          | _ => cases e
        | _ => cases h2 <;> cases e
    | nil =>
      cases h with
      | @lst a xs ds h rr =>
        have e2 : (match intsOf ds with
          | some (x :: r) => some (D.int (maxI x r))
          | _ => none) = some dz := e
        cases h1 : intsOf ds with
        | none =>
          rw [h1] at e2
          cases e2
        | some l =>
          rw [h1] at e2
          cases l with
          | nil => cases e2
          | cons x l =>
            cases e2
            have h3 := rr.ints h1
            subst h3
            refine cr_max hc pins s σ H _ us Q I r ⟨a, x :: l, rfl, SqL.of (sub _ _ h), Nat.succ_pos _, fun m hm hle => ?_⟩
            rw [max_is hm hle]
            exact k _ _ _ (.refl sub) (.int _)
      | _ => cases e
theorem crd_min (hc : X.calm = true) : CallR X (.builtin "min") (rDB C X.K (bltD .min)) := by
  intro pins s σ H vs us Q I r q
  obtain ⟨Hs, ds, dz, sub, rs, e, k⟩ := q
  cases rs with
  | nil => cases e
  | cons h t =>
    cases t with
    | cons h2 t =>
      cases h <;> cases h2 <;> cases e
    | nil =>
      cases h with
      | @lst a xs ds h rr =>
        have e2 : (match intsOf ds with
          | some (x :: r) => some (D.int (minI x r))
          | _ => none) = some dz := e
        cases h1 : intsOf ds with
        | none =>
          rw [h1] at e2
          cases e2
        | some l =>
          rw [h1] at e2
          cases l with
          | nil => cases e2
          | cons x l =>
            cases e2
            have h3 := rr.ints h1
            subst h3
            refine cr_min hc pins s σ H _ us Q I r ⟨a, x :: l, rfl, SqL.of (sub _ _ h), Nat.succ_pos _, fun m hm hle => ?_⟩
            rw [min_is hm hle]
            exact k _ _ _ (.refl sub) (.int _)
      | _ => cases e
theorem crd_list : CallR X (.type "list") (rDB C X.K (bltD .list)) := by
  intro pins s σ H vs us Q I r q
  obtain ⟨Hs, ds, dz, sub, rs, e, k⟩ := q
  cases rs with
  | nil => cases e
  | cons h t =>
    cases t with
    | cons h2 t => cases h <;> cases e
    | nil =>
      cases h with
      | @lst a xs ds h rr =>
        cases e
        refine call_list_of pins s σ H _ us Q I r ⟨a, xs, rfl, .inl (SqL.of (sub _ _ h)), fun l hl => ?_⟩
        have g := Grow.new (o := .lst xs) sub hl
        exact k _ _ _ g (.lst upd_same (rr.mono g.s))
      | @tup a xs ds h rr =>
        cases e
        refine call_list_of pins s σ H _ us Q I r ⟨a, xs, rfl, .inr (sqt_mono sub h), fun l hl => ?_⟩
        have g := Grow.new (o := .lst xs) sub hl
        exact k _ _ _ g (.lst upd_same (rr.mono g.s))
      | _ => cases e
theorem crd_tuple : CallR X (.type "tuple") (rDB C X.K (bltD .tuple)) := by
  intro pins s σ H vs us Q I r q
  obtain ⟨Hs, ds, dz, sub, rs, e, k⟩ := q
  cases rs with
  | nil => cases e
  | cons h t =>
    cases t with
    | cons h2 t => cases h <;> cases e
    | nil =>
      cases h with
      | @lst a xs ds h rr =>
        cases e
        refine call_tuple_of pins s σ H _ us Q I r ⟨a, xs, rfl, .inl ⟨SqL.of (sub _ _ h), fun l hl => ?_⟩⟩
        have g := Grow.new (o := .tup xs) sub hl
        exact k _ _ _ g (.tup (SqT.of upd_same) (rr.mono g.s))
      | @tup a xs ds h rr =>
        cases e
        exact call_tuple_of pins s σ H _ us Q I r ⟨a, xs, rfl, .inr ⟨sqt_mono sub h, k _ _ _ (.refl sub) (.tup h rr)⟩⟩
      | _ => cases e
theorem crd_lcm : CallR X (.builtin "math.lcm") (rDB C X.K (bltD .lcm)) := by
  intro pins s σ H vs us Q I r q
  obtain ⟨Hs, ds, dz, sub, rs, e, k⟩ := q
  cases rs with
  | nil => cases e
  | cons h t =>
    cases t with
    | nil => cases h <;> cases e
    | cons h2 t =>
      cases t with
      | cons _ _ => cases h <;> cases h2 <;> cases e
      | nil =>
        cases h with
        | int a =>
          cases h2 with
          | int b =>
            have e2 : (if a.natAbs < 2 ^ 64 ∧ b.natAbs < 2 ^ 64 then some (D.int (Nat.lcm a.natAbs b.natAbs : Nat)) else none) = some dz := e
            by_cases c : a.natAbs < 2 ^ 64 ∧ b.natAbs < 2 ^ 64
            · rw [if_pos c] at e2
              cases e2
              obtain ⟨t, u, rfl⟩ := Vals.int2 r
              have el : (Nat.lcm 1 a.natAbs).lcm b.natAbs = Nat.lcm a.natAbs b.natAbs := by rw [Nat.lcm_one_left]
              refine PySem.W.mg_lcm c.1 c.2 ?_ ?_
              · rw [el, Int.natAbs_natCast]
                have hd : Nat.lcm a.natAbs b.natAbs ∣ a.natAbs * b.natAbs := Nat.lcm_dvd_mul _ _
                by_cases hz : a.natAbs * b.natAbs = 0
                · have hz2 : Nat.lcm a.natAbs b.natAbs = 0 := by
                    unfold Nat.lcm
                    rw [hz, Nat.zero_div]
                  rw [hz2]
                  decide
                · have hle := Nat.le_of_dvd (Nat.pos_of_ne_zero hz) hd
                  have hlt : a.natAbs * b.natAbs < 2 ^ 64 * 2 ^ 64 := Nat.mul_lt_mul'' c.1 c.2
                  by_cases hz3 : Nat.lcm a.natAbs b.natAbs = 0
                  · rw [hz3]
                    decide
                  · have : (Nat.lcm a.natAbs b.natAbs).log2 < 128 := (Nat.log2_lt hz3).mpr (Nat.lt_of_le_of_lt hle (Nat.lt_of_lt_of_le hlt (by decide)))
                    exact Nat.lt_trans this (by decide)
              · rw [el]
                exact ⟨.int _, H, I.tok _, ⟨_, rfl⟩, k _ _ _ (.refl sub) (.int _)⟩
            · rw [if_neg c] at e2
              cases e2
          | _ => cases e
        | _ => cases h2 <;> cases e
end
end WF
end
/-! text WS4 -/
section
set_option Elab.async false
set_option linter.all false
set_option maxRecDepth 100000
set_option maxHeartbeats 4000000
/-! Expressions, tests, arguments by plain data. -/
namespace WF
open PySem PySem.Spec PyProof.Rows L2

/-! ### the text's small side conditions -/
def plainB : Expr → Bool
  | .Starred .. => false
  | _ => true
def noSet : Expr → Bool
  | .Set .. => false
  | _ => true
theorem starEach_cons {e : Expr} {es : List Expr} {env : PySem.Env} (h : plainB e = true) : starEach (e :: es) env = (false, eval e env) :: starEach es env := by
  cases e <;> first | rfl | cases h
theorem plain_any {pos : Pos} {env : PySem.Env} : ∀ {es : List Expr}, es.all plainB = true → (backTo pos (starEach es env)).any (·.1) = false
  | [], _ => rfl
  | e :: es, h => by
    rw [List.all_cons, Bool.and_eq_true] at h
    rw [starEach_cons h.1]
    show (false || (backTo pos (starEach es env)).any (·.1)) = false
    rw [plain_any h.2]
    rfl
theorem nomarks {op : CmpOp} {b : Expr} (h : noSet b = true) : behindInMarks op b = false := by
  cases b <;> first | rfl | cases h

section
variable {X : Cx} {C : Addr} {a b c e : Expr} {f g h : SE} {es : List Expr} {fs : SA} {pos : Pos}
abbrev OkE (X : Cx) (C : Addr) (e : Expr) (f : SE) : Prop := PE X e (tE X.K C f)
abbrev OkBo (X : Cx) (C : Addr) (e : Expr) (f : SE) : Prop := PE X e (tBo X.K C f)
abbrev OkT (X : Cx) (C : Addr) (e : Expr) (f : ST) : Prop := PT X e (tT X.K C f)
abbrev OkA (X : Cx) (C : Addr) (es : List Expr) (f : SA) : Prop := PA X es (tA X.K C f)

theorem OkE.bo (h : OkE X C e f) : OkBo X C e f := PE.imp h fun σ H Q q => by
  obtain ⟨H0, Hs, ρ, d, st, e, k⟩ := q
  exact ⟨H0, Hs, ρ, d, st, e, fun v Hs' H' g r => k v Hs' H' g (.inl r)⟩
theorem ok_con {d : D} {v : V} (h : PE X e (tC v)) (r : ∀ H, Rep X.K C H v d) : OkE X C e (eCon d) := PE.imp h fun σ H Q q => by
  obtain ⟨H0, Hs, ρ, d', st, e, k⟩ := q
  cases e
  exact k v Hs H (.refl st.sub) (r Hs)
theorem ok_var {i : Nat} (h : PE X e (tVar i)) : OkE X C e (eVar i) := PE.imp h fun σ H Q q => by
  obtain ⟨H0, Hs, ρ, d, st, e, k⟩ := q
  have e2 : (match ρ[i]? with
    | some (.val d) => some d
    | _ => none) = some d := e
  split at e2
  · rename_i d' hd
    cases e2
    obtain ⟨v, h1, h2⟩ := st.val i _ hd
    exact ⟨v, h1, k v Hs H (.refl st.sub) h2⟩
  · cases e2
theorem bo_var {i : Nat} (h : PE X e (tVar i)) : OkBo X C e (bVar i) := PE.imp h fun σ H Q q => by
  obtain ⟨H0, Hs, ρ, d, st, e, k⟩ := q
  have e2 : (match ρ[i]? with
    | some (.val d) => some d
    | some (.own ds) => some (D.lst ds)
    | _ => none) = some d := e
  split at e2
  · rename_i d' hd
    cases e2
    obtain ⟨v, h1, h2⟩ := st.val i _ hd
    exact ⟨v, h1, k v Hs H (.refl st.sub) (.inl h2)⟩
  · rename_i ds hd
    cases e2
    obtain ⟨a, xs, h1, h2, h3, h4, h5⟩ := st.own i _ hd
    exact ⟨.ref a, h1, k _ Hs H (.refl st.sub) (.inr ⟨a, xs, ds, rfl, rfl, h4, h5⟩)⟩
  · cases e2
theorem ok_bin {op : Operator} {o : Bop} (ho : opB op = some o) (ha : OkE X C a f) (hb : OkE X C b g) : OkE X C (.BinOp a op b pos) (eBin o f g) := PE.imp (pe_op (opr_bin C ho) ha hb) fun σ H Q q => by
  obtain ⟨H0, Hs, ρ, dz, st, e, k⟩ := q
  obtain ⟨x, hx, e2⟩ := bind_some e
  obtain ⟨y, hy, e3⟩ := bind_some e2
  exact ⟨H0, Hs, ρ, x, st, hx, fun v Hs1 H1 g1 r1 => ⟨H0, Hs1, ρ, y, st.grow g1, hy, fun w Hs2 H2 g2 r2 => ⟨Hs2, x, y, dz, g2.sub, r1.mono g2.s, r2, e3, fun u Hs3 H3 g3 r3 => k u Hs3 H3 ((g1.trans g2).trans g3) r3⟩⟩⟩
/-- the reading of one comparison -/
theorem cmp_read {o : Cop} {σ : L2.St} {H : Hp} {Q : VK} (q : ∃ H0 Hs ρ b, StOk X.K C H0 σ Hs H ρ ∧ tCmp o f g ρ = some b ∧ ∀ Hs' H', Grow Hs H Hs' H' → Q (.bl b) H') :
    tOp (rC2 C X.K (cmpD o)) (tE X.K C f) (tBo X.K C g) σ H Q := by
  obtain ⟨H0, Hs, ρ, b, st, e, k⟩ := q
  obtain ⟨x, hx, e2⟩ := bind_some e
  obtain ⟨y, hy, e3⟩ := bind_some e2
  exact ⟨H0, Hs, ρ, x, st, hx, fun v Hs1 H1 g1 r1 => ⟨H0, Hs1, ρ, y, st.grow g1, hy, fun w Hs2 H2 g2 r2 => ⟨Hs2, x, y, b, g2.sub, r1.mono g2.s, r2, e3, k Hs2 H2 (g1.trans g2)⟩⟩⟩
theorem ok_cmpE {op : CmpOp} (hn : noSet b = true) (ha : OkE X C a f) (hb : OkBo X C b g) : OkE X C (.Compare a [op] [b] pos) (eTest (tCmp (opC op) f g)) := PE.imp (pe_cmpR (opr_cmp C op) ha hb (nomarks hn)) fun σ H Q q => by
  obtain ⟨H0, Hs, ρ, d, st, e, k⟩ := q
  obtain ⟨c, h1, h2⟩ := Option.map_eq_some_iff.mp e
  subst h2
  exact cmp_read ⟨H0, Hs, ρ, c, st, h1, fun Hs' H' gr => k _ Hs' H' gr (.bl c)⟩
theorem ok_cmpT {op : CmpOp} (hn : noSet b = true) (ha : OkE X C a f) (hb : OkBo X C b g) : OkT X C (.Compare a [op] [b] pos) (tCmp (opC op) f g) := PT.imp (pt_cmpR (opr_cmp C op) ha hb (nomarks hn)) fun σ H Q q => by
  obtain ⟨H0, Hs, ρ, c, st, e, k⟩ := q
  exact cmp_read ⟨H0, Hs, ρ, c, st, e, fun Hs' H' gr => ⟨c, rfl, k Hs' H' gr⟩⟩
theorem lastMarks2 {op op' : CmpOp} (hc : noSet c = true) : lastMarks [op, op'] [b, c] = false := nomarks hc
theorem chain_read {o o' : Cop} {σ : L2.St} {H : Hp} {Q : VK} (q : ∃ H0 Hs ρ d, StOk X.K C H0 σ Hs H ρ ∧ tChain o f g (tLast o' h) ρ = some d ∧ ∀ Hs' H', Grow Hs H Hs' H' → Q (.bl d) H') :
    L2.tChain (rC2 C X.K (cmpD o)) (rC2 C X.K (cmpD o')) (tE X.K C f) (tE X.K C g) (tBo X.K C h) σ H Q := by
  obtain ⟨H0, Hs, ρ, d, st, e, k⟩ := q
  obtain ⟨x, hx, e2⟩ := bind_some e
  obtain ⟨y, hy, e3⟩ := bind_some e2
  obtain ⟨c1, hc1, e4⟩ := bind_some e3
  refine ⟨H0, Hs, ρ, x, st, hx, fun v Hs1 H1 g1 r1 => ⟨H0, Hs1, ρ, y, st.grow g1, hy, fun w Hs2 H2 g2 r2 => ⟨Hs2, x, y, c1, g2.sub, r1.mono g2.s, .inl r2, hc1, c1, rfl, ?_⟩⟩⟩
  have g12 := g1.trans g2
  cases c1 with
  | false =>
    cases e4
    rw [if_neg Bool.false_ne_true]
    exact k Hs2 H2 g12
  | true =>
    have e5 : tLast o' h y ρ = some d := e4
    obtain ⟨z, hz, e6⟩ := bind_some e5
    rw [if_pos rfl]
    exact ⟨H0, Hs2, ρ, z, st.grow g12, hz, fun u Hs3 H3 g3 r3 => ⟨Hs3, y, z, d, g3.sub, r2.mono g3.s, r3, e6, k Hs3 H3 (g12.trans g3)⟩⟩
theorem ok_chainE {op op' : CmpOp} (hn : noSet c = true) (ha : OkE X C a f) (hb : OkE X C b g) (hc : OkBo X C c h) : OkE X C (.Compare a [op, op'] [b, c] pos) (eTest (tChain (opC op) f g (tLast (opC op') h))) :=
  PE.imp (pe_chain (opr_cmp C op) (opr_cmp C op') ha hb hc (lastMarks2 hn)) fun σ H Q q => by
  obtain ⟨H0, Hs, ρ, d, st, e, k⟩ := q
  obtain ⟨c, h1, h2⟩ := Option.map_eq_some_iff.mp e
  subst h2
  exact chain_read ⟨H0, Hs, ρ, c, st, h1, fun Hs' H' gr => k _ Hs' H' gr (.bl c)⟩
theorem ok_chainT {op op' : CmpOp} (hn : noSet c = true) (ha : OkE X C a f) (hb : OkE X C b g) (hc : OkBo X C c h) : OkT X C (.Compare a [op, op'] [b, c] pos) (tChain (opC op) f g (tLast (opC op') h)) :=
  PT.imp (pt_chain (opr_cmp C op) (opr_cmp C op') ha hb hc (lastMarks2 hn)) fun σ H Q q => by
  obtain ⟨H0, Hs, ρ, c, st, e, k⟩ := q
  exact chain_read ⟨H0, Hs, ρ, c, st, e, fun Hs' H' gr => ⟨c, rfl, k Hs' H' gr⟩⟩
/-- a op1 b op2 c op3 d, as a value -/
def tChain3 (r r' r'' : R2) (ta tb tc td : TE) : TE := fun σ H Q => ta σ H fun x H1 => tb σ H1 fun y H2 => r x y H2 fun z H3 => ∃ k, z = V.bl k ∧
  (if k = true then tc σ H3 fun w' H4 => r' y w' H4 fun z' H5 => ∃ k', z' = V.bl k' ∧ (if k' = true then td σ H5 fun u' H6 => r'' w' u' H6 Q else Q (.bl false) H5) else Q (.bl false) H3)
theorem pe_chain3 {op op' op'' : CmpOp} {r r' r'' : R2} {d : Expr} {ta tb tc td : TE} (ho : OpR X (compareOp op) r) (ho' : OpR X (compareOp op') r') (ho'' : OpR X (compareOp op'') r'') (ha : PE X a ta) (hb : PE X b tb) (hc : PE X c tc) (hd : PE X d td)
    (hm : lastMarks [op, op', op''] [b, c, d] = false) : PE X (.Compare a [op, op', op''] [b, c, d] pos) (tChain3 r r' r'' ta tb tc td) := by
  refine ⟨fun pins s σ H Q I h => ?_⟩
  refine Compare_chain (thn (ha.run pins s σ H _ I h) fun v s1 ⟨x, H1, I1, r1, q1⟩ => chain_link (thn (hb.run pins s1 σ H1 _ I1 q1) fun u s2 ⟨y, H2, I2, r2, q2⟩ =>
    thn (ho pins s2 σ H2 x y v u _ I2 r1 r2 q2) fun d s3 ⟨z, H3, I3, r3, k, e, q3⟩ => ?_)) hm
  subst e
  cases r3
  refine wpAny_truthy_bool ?_
  cases k with
  | false => exact ite_ff ⟨.bl false, H3, I3, rfl, q3⟩
  | true =>
    refine ite_tt (chain_link (thn (hc.run pins s3 σ H3 _ I3 q3) fun w' s4 ⟨z', H4, I4, r4, q4⟩ => thn (ho' pins s4 σ H4 y z' u w' _ I4 r2 r4 q4) fun d' s5 ⟨z2, H5, I5, r5, k', e', q5⟩ => ?_))
    subst e'
    cases r5
    refine wpAny_truthy_bool ?_
    cases k' with
    | false => exact ite_ff ⟨.bl false, H5, I5, rfl, q5⟩
    | true => exact ite_tt (chain_last (thn (hd.run pins s5 σ H5 _ I5 q5) fun w'' s6 ⟨z3, H6, I6, r6, q6⟩ => ho'' pins s6 σ H6 z' z3 w' w'' Q I6 r4 r6 q6))
theorem ok_chain3E {op op' op'' : CmpOp} {d : Expr} {l : SE} (hn : noSet d = true) (ha : OkE X C a f) (hb : OkE X C b g) (hc : OkE X C c h) (hd : OkBo X C d l) :
    OkE X C (.Compare a [op, op', op''] [b, c, d] pos) (eTest (tChain (opC op) f g (tMid (opC op') h (tLast (opC op'') l)))) :=
  PE.imp (pe_chain3 (opr_cmp C op) (opr_cmp C op') (opr_cmp C op'') ha hb hc hd (show lastMarks [op, op', op''] [b, c, d] = false from nomarks hn)) fun σ H Q q => by
  obtain ⟨H0, Hs, ρ, d, st, e, k⟩ := q
  obtain ⟨b0, e1, h2⟩ := Option.map_eq_some_iff.mp e
  subst h2
  obtain ⟨x, hx, e2⟩ := bind_some e1
  obtain ⟨y, hy, e3⟩ := bind_some e2
  obtain ⟨c1, hc1, e4⟩ := bind_some e3
  refine ⟨H0, Hs, ρ, x, st, hx, fun v Hs1 H1 g1 r1 => ⟨H0, Hs1, ρ, y, st.grow g1, hy, fun w Hs2 H2 g2 r2 => ⟨Hs2, x, y, c1, g2.sub, r1.mono g2.s, .inl r2, hc1, c1, rfl, ?_⟩⟩⟩
  have g12 := g1.trans g2
  cases c1 with
  | false =>
    cases e4
    rw [if_neg Bool.false_ne_true]
    exact k _ Hs2 H2 g12 (.bl _)
  | true =>
    have e5 : tMid (opC op') h (tLast (opC op'') l) y ρ = some b0 := e4
    obtain ⟨z, hz, e6⟩ := bind_some e5
    obtain ⟨c2, hc2, e7⟩ := bind_some e6
    rw [if_pos rfl]
    refine ⟨H0, Hs2, ρ, z, st.grow g12, hz, fun u Hs3 H3 g3 r3 => ⟨Hs3, y, z, c2, g3.sub, r2.mono g3.s, .inl r3, hc2, c2, rfl, ?_⟩⟩
    have g13 := g12.trans g3
    cases c2 with
    | false =>
      cases e7
      rw [if_neg Bool.false_ne_true]
      exact k _ Hs3 H3 g13 (.bl _)
    | true =>
      have e8 : tLast (opC op'') l z ρ = some b0 := e7
      obtain ⟨z3, hz3, e9⟩ := bind_some e8
      rw [if_pos rfl]
      exact ⟨H0, Hs3, ρ, z3, st.grow g13, hz3, fun u4 Hs4 H4 g4 r4 => ⟨Hs4, z, z3, b0, g4.sub, r3.mono g4.s, r4, e9, k _ Hs4 H4 (g13.trans g4) (.bl _)⟩⟩
/-! and, or, not -/
theorem ok_one {op} (h : OkE X C a f) : OkE X C (.BoolOp op [a] pos) f := pe_one h
theorem ok_and {rest : List Expr} (ha : OkE X C a f) (hb : OkE X C (.BoolOp .And (b :: rest) pos) g) : OkE X C (.BoolOp .And (a :: b :: rest) pos) (eAnd f g) := PE.imp (pe_and ha hb) fun σ H Q q => by
  obtain ⟨H0, Hs, ρ, d, st, e, k⟩ := q
  obtain ⟨x, hx, e2⟩ := bind_some e
  cases x with
  | bl c =>
    refine ⟨H0, Hs, ρ, _, st, hx, fun v Hs1 H1 g1 r1 => ?_⟩
    cases r1
    refine ⟨c, rfl, ?_⟩
    cases c with
    | false =>
      cases e2
      rw [if_neg Bool.false_ne_true]
      exact k _ Hs1 H1 g1 (.bl _)
    | true =>
      rw [if_pos rfl]
      exact ⟨H0, Hs1, ρ, d, st.grow g1, e2, fun w Hs2 H2 g2 r2 => k w Hs2 H2 (g1.trans g2) r2⟩
  | _ => cases e2
theorem ok_or {rest : List Expr} (ha : OkE X C a f) (hb : OkE X C (.BoolOp .Or (b :: rest) pos) g) : OkE X C (.BoolOp .Or (a :: b :: rest) pos) (eOr f g) := PE.imp (pe_or ha hb) fun σ H Q q => by
  obtain ⟨H0, Hs, ρ, d, st, e, k⟩ := q
  obtain ⟨x, hx, e2⟩ := bind_some e
  cases x with
  | bl c =>
    refine ⟨H0, Hs, ρ, _, st, hx, fun v Hs1 H1 g1 r1 => ?_⟩
    cases r1
    refine ⟨c, rfl, ?_⟩
    cases c with
    | true =>
      cases e2
      rw [if_pos rfl]
      exact k _ Hs1 H1 g1 (.bl _)
    | false =>
      rw [if_neg Bool.false_ne_true]
      exact ⟨H0, Hs1, ρ, d, st.grow g1, e2, fun w Hs2 H2 g2 r2 => k w Hs2 H2 (g1.trans g2) r2⟩
  | _ => cases e2
theorem ok_not (ha : OkE X C a f) : OkE X C (.UnaryOp .Not a pos) (eNot f) := PE.imp (pe_not ha) fun σ H Q q => by
  obtain ⟨H0, Hs, ρ, d, st, e, k⟩ := q
  obtain ⟨x, hx, e2⟩ := bind_some e
  cases x with
  | bl c =>
    cases e2
    refine ⟨H0, Hs, ρ, _, st, hx, fun v Hs1 H1 g1 r1 => ?_⟩
    cases r1
    exact ⟨c, rfl, k _ Hs1 H1 g1 (.bl _)⟩
  | _ => cases e2
theorem ok_neg (ha : OkE X C a f) : OkE X C (.UnaryOp .USub a pos) (eNeg f) := PE.imp (pe_un un_neg ha) fun σ H Q q => by
  obtain ⟨H0, Hs, ρ, d, st, e, k⟩ := q
  obtain ⟨x, hx, e2⟩ := bind_some e
  cases x with
  | int i =>
    cases e2
    refine ⟨H0, Hs, ρ, _, st, hx, fun v Hs1 H1 g1 r1 => ?_⟩
    cases r1
    exact ⟨i, rfl, k _ Hs1 H1 g1 (.int _)⟩
  | _ => cases e2
abbrev OkW (X : Cx) (C : Addr) (e : Expr) (f : ST) : Prop := PW X e (tT X.K C f)
variable {t u : ST}
theorem w_one {op : BoolOp} (h : OkT X C a t) : OkW X C (.BoolOp op [a] pos) t := by
  cases op
  · exact pw_and1 h
  · exact pw_or1 h
theorem w_and {rest : List Expr} (ha : OkT X C a t) (hb : OkW X C (.BoolOp .And (b :: rest) pos) u) : OkW X C (.BoolOp .And (a :: b :: rest) pos) (tAnd t u) := PW.imp (pw_and ha hb) fun σ H Q q => by
  obtain ⟨H0, Hs, ρ, d, st, e, k⟩ := q
  obtain ⟨c, hx, e2⟩ := bind_some e
  refine ⟨H0, Hs, ρ, c, st, hx, fun Hs1 H1 g1 => ?_⟩
  cases c with
  | false =>
    cases e2
    rw [if_neg Bool.false_ne_true]
    exact k Hs1 H1 g1
  | true =>
    rw [if_pos rfl]
    exact ⟨H0, Hs1, ρ, d, st.grow g1, e2, fun Hs2 H2 g2 => k Hs2 H2 (g1.trans g2)⟩
theorem w_or {rest : List Expr} (ha : OkT X C a t) (hb : OkW X C (.BoolOp .Or (b :: rest) pos) u) : OkW X C (.BoolOp .Or (a :: b :: rest) pos) (tOr t u) := PW.imp (pw_or ha hb) fun σ H Q q => by
  obtain ⟨H0, Hs, ρ, d, st, e, k⟩ := q
  obtain ⟨c, hx, e2⟩ := bind_some e
  refine ⟨H0, Hs, ρ, c, st, hx, fun Hs1 H1 g1 => ?_⟩
  cases c with
  | true =>
    cases e2
    rw [if_pos rfl]
    exact k Hs1 H1 g1
  | false =>
    rw [if_neg Bool.false_ne_true]
    exact ⟨H0, Hs1, ρ, d, st.grow g1, e2, fun Hs2 H2 g2 => k Hs2 H2 (g1.trans g2)⟩
theorem t_not (ha : OkT X C a t) : OkT X C (.UnaryOp .Not a pos) (tNot t) := PT.imp (pt_not ha) fun σ H Q q => by
  obtain ⟨H0, Hs, ρ, d, st, e, k⟩ := q
  obtain ⟨c, hx, e2⟩ := Option.map_eq_some_iff.mp e
  subst e2
  exact ⟨H0, Hs, ρ, c, st, hx, fun Hs1 H1 g1 => k Hs1 H1 g1⟩
theorem t_val (ha : OkE X C a f) (he : ∀ whole, isTrue a X.env whole = (do let v ← whole; standAt a.pos; holding [v] (truthy v))) : OkT X C a (tVal f) := PT.imp (pt_truth ha he) fun σ H Q q => by
  obtain ⟨H0, Hs, ρ, b, st, e, k⟩ := q
  obtain ⟨d, hx, e2⟩ := bind_some e
  exact ⟨H0, Hs, ρ, d, st, hx, fun v Hs1 H1 g1 r1 => ⟨b, tru_rep (r1.mono g1.sub) e2, k Hs1 H1 g1⟩⟩
/-! arguments, displays -/
theorem a_nil : OkA X C [] aNil := PA.imp pa_nil fun σ H Q q => by
  obtain ⟨H0, Hs, ρ, ds, st, e, k⟩ := q
  cases e
  exact k [] Hs H (.refl st.sub) .nil
theorem a_cons (hp : plainB e = true) (he : OkE X C e f) (hr : OkA X C es fs) : OkA X C (e :: es) (aCons f fs) := PA.imp (pa_cons he hr (starEach_cons hp)) fun σ H Q q => by
  obtain ⟨H0, Hs, ρ, ds, st, e, k⟩ := q
  obtain ⟨d, hd, e2⟩ := bind_some e
  obtain ⟨r, hr, e3⟩ := Option.map_eq_some_iff.mp e2
  subst e3
  exact ⟨H0, Hs, ρ, d, st, hd, fun v Hs1 H1 g1 r1 => ⟨H0, Hs1, ρ, r, st.grow g1, hr, fun vs Hs2 H2 g2 r2 => k _ Hs2 H2 (g1.trans g2) (.cons (r1.mono g2.s) r2)⟩⟩
theorem ok_lst (h : OkA X C es fs) : OkE X C (.List es pos) (eLst fs) := PE.imp (pe_lst h) fun σ H Q q => by
  obtain ⟨H0, Hs, ρ, d, st, e, k⟩ := q
  obtain ⟨ds, hd, e2⟩ := bind_some e
  by_cases c : ds.length ≤ big
  · rw [if_pos c] at e2
    cases e2
    refine ⟨H0, Hs, ρ, ds, st, hd, fun vs Hs1 H1 g1 r1 => ⟨by rw [r1.length]; exact big_line c, fun p hp => ?_⟩⟩
    have gr := Grow.new (o := .lst vs) g1.sub hp
    exact k _ _ _ (g1.trans gr) (.lst upd_same (r1.mono gr.s))
  · rw [if_neg c] at e2
    cases e2
theorem ok_tup {n : Nat} (h : OkA X C es fs) : OkE X C (.Tuple es n pos) (eTup fs) := PE.imp (pe_tup h) fun σ H Q q => by
  obtain ⟨H0, Hs, ρ, d, st, e, k⟩ := q
  obtain ⟨ds, hd, e2⟩ := bind_some e
  by_cases c : ds.length ≤ big
  · rw [if_pos c] at e2
    cases e2
    refine ⟨H0, Hs, ρ, ds, st, hd, fun vs Hs1 H1 g1 r1 => ⟨by rw [r1.length]; exact big_line c, fun p hp => ?_⟩⟩
    have gr := Grow.new (o := .tup vs) g1.sub hp
    exact k _ _ _ (g1.trans gr) (.tup (SqT.of upd_same) (r1.mono gr.s))
  · rw [if_neg c] at e2
    cases e2
/-! calls of built-ins -/
theorem blt_read {bf : List D → Option D} {σ : L2.St} {H : Hp} {Q : VK} (q : tE X.K C (fun ρ => (fs ρ).bind bf) σ H Q) : tCB (rDB C X.K bf) (tA X.K C fs) σ H Q := by
  obtain ⟨H0, Hs, ρ, d, st, e, k⟩ := q
  obtain ⟨ds, hd, e2⟩ := bind_some e
  exact ⟨H0, Hs, ρ, ds, st, hd, fun vs Hs1 H1 g1 r1 => ⟨Hs1, ds, d, g1.sub, r1, e2, fun v Hs2 H2 g2 r2 => k v Hs2 H2 (g1.trans g2) r2⟩⟩
theorem ok_bltB {x : Str} {p : Pos} {id : String} {bf : List D → Option D} (hc : CallR X (.builtin id) (rDB C X.K bf)) (hg : Gl X x) (hm : X.mg x = none) (hv : bootBuiltins x = some (.builtin id)) (hp : (e :: es).all plainB = true) (ha : OkA X C (e :: es) fs)
    (hn : x ≠ "__name__") (hdb : (x == ("__debug__" : Str)) = false) : OkE X C (.Call (.Name x p) (e :: es) [] pos) (fun ρ => (fs ρ).bind bf) := by
  rw [List.all_cons, Bool.and_eq_true] at hp
  exact PE.imp (pe_callB hc hg hm hv ha hn hdb (starEach_cons hp.1) (plain_any hp.2)) fun σ H Q q => blt_read q
theorem ok_bltTy {x : Str} {p : Pos} {id : String} {bf : List D → Option D} (hc : CallR X (.type id) (rDB C X.K bf)) (hg : Gl X x) (hm : X.mg x = none) (hv : bootBuiltins x = some (.type id)) (hp : (e :: es).all plainB = true) (ha : OkA X C (e :: es) fs)
    (hn : x ≠ "__name__") (hdb : (x == ("__debug__" : Str)) = false) : OkE X C (.Call (.Name x p) (e :: es) [] pos) (fun ρ => (fs ρ).bind bf) := by
  rw [List.all_cons, Bool.and_eq_true] at hp
  exact PE.imp (pe_callTy hc hg hm hv ha hn hdb (starEach_cons hp.1) (plain_any hp.2)) fun σ H Q q => blt_read q
theorem ok_bltF {x : Str} {p : Pos} {id : String} {bf : List D → Option D} (hc : CallR X (.builtin id) (rDB C X.K bf)) (hg : Gl X x) (hm : X.mg x = some (.builtin id)) (hp : (e :: es).all plainB = true) (ha : OkA X C (e :: es) fs)
    (hdb : (x == ("__debug__" : Str)) = false) : OkE X C (.Call (.Name x p) (e :: es) [] pos) (fun ρ => (fs ρ).bind bf) := by
  rw [List.all_cons, Bool.and_eq_true] at hp
  exact PE.imp (pe_callBfun hc hg hm ha hdb (starEach_cons hp.1) (plain_any hp.2)) fun σ H Q q => blt_read q
/-- len(x), x read in passing -/
theorem len_rep {K : PySem.W.Frag} {H : Hp} {v : V} {d dz : D} (r : Rep K C H v d) (h : bltD .len [d] = some dz) : ∃ n : Nat, dz = .int (n : Nat) ∧ LenV K v H n := by
  cases r with
  | str z =>
    have h2 : (if z.length ≤ big then some (D.int (z.length : Nat)) else none) = some dz := h
    by_cases c : z.length ≤ big
    · rw [if_pos c] at h2
      cases h2
      exact ⟨_, rfl, big_line c, rfl⟩
    · rw [if_neg c] at h2
      cases h2
  | @lst a xs ds h1 r1 =>
    cases h
    exact ⟨ds.length, rfl, .inl ⟨xs, SqL.of h1, r1.length.symm⟩⟩
  | @tup a xs ds h1 r1 =>
    cases h
    exact ⟨ds.length, rfl, .inr ⟨xs, h1, r1.length.symm⟩⟩
  | @scr a ns h1 =>
    cases h
    exact ⟨ns.length, rfl, .inl ⟨_, h1, by rw [List.length_map]⟩⟩
  | _ => cases h
theorem pa_one {te : TE} (hp : plainB e = true) (h : PE X e te) : PA X [e] (tCons te tNil) := pa_cons h pa_nil (starEach_cons hp)
theorem ok_len {x : Str} {p : Pos} (hx : x = "len") (hg : Gl X x) (hm : X.mg x = none) (hp : plainB e = true) (he : OkBo X C e f) : OkE X C (.Call (.Name x p) [e] [] pos) (eBlt .len (aCons f aNil)) := by
  subst hx
  refine PE.imp (pe_callB call_len hg hm boot_len (pa_one hp he) (by decide) (by decide) (starEach_cons hp) rfl) fun σ H Q q => ?_
  obtain ⟨H0, Hs, ρ, d, st, e, k⟩ := q
  obtain ⟨ds, hd, e2⟩ := bind_some e
  obtain ⟨d1, hd1, e3⟩ := bind_some hd
  cases e3
  refine ⟨H0, Hs, ρ, d1, st, hd1, fun v Hs1 H1 g1 r1 => ?_⟩
  obtain ⟨n, h1, h2⟩ := len_rep (r1.rep g1.sub) e2
  subst h1
  exact ⟨v, n, rfl, h2, k _ Hs1 H1 g1 (.int _)⟩
/-- isinstance(x, int), isinstance(x, bool) of ints and None -/
theorem isi_one {K : PySem.W.Frag} {H : Hp} {v : V} {d dz : D} (r : Rep K C H v d) :
    (bltD .isInt [d] = some dz → ∃ t b, TyX K H v t ∧ PySem.W.kitOne K t (.type "int") = some b ∧ dz = .bl b) ∧ (bltD .isBool [d] = some dz → ∃ t b, TyX K H v t ∧ PySem.W.kitOne K t (.type "bool") = some b ∧ dz = .bl b) := by
  cases r with
  | int i => exact ⟨(fun h => by
      cases h
      exact ⟨_, true, .base (.int i), kit_ty (by decide +kernel), rfl⟩), (fun h => by
      cases h
      exact ⟨_, false, .base (.int i), kit_ty (by decide +kernel), rfl⟩)⟩
  | non => exact ⟨(fun h => by
      cases h
      exact ⟨_, false, .base .non, kit_ty (by decide +kernel), rfl⟩), (fun h => by
      cases h
      exact ⟨_, false, .base .non, kit_ty (by decide +kernel), rfl⟩)⟩
  | _ => exact ⟨(fun h => by cases h), (fun h => by cases h)⟩
theorem ok_isI {x y : Str} {p p2 : Pos} (hx : x = "isinstance") (hy : y = "int") (hg : Gl X x) (hm : X.mg x = none) (hg2 : Gl X y) (hm2 : X.mg y = none) (hp : plainB e = true) (he : OkE X C e f) :
    OkE X C (.Call (.Name x p) [e, .Name y p2] [] pos) (eBlt .isInt (aCons f aNil)) := by
  subst hx hy
  refine PE.imp (pe_callB call_isi hg hm boot_isinstance (pa_cons he (pa_cons (pe_bltn (v := .ty "int") hg2 hm2 PyProof.Rows.boot_int rfl) pa_nil rfl) (starEach_cons hp)) (by decide) (by decide) (starEach_cons hp) rfl) fun σ H Q q => ?_
  obtain ⟨H0, Hs, ρ, d, st, e, k⟩ := q
  obtain ⟨ds, hd, e2⟩ := bind_some e
  obtain ⟨d1, hd1, e3⟩ := bind_some hd
  cases e3
  refine ⟨H0, Hs, ρ, d1, st, hd1, fun v Hs1 H1 g1 r1 => ?_⟩
  obtain ⟨t, b, h1, h2, h3⟩ := (isi_one (r1.mono g1.sub)).1 e2
  subst h3
  exact ⟨v, .ty "int", t, .type "int", b, rfl, .ty _, h1, h2, k _ Hs1 H1 g1 (.bl _)⟩
theorem ok_isB {x y : Str} {p p2 : Pos} (hx : x = "isinstance") (hy : y = "bool") (hg : Gl X x) (hm : X.mg x = none) (hg2 : Gl X y) (hm2 : X.mg y = none) (hp : plainB e = true) (he : OkE X C e f) :
    OkE X C (.Call (.Name x p) [e, .Name y p2] [] pos) (eBlt .isBool (aCons f aNil)) := by
  subst hx hy
  refine PE.imp (pe_callB call_isi hg hm boot_isinstance (pa_cons he (pa_cons (pe_bltn (v := .ty "bool") hg2 hm2 (by decide +kernel) rfl) pa_nil rfl) (starEach_cons hp)) (by decide) (by decide) (starEach_cons hp) rfl) fun σ H Q q => ?_
  obtain ⟨H0, Hs, ρ, d, st, e, k⟩ := q
  obtain ⟨ds, hd, e2⟩ := bind_some e
  obtain ⟨d1, hd1, e3⟩ := bind_some hd
  cases e3
  refine ⟨H0, Hs, ρ, d1, st, hd1, fun v Hs1 H1 g1 r1 => ?_⟩
  obtain ⟨t, b, h1, h2, h3⟩ := (isi_one (r1.mono g1.sub)).2 e2
  subst h3
  exact ⟨v, .ty "bool", t, .type "bool", b, rfl, .ty _, h1, h2, k _ Hs1 H1 g1 (.bl _)⟩
/-! calls of defs -/
def spF (K : PySem.W.Frag) (C : Addr) (n : Nat) (s : List D → Option D) : Sp := fun vs H Q _ => ∃ Hs ds d, Same Hs H ∧ Reps K C Hs vs ds ∧ ds.length = n ∧ s ds = some d ∧ ∀ v Hs' H', Grow Hs H Hs' H' → Rep K C Hs' v d → Q v H'
theorem call_read {n : Nat} {s : List D → Option D} {E : XK} {σ : L2.St} {H : Hp} {Q : VK} (hn : ∀ ρ ds, fs ρ = some ds → ds.length = n) (q : tE X.K C (eCall s fs) σ H Q) : tCall (spF X.K C n s) [] E (tA X.K C fs) σ H Q := by
  obtain ⟨H0, Hs, ρ, d, st, e, k⟩ := q
  obtain ⟨ds, hd, e2⟩ := bind_some e
  exact ⟨H0, Hs, ρ, ds, st, hd, fun vs Hs1 H1 g1 r1 => ⟨Hs1, ds, d, g1.sub, by rw [List.append_nil]; exact r1, hn ρ ds hd, e2, fun v Hs2 H2 g2 r2 => k v Hs2 H2 (g1.trans g2) r2⟩⟩
theorem ok_call {x : Str} {p : Pos} {k n : Nat} {fa : Addr} {fd : FuncData} {ps : List Str} {s : List D → Option D} (F : FnOk X.prog X.w X.K X.mg X.base CX0 k fa fd ps (spF X.K C n s)) (hr : Room k X.A) (hg : Gl X x) (hm : X.mg x = some (.ref fa))
    (hk : PySem.W.keepIn X.K (.ref fa) = true) (hb : Binds X.K fd ps []) (hp : (e :: es).all plainB = true) (ha : OkA X C (e :: es) fs) (hn : ∀ ρ ds, fs ρ = some ds → ds.length = n) (hdb : (x == ("__debug__" : Str)) = false) :
    OkE X C (.Call (.Name x p) (e :: es) [] pos) (eCall s fs) := by
  rw [List.all_cons, Bool.and_eq_true] at hp
  exact PE.imp (pe_call F hr hg hm hk hb .nil pass0 ha hdb (starEach_cons hp.1) (plain_any hp.2)) fun σ H Q q => call_read hn q
/-! subscripts, slices, fields -/
theorem atD_is {α : Type} (xs : List α) (i : Int) {v : α} (h : atD xs i = some v) : atI xs i = some v := by
  unfold atD at h
  by_cases h0 : 0 ≤ i
  · rw [if_pos h0] at h
    have hl := (List.getElem?_eq_some_iff.mp h).1
    unfold atI ixN
    rw [if_pos h0, if_pos (by omega)]
    exact h
  · rw [if_neg h0] at h
    by_cases h1 : -(xs.length : Int) ≤ i
    · rw [if_pos h1] at h
      unfold atI ixN
      rw [if_neg h0, if_pos h1]
      exact h
    · rw [if_neg h1] at h
      cases h
theorem atD_rep {K : PySem.W.Frag} {H : Hp} {vs : List V} {ds : List D} {i : Int} {d : D} (r : Reps K C H vs ds) (h : atD ds i = some d) : ∃ v, atI vs i = some v ∧ Rep K C H v d := by
  have hl := r.length
  unfold atD at h
  by_cases h0 : 0 ≤ i
  · rw [if_pos h0] at h
    obtain ⟨v, h1, h2⟩ := r.get h
    exact ⟨v, atD_is vs i (by unfold atD; rw [if_pos h0]; exact h1), h2⟩
  · rw [if_neg h0] at h
    by_cases c : -(ds.length : Int) ≤ i
    · rw [if_pos c] at h
      obtain ⟨v, h1, h2⟩ := r.get h
      refine ⟨v, atD_is vs i ?_, h2⟩
      unfold atD
      rw [if_neg h0, hl, if_pos c]
      exact h1
    · rw [if_neg c] at h
      cases h
def rDI (K : PySem.W.Frag) (C : Addr) : R2 := fun x y H Q => ∃ Hs dx dy dz, Same Hs H ∧ RepB K C Hs H x dx ∧ Rep K C Hs y dy ∧ ixD dx dy = some dz ∧ ∀ v, Rep K C Hs v dz → Q v H
theorem ixr : IxR X (rDI X.K C) := by
  intro value slice pins s σ H x y v u Q I rx ry h hs
  obtain ⟨Hs, dx, dy, dz, sub, hx, hy, e, k⟩ := h
  rcases hx with hx | ⟨a, xs, ds, rfl, rfl, ha, r⟩
  · cases hy with
    | int i =>
      cases hx with
      | @lst a xs ds h1 r =>
        obtain ⟨v', h2, h3⟩ := atD_rep r e
        exact ix_list value slice pins s σ H _ _ v u Q I rx ry ⟨a, xs, i, v', rfl, rfl, SqL.of (sub _ _ h1), h2, k v' h3⟩ hs
      | @tup a xs ds h1 r =>
        obtain ⟨v', h2, h3⟩ := atD_rep r e
        exact ix_tup value slice pins s σ H _ _ v u Q I rx ry ⟨a, xs, i, v', rfl, rfl, sqt_mono sub h1, h2, k v' h3⟩ hs
      | @scr a ns h1 =>
        have e2 : (atD ns i).map D.int = some dz := e
        obtain ⟨n, h2, h3⟩ := Option.map_eq_some_iff.mp e2
        subst h3
        have h4 : atD (ns.map V.int) i = some (.int n) := by
          unfold atD at h2 ⊢
          by_cases c : 0 ≤ i
          · rw [if_pos c] at h2 ⊢
            rw [List.getElem?_map, h2]
            rfl
          · rw [if_neg c] at h2 ⊢
            rw [List.length_map]
            by_cases c2 : -(ns.length : Int) ≤ i
            · rw [if_pos c2] at h2 ⊢
              rw [List.getElem?_map, h2]
              rfl
            · rw [if_neg c2] at h2
              cases h2
        exact ix_list value slice pins s σ H _ _ v u Q I rx ry ⟨a, _, i, _, rfl, rfl, sub.seq h1, atD_is _ _ h4, k _ (.int n)⟩ hs
      | str z =>
        have e2 : (if z.length ≤ big then (atD z.cps.toList i).map fun c => D.str ⟨#[c]⟩ else none) = some dz := e
        by_cases c : z.length ≤ big
        · rw [if_pos c] at e2
          obtain ⟨n, h2, h3⟩ := Option.map_eq_some_iff.mp e2
          subst h3
          exact ix_str value slice pins s σ H _ _ v u Q I rx ry ⟨z, i, n, rfl, rfl, big_line c, atD_is _ _ h2, k _ (.str _)⟩ hs
        · rw [if_neg c] at e2
          cases e2
      | _ => cases e
    | _ => cases hx <;> cases e
  · cases hy with
    | int i =>
      obtain ⟨v', h2, h3⟩ := atD_rep r e
      exact ix_list value slice pins s σ H _ _ v u Q I rx ry ⟨a, xs, i, v', rfl, rfl, SqL.of ha, h2, k v' h3⟩ hs
    | _ => cases e
def noSlice : Expr → Bool
  | .Slice .. => false
  | _ => true
theorem plain_ix (h : noSlice b = true) : PlainIx b := by
  intro o i
  cases b <;> first | rfl | cases h
theorem ok_ix (hn : noSlice b = true) (ha : OkBo X C a f) (hb : OkE X C b g) : OkE X C (.Subscript a b pos) (eIx f g) := PE.imp (pe_ix ixr ha hb (plain_ix hn)) fun σ H Q q => by
  obtain ⟨H0, Hs, ρ, d, st, e, k⟩ := q
  obtain ⟨x, hx, e2⟩ := bind_some e
  obtain ⟨y, hy, e3⟩ := bind_some e2
  refine ⟨H0, Hs, ρ, x, st, hx, fun v Hs1 H1 g1 r1 => ⟨H0, Hs1, ρ, y, st.grow g1, hy, fun w Hs2 H2 g2 r2 => ⟨Hs2, x, y, d, g2.sub, ?_, r2, e3, fun u r3 => k u Hs2 H2 (g1.trans g2) r3⟩⟩⟩
  rcases r1 with r1 | ⟨a, xs, ds, h1, h2, h3, h4⟩
  · exact .inl (r1.mono g2.s)
  · exact .inr ⟨a, xs, ds, h1, h2, g2.h _ _ h3, h4.mono g2.s⟩
abbrev OkO (X : Cx) (C : Addr) (e : Option Expr) (f : SO) : Prop := PO X e (tO X.K C f)
theorem o_none : OkO X C none oNone := PO.imp po_none fun σ H Q q => by
  obtain ⟨H0, Hs, ρ, d, st, e, k⟩ := q
  cases e
  exact k Hs H (.refl st.sub)
theorem o_some (h : OkE X C e f) : OkO X C (some e) (oSome f) := PO.imp (po_some h) fun σ H Q q => by
  obtain ⟨H0, Hs, ρ, o, st, e, k⟩ := q
  obtain ⟨d, hd, e2⟩ := bind_some e
  cases d with
  | int i =>
    cases e2
    refine ⟨H0, Hs, ρ, _, st, hd, fun v Hs1 H1 g1 r1 => ?_⟩
    cases r1
    exact ⟨i, rfl, k Hs1 H1 g1⟩
  | _ => cases e2
def rDS (K : PySem.W.Frag) (C : Addr) : V → Option Int → Option Int → Hp → VK → Prop := fun x lo hi H Q => ∃ Hs dx dz, Same Hs H ∧ Rep K C Hs x dx ∧ slD dx lo hi = some dz ∧ ∀ v Hs' H', Grow Hs H Hs' H' → Rep K C Hs' v dz → Q v H'
theorem cut_rep {K : PySem.W.Frag} {H : Hp} {vs : List V} {ds : List D} {lo hi : Option Int} (r : Reps K C H vs ds) : Reps K C H (cutV vs lo hi) (cutD ds lo hi) := by
  have hl := r.length
  have e : ∀ n d o, HT.sIx n d o = sIx n d o := fun n d o => by cases o <;> rfl
  unfold cutV cutD
  rw [e, e, hl]
  exact (r.drop _).take _
theorem slr : SlR X (rDS X.K C) := by
  intro pins s σ H x v vl vu lo hi sl Q I rx hs pl pu h
  obtain ⟨Hs, dx, dz, sub, hx, e, k⟩ := h
  have es : ∀ n d o, HT.sIx n d o = sIx n d o := fun n d o => by cases o <;> rfl
  cases hx with
  | @lst a xs ds h1 r =>
    cases e
    refine sl_list pins s σ H _ v vl vu lo hi sl Q I rx hs pl pu ⟨a, xs, rfl, SqL.of (sub _ _ h1), fun p hp => ?_⟩
    have g := Grow.new (o := .lst (cutV xs lo hi)) sub hp
    exact k _ _ _ g (.lst upd_same ((cut_rep r).mono g.s))
  | @tup a xs ds h1 r =>
    have e2 : (if sIx ds.length 0 lo = 0 ∧ sIx ds.length ds.length hi = ds.length then none else some (D.tup (cutD ds lo hi))) = some dz := e
    by_cases c : sIx ds.length 0 lo = 0 ∧ sIx ds.length ds.length hi = ds.length
    · rw [if_pos c] at e2
      cases e2
    · rw [if_neg c] at e2
      cases e2
      refine sl_tup pins s σ H _ v vl vu lo hi sl Q I rx hs pl pu ⟨a, xs, rfl, sqt_mono sub h1, by rw [es, es, r.length]; exact c, fun p hp => ?_⟩
      have g := Grow.new (o := .tup (cutV xs lo hi)) sub hp
      exact k _ _ _ g (.tup (SqT.of upd_same) ((cut_rep r).mono g.s))
  | str z =>
    have e2 : (if z.length ≤ big then some (D.str (cutS z lo hi)) else none) = some dz := e
    by_cases c : z.length ≤ big
    · rw [if_pos c] at e2
      cases e2
      refine sl_str pins s σ H _ v vl vu lo hi sl Q I rx hs pl pu ⟨z, rfl, big_line c, ?_⟩
      have ez : L2.cutS z lo hi = cutS z lo hi := by
        unfold L2.cutS cutS cutD
        rw [es, es]
        show Str.mk _ = Str.mk _
        have hz : z.length = z.cps.toList.length := by simp [Str.length]
        rw [hz]
      rw [ez]
      exact k _ _ _ (.refl sub) (.str _)
    · rw [if_neg c] at e2
      cases e2
  | _ => cases e
theorem ok_sl {lo hi : Option Expr} {fl fh : SO} {p2 : Pos} (ha : OkE X C a f) (hl : OkO X C lo fl) (hh : OkO X C hi fh) : OkE X C (.Subscript a (.Slice lo hi none p2) pos) (eSl f fl fh) := PE.imp (pe_slice slr ha hl hh) fun σ H Q q => by
  obtain ⟨H0, Hs, ρ, d, st, e, k⟩ := q
  obtain ⟨x, hx, e2⟩ := bind_some e
  obtain ⟨l, hl, e3⟩ := bind_some e2
  obtain ⟨u, hu, e4⟩ := bind_some e3
  exact ⟨H0, Hs, ρ, x, st, hx, fun v Hs1 H1 g1 r1 => ⟨H0, Hs1, ρ, l, st.grow g1, hl, fun Hs2 H2 g2 => ⟨H0, Hs2, ρ, u, st.grow (g1.trans g2), hu, fun Hs3 H3 g3 => ⟨Hs3, x, d, g3.sub, r1.mono (g2.s.trans g3.s), e4, fun w Hs4 H4 g4 r4 => k w Hs4 H4 (((g1.trans g2).trans g3).trans g4) r4⟩⟩⟩⟩
theorem ok_rev {n : Nat} {p1 p2 p3 : Pos} (ha : OkE X C a f) : OkE X C (.Subscript a (.Slice none none (some (.UnaryOp .USub (.Constant (.int 1) n p1) p2)) p3) pos) (eRev f) := PE.imp (pe_revL ha) fun σ H Q q => by
  obtain ⟨H0, Hs, ρ, d, st, e, k⟩ := q
  obtain ⟨x, hx, e2⟩ := bind_some e
  cases x with
  | lst ds =>
    cases e2
    refine ⟨H0, Hs, ρ, _, st, hx, fun v Hs1 H1 g1 r1 => ?_⟩
    cases r1 with
    | @lst a xs _ h1 r =>
      refine ⟨a, xs, rfl, SqL.of (g1.sub _ _ h1), fun p hp => ?_⟩
      have g := Grow.new (o := .lst xs.reverse) g1.sub hp
      exact k _ _ _ (g1.trans g) (.lst upd_same (r.rev.mono g.s))
  | _ => cases e2
theorem zip_lookup {K : PySem.W.Frag} {H : Hp} {f : Str} {d : D} : ∀ {fs : List (Str × V)} {ds : List D}, Reps K C H (fs.map (·.2)) ds → ((fs.map (·.1)).zip ds).lookup f = some d → ∃ v, fs.lookup f = some v ∧ Rep K C H v d
  | [], ds, r, h => by cases h
  | (n, v) :: fs, ds, r, h => by
    rw [List.map_cons] at r
    cases r with
    | @cons _ d' _ ds' h1 t =>
      have h2 : (match f == n with
        | true => some d'
        | false => ((fs.map (·.1)).zip ds').lookup f) = some d := h
      show ∃ w, (match f == n with
        | true => some v
        | false => fs.lookup f) = some w ∧ Rep K C H w d
      cases c : f == n with
      | true =>
        rw [c] at h2
        cases h2
        exact ⟨v, rfl, h1⟩
      | false =>
        rw [c] at h2
        exact zip_lookup t h2
def nameB : Expr → Bool
  | .Name .. => true
  | _ => false
theorem ok_fld {x : Str} (cl : Cls X.K C) (hx : NoAttr X.K C x) (hn : nameB a = true) (ha : OkE X C a f) : OkE X C (.Attribute a x pos) (eFld f x) := PE.imp (pe_fld (f := x) ha (by cases a <;> first | rfl | cases hn)) fun σ H Q q => by
  obtain ⟨H0, Hs, ρ, d, st, e, k⟩ := q
  obtain ⟨y, hy, e2⟩ := bind_some e
  refine ⟨H0, Hs, ρ, y, st, hy, fun v Hs1 H1 g1 r1 => ?_⟩
  cases r1 with
  | @obj a dx fs ds h1 r =>
    obtain ⟨w, h2, h3⟩ := zip_lookup r e2
    exact ⟨a, C, dx, fs, w, rfl, g1.sub _ _ h1, cl, hx, h2, k w Hs1 H1 g1 h3⟩
  | _ => cases e2
end
end WF
end
/-! text WS5 -/
section
set_option Elab.async false
set_option linter.all false
set_option maxRecDepth 100000
set_option maxHeartbeats 4000000
/-! What is walked, targets, comprehensions, statements by plain data. -/
namespace WF
open PySem PySem.Spec PyProof.Rows L2
section
variable {X : Cx} {C : Addr} {a b c e tg : Expr} {f g h : SE} {es : List Expr} {fs : SA} {pos : Pos}
abbrev OkI (X : Cx) (C : Addr) (tg e : Expr) (f : SA) : Prop := PI X tg e (tI X.K C f)
theorem walk_list {K : PySem.W.Frag} {Hs1 : Hp} {a : Addr} {xs : List V} {ds : List D} (h : SqL K Hs1 a xs) (r : Reps K C Hs1 xs ds) : Walks K C (Itl K a) Hs1 ds := fun i Hs H s1 s2 => by
  have hq : SqL K H a xs := (s1.trans s2).seq h
  refine ⟨fun d hd => ?_, fun hl => ⟨xs, hq, by rw [r.length]; exact hl⟩⟩
  obtain ⟨v, hv, hr⟩ := r.get hd
  refine ⟨⟨xs, v, hq, hv⟩, fun x H' y => ?_⟩
  obtain ⟨rfl, y⟩ := y
  have e : xs[i]? = some x := y xs hq
  rw [hv] at e
  cases e
  exact ⟨Hs, .refl s2, hr.mono s1⟩
theorem walk_tup {K : PySem.W.Frag} {Hs1 : Hp} {a : Addr} {xs : List V} {ds : List D} (h : SqT K Hs1 a xs) (r : Reps K C Hs1 xs ds) : Walks K C (Itt K a) Hs1 ds := fun i Hs H s1 s2 => by
  have hq : SqT K H a xs := sqt_mono (s1.trans s2) h
  refine ⟨fun d hd => ?_, fun hl => ⟨xs, hq, by rw [r.length]; exact hl⟩⟩
  obtain ⟨v, hv, hr⟩ := r.get hd
  refine ⟨⟨xs, v, hq, hv⟩, fun x H' y => ?_⟩
  obtain ⟨rfl, y⟩ := y
  have e : xs[i]? = some x := y xs hq
  rw [hv] at e
  cases e
  exact ⟨Hs, .refl s2, hr.mono s1⟩
theorem walk_str {K : PySem.W.Frag} {Hs1 : Hp} {z : Str} : Walks K C (Its z) Hs1 (z.cps.toList.map fun c => D.str ⟨#[c]⟩) := fun i Hs H s1 s2 => by
  refine ⟨fun d hd => ?_, fun hl => ?_⟩
  · rw [List.getElem?_map] at hd
    obtain ⟨c, hc, rfl⟩ := Option.map_eq_some_iff.mp hd
    have hi : i < z.cps.size := by
      have := (List.getElem?_eq_some_iff.mp hc).1
      simpa using this
    refine ⟨hi, fun x H' y => ?_⟩
    obtain ⟨rfl, c', hc', rfl⟩ := y
    have : c' = c := by
      rw [← Array.getElem?_toList, hc] at hc'
      exact (Option.some.inj hc').symm
    subst this
    exact ⟨Hs, .refl s2, .str _⟩
  · rw [List.length_map] at hl
    show z.cps.size ≤ i
    simpa using hl
theorem walk_rng {K : PySem.W.Frag} {Hs1 : Hp} {lo : Int} {n : Nat} : Walks K C (Itr lo n) Hs1 (upTo lo n) := fun i Hs H s1 s2 => by
  unfold upTo
  refine ⟨fun d hd => ?_, fun hl => ?_⟩
  · rw [List.getElem?_map] at hd
    obtain ⟨c, hc, rfl⟩ := Option.map_eq_some_iff.mp hd
    obtain ⟨hi, hc⟩ := List.getElem?_eq_some_iff.mp hc
    rw [List.length_range] at hi
    rw [List.getElem_range] at hc
    subst hc
    refine ⟨hi, fun x H' y => ?_⟩
    obtain ⟨rfl, rfl⟩ := y
    exact ⟨Hs, .refl s2, .int _⟩
  · rw [List.length_map, List.length_range] at hl
    exact hl
theorem walk_rngC {K : PySem.W.Frag} {Hs1 : Hp} {lo c : Int} {n : Nat} : Walks K C (Itc lo c n) Hs1 (byStep lo c n) := fun i Hs H s1 s2 => by
  unfold byStep
  refine ⟨fun d hd => ?_, fun hl => ?_⟩
  · rw [List.getElem?_map] at hd
    obtain ⟨c, hc, rfl⟩ := Option.map_eq_some_iff.mp hd
    obtain ⟨hi, hc⟩ := List.getElem?_eq_some_iff.mp hc
    rw [List.length_range] at hi
    rw [List.getElem_range] at hc
    subst hc
    refine ⟨hi, fun x H' y => ?_⟩
    obtain ⟨rfl, rfl⟩ := y
    exact ⟨Hs, .refl s2, .int _⟩
  · rw [List.length_map, List.length_range] at hl
    exact hl
theorem enumFrom_get : ∀ (ds : List D) (k i : Nat) (d : D), (enumFrom k ds)[i]? = some d → ∃ x, ds[i]? = some x ∧ d = .tup [.int ((k + i : Nat) : Int), x]
  | [], k, i, d, h => by
    unfold enumFrom at h
    simp at h
  | x :: ds, k, 0, d, h => by
    unfold enumFrom at h
    simp at h
    exact ⟨x, rfl, by rw [← h]; rfl⟩
  | x :: ds, k, i + 1, d, h => by
    unfold enumFrom at h
    obtain ⟨y, h1, h2⟩ := enumFrom_get ds (k + 1) i d (by simpa using h)
    refine ⟨y, by simpa using h1, ?_⟩
    rw [h2]
    have : k + 1 + i = k + (i + 1) := by omega
    rw [this]
theorem enumFrom_length : ∀ (ds : List D) (k : Nat), (enumFrom k ds).length = ds.length
  | [], k => rfl
  | x :: ds, k => by
    unfold enumFrom
    rw [List.length_cons, List.length_cons, enumFrom_length ds (k + 1)]
theorem walk_enum {K : PySem.W.Frag} {Hs1 : Hp} {a : Addr} {xs : List V} {ds : List D} (h : SqL K Hs1 a xs) (r : Reps K C Hs1 xs ds) : Walks K C (Ite K a) Hs1 (enumFrom 0 ds) := fun i Hs H s1 s2 => by
  have hq : SqL K H a xs := (s1.trans s2).seq h
  refine ⟨fun d hd => ?_, fun hl => ⟨xs, hq, by rw [enumFrom_length] at hl; rw [r.length]; exact hl⟩⟩
  obtain ⟨x, hx, rfl⟩ := enumFrom_get ds 0 i d hd
  obtain ⟨v, hv, hr⟩ := r.get hx
  refine ⟨⟨xs, v, hq, hv⟩, fun w H' y => ?_⟩
  obtain ⟨T, x', rfl, hT, rfl, y⟩ := y
  have e : xs[i]? = some x' := y xs hq
  rw [hv] at e
  cases e
  have gr := Grow.new (o := .tup [V.int (i : Nat), v]) s2 hT
  refine ⟨_, gr, .tup (SqT.of upd_same) (.cons ?_ (.cons (hr.mono (s1.trans gr.s)) .nil))⟩
  have : (0 + i : Nat) = i := by omega
  rw [this]
  exact .int _
/-- a list, a tuple, the script, a text -/
theorem i_seq (ha : OkE X C a f) : OkI X C tg a (iSeq f) := by
  refine ⟨fun pins s σ H R I q => ?_⟩
  obtain ⟨H0, Hs, ρ, ds, st, e, k⟩ := q
  obtain ⟨d, hd, e2⟩ := bind_some e
  cases d with
  | lst ds' =>
    cases e2
    refine (pi_list ha).run pins s σ H R I ⟨H0, Hs, ρ, _, st, hd, fun v Hs1 H1 g1 r1 => ?_⟩
    cases r1 with
    | @lst a xs _ h1 r => exact ⟨a, rfl, ⟨xs, SqL.of (g1.sub _ _ h1)⟩, k _ Hs1 H1 g1 (walk_list (SqL.of h1) r)⟩
  | tup ds' =>
    cases e2
    refine (pi_tup ha).run pins s σ H R I ⟨H0, Hs, ρ, _, st, hd, fun v Hs1 H1 g1 r1 => ?_⟩
    cases r1 with
    | @tup a xs _ h1 r => exact ⟨a, rfl, ⟨xs, sqt_mono g1.sub h1⟩, k _ Hs1 H1 g1 (walk_tup h1 r)⟩
  | scr ns =>
    cases e2
    refine (pi_list ha).run pins s σ H R I ⟨H0, Hs, ρ, _, st, hd, fun v Hs1 H1 g1 r1 => ?_⟩
    cases r1 with
    | @scr a _ h1 => exact ⟨a, rfl, ⟨_, g1.sub.seq h1⟩, k _ Hs1 H1 g1 (walk_list h1 (.of_ints ns))⟩
  | str z =>
    cases e2
    refine (pi_str ha).run pins s σ H R I ⟨H0, Hs, ρ, _, st, hd, fun v Hs1 H1 g1 r1 => ?_⟩
    cases r1
    exact ⟨z, rfl, k _ Hs1 H1 g1 walk_str⟩
  | _ => cases e2
theorem i_enum {p tpos : Pos} {elts : List Expr} {kk : Nat} {x : Str} (hx : x = "enumerate") (hg : Gl X x) (hm : X.mg x = none) (hp : plainB e = true) (ha : OkE X C e f) : OkI X C (.Tuple elts kk tpos) (.Call (.Name x p) [e] [] pos) (iEnum f) := by
  subst hx
  refine PI.imp (pi_enum hg hm (pa_one hp ha) (starEach_cons hp)) fun σ H R q => ?_
  obtain ⟨H0, Hs, ρ, ds, st, e, k⟩ := q
  obtain ⟨d, hd, e2⟩ := bind_some e
  cases d with
  | lst ds' =>
    cases e2
    refine ⟨H0, Hs, ρ, _, st, hd, fun v Hs1 H1 g1 r1 => ?_⟩
    cases r1 with
    | @lst a xs _ h1 r => exact ⟨a, xs, rfl, SqL.of (g1.sub _ _ h1), k _ Hs1 H1 g1 (walk_enum (SqL.of h1) r)⟩
  | _ => cases e2
theorem i_rng1 {x : Str} {p : Pos} (hx : x = "range") (hg : Gl X x) (hm : X.mg x = none) (hp : plainB a = true) (ha : OkA X C [a] fs) : OkI X C tg (.Call (.Name x p) [a] [] pos) (iRng rng1 fs) := by
  subst hx
  refine PI.imp (pi_range1 hg hm ha (starEach_cons hp)) fun σ H R q => ?_
  obtain ⟨H0, Hs, ρ, ds, st, e, k⟩ := q
  obtain ⟨as, hd, e2⟩ := bind_some e
  refine ⟨H0, Hs, ρ, as, st, hd, fun vs Hs1 H1 g1 r1 => ?_⟩
  unfold rng1 at e2
  split at e2
  · rename_i j
    obtain ⟨v, rfl, r⟩ := reps1 r1
    cases r
    by_cases c : small62 j = true
    · rw [if_pos c] at e2
      cases e2
      obtain ⟨c1, c2⟩ := small62_ok c
      exact ⟨j, rfl, c1, c2, k _ Hs1 H1 g1 walk_rng⟩
    · rw [if_neg c] at e2
      cases e2
  · cases e2
theorem i_rng2 {x : Str} {p : Pos} (hx : x = "range") (hg : Gl X x) (hm : X.mg x = none) (hp : plainB a = true) (hp2 : plainB b = true) (ha : OkA X C [a, b] fs) : OkI X C tg (.Call (.Name x p) [a, b] [] pos) (iRng rng2 fs) := by
  subst hx
  refine PI.imp (pi_range2 hg hm ha (by rw [starEach_cons hp, starEach_cons hp2]; rfl) (starEach_cons hp2)) fun σ H R q => ?_
  obtain ⟨H0, Hs, ρ, ds, st, e, k⟩ := q
  obtain ⟨as, hd, e2⟩ := bind_some e
  refine ⟨H0, Hs, ρ, as, st, hd, fun vs Hs1 H1 g1 r1 => ?_⟩
  unfold rng2 at e2
  split at e2
  · rename_i i j
    obtain ⟨v, w, rfl, r, r'⟩ := reps2 r1
    cases r
    cases r'
    by_cases c : (small62 i && small62 j) = true
    · rw [if_pos c] at e2
      cases e2
      obtain ⟨c3, c4⟩ := Bool.and_eq_true_iff.mp c
      obtain ⟨c1, c2⟩ := small62_ok c3
      obtain ⟨c5, c6⟩ := small62_ok c4
      exact ⟨i, j, rfl, ⟨c1, c2, c5, c6⟩, k _ Hs1 H1 g1 walk_rng⟩
    · rw [if_neg c] at e2
      cases e2
  · cases e2
theorem i_rng3 {x : Str} {p : Pos} (hx : x = "range") (hg : Gl X x) (hm : X.mg x = none) (hp : plainB a = true) (hp2 : plainB b = true) (hp3 : plainB c = true) (ha : OkA X C [a, b, c] fs) : OkI X C tg (.Call (.Name x p) [a, b, c] [] pos) (iRng rng3 fs) := by
  subst hx
  refine PI.imp (pi_range3 hg hm ha (starEach_cons hp) (plain_any (es := [b, c]) (by simp [hp2, hp3]))) fun σ H R q => ?_
  obtain ⟨H0, Hs, ρ, ds, st, e, k⟩ := q
  obtain ⟨as, hd, e2⟩ := bind_some e
  refine ⟨H0, Hs, ρ, as, st, hd, fun vs Hs1 H1 g1 r1 => ?_⟩
  unfold rng3 at e2
  split at e2
  · rename_i i j l
    obtain ⟨v, w, u, rfl, r, r', r''⟩ : ∃ v w u, vs = [v, w, u] ∧ Rep X.K C Hs1 v (.int i) ∧ Rep X.K C Hs1 w (.int j) ∧ Rep X.K C Hs1 u (.int l) := by
      cases r1 with
      | cons h t =>
        obtain ⟨w, u, rfl, h1, h2⟩ := reps2 t
        exact ⟨_, w, u, rfl, h, h1, h2⟩
    cases r
    cases r'
    cases r''
    by_cases cc : (small62 i && small62 j) = true
    · rw [if_pos cc] at e2
      obtain ⟨c3, c4⟩ := Bool.and_eq_true_iff.mp cc
      obtain ⟨c1, c2⟩ := small62_ok c3
      obtain ⟨c5, c6⟩ := small62_ok c4
      by_cases cl : l = -1
      · rw [if_pos cl] at e2
        cases e2
        subst cl
        exact ⟨i, j, -1, _, rfl, RgC.neg c1 c2 c5 c6, k _ Hs1 H1 g1 walk_rngC⟩
      · rw [if_neg cl] at e2
        by_cases c7 : l = 2 ∧ i = 0 ∧ j = 5
        · rw [if_pos c7] at e2
          cases e2
          obtain ⟨rfl, rfl, rfl⟩ := c7
          exact ⟨0, 5, 2, 3, rfl, ⟨by decide, by decide, by decide +kernel, by decide +kernel⟩, k _ Hs1 H1 g1 walk_rngC⟩
        · rw [if_neg c7] at e2
          cases e2
    · rw [if_neg cc] at e2
      cases e2
  · cases e2
/-! ### targets -/
abbrev OkG (X : Cx) (C : Addr) (e : Expr) (g : SG) : Prop := PG X e (tG X.K C g)
theorem g_name {i : Nat} {x : Str} (hN : X.N.Nodup) (hi : X.N[i]? = some x) (hx : Loc X.env.scope x) (hf : X.fn x = true ∨ X.env.scope.names.lookup x = some .local) : OkG X C (.Name x pos) (gName i) := PG.imp (pg_name hN hi hx hf) fun v σ H Q q => by
  obtain ⟨H0, Hs, ρ, ρ', d, st, r, e, k⟩ := q
  cases e
  exact k _ (st.set_val r)
/-- several names -/
def rNames : List Nat → TGs
  | [] => gNil
  | i :: is => gCons (L2.gName i) (rNames is)
theorem set_names {K : PySem.W.Frag} {H0 Hs H : Hp} {Q : L2.St → Hp → Prop} : ∀ {is : List Nat} {vs : List V} {ds : List D} {σ : L2.St} {ρ ρ' : Env}, StOk K C H0 σ Hs H ρ → Reps K C Hs vs ds → setAll is ds ρ = some ρ' → (∀ σ', StOk K C H0 σ' Hs H ρ' → Q σ' H) → rNames is vs σ H Q
  | [], vs, ds, σ, ρ, ρ', st, r, e, k => by
    cases r with
    | nil =>
      cases e
      exact ⟨rfl, k σ st⟩
    | cons _ _ => cases e
  | i :: is, vs, ds, σ, ρ, ρ', st, r, e, k => by
    cases r with
    | nil => cases e
    | cons h t => exact ⟨_, _, rfl, set_names (st.set_val h) t e k⟩
theorem setAll_len : ∀ {is : List Nat} {ds : List D} {ρ ρ' : Env}, setAll is ds ρ = some ρ' → ds.length = is.length
  | [], [], _, _, _ => rfl
  | [], _ :: _, _, _, h => by cases h
  | _ :: _, [], _, _, h => by cases h
  | _ :: is, _ :: ds, _, _, h => by
    rw [List.length_cons, List.length_cons, setAll_len (is := is) h]
theorem assignEach_plain {env : PySem.Env} : ∀ {es : List Expr}, es.all plainB = true → (assignEach es env).length = es.length ∧ (assignEach es env).findIdx? (·.1) = none
  | [], _ => ⟨rfl, rfl⟩
  | e :: es, h => by
    rw [List.all_cons, Bool.and_eq_true] at h
    obtain ⟨h1, h2⟩ := assignEach_plain (env := env) h.2
    have q : assignEach (e :: es) env = (false, assign e env) :: assignEach es env := by
      have h3 := h.1
      cases e <;> first | rfl | cases h3
    rw [q]
    refine ⟨by rw [List.length_cons, List.length_cons, h1], ?_⟩
    rw [List.findIdx?_cons, h2]
    rfl
theorem g_tup {is : List Nat} {n : Nat} (hc : X.calm = true) (hp : es.all plainB = true) (hl : es.length = is.length) (h : PGs X es (rNames is)) : OkG X C (.Tuple es n pos) (gTup is) := PG.imp (pg_tup hc h (assignEach_plain hp).1 (assignEach_plain hp).2) fun v σ H Q q => by
  obtain ⟨H0, Hs, ρ, ρ', d, st, r, e, k⟩ := q
  cases r with
  | @tup a xs ds h1 r =>
    have e2 : setAll is ds ρ = some ρ' := e
    exact ⟨a, xs, rfl, sqt_mono st.sub h1, by rw [r.length, setAll_len e2, hl], set_names st r e2 k⟩
  | _ => cases e
theorem gs_cons {e : Expr} {i : Nat} {is : List Nat} (hp : plainB e = true) (h1 : PG X e (L2.gName i)) (h2 : PGs X es (rNames is)) : PGs X (e :: es) (rNames (i :: is)) := pgs_cons h1 h2 (by cases e <;> first | rfl | cases hp)
/-! ### comprehensions -/
theorem own_wipe {K : PySem.W.Frag} {H0 Hs H : Hp} {σ : L2.St} {ρ : Env} (st : StOk K C H0 σ Hs H ρ) (vs : List Nat) : StOk K C H0 (wipe σ vs) Hs H (wipeE ρ vs) := st.wipe vs
/-- a target that stores in the places vs alone -/
def Keeps (vs : List Nat) (g : TG) : Prop := ∀ (v : V) (σ : L2.St) (H : Hp) (Q : L2.St → Hp → Prop), g v (wipe σ vs) H Q → g v (wipe σ vs) H fun σ2 H2 => wipe σ2 vs = wipe σ vs ∧ Q σ2 H2
theorem wipe_set {i : Nat} {o : Option V} : ∀ {vs : List Nat} {σ : L2.St}, i ∈ vs → wipe (σ.set i o) vs = wipe σ vs
  | [], _, h => by cases h
  | v :: vs, σ, h => by
    show (wipe (σ.set i o) vs).set v none = (wipe σ vs).set v none
    by_cases c : i ∈ vs
    · rw [wipe_set c]
    · have e : i = v := by
        rcases List.mem_cons.mp h with e | e
        · exact e
        · exact absurd e c
      subst e
      have swap : ∀ (ws : List Nat), i ∉ ws → wipe (σ.set i o) ws = (wipe σ ws).set i o := by
        intro ws
        induction ws with
        | nil => intro _; rfl
        | cons w ws ih =>
          intro hn
          show (wipe (σ.set i o) ws).set w none = ((wipe σ ws).set w none).set i o
          rw [ih fun z => hn (List.mem_cons_of_mem _ z), List.set_comm _ _ fun z => hn (by rw [z]; exact List.mem_cons_self)]
      rw [swap vs c, List.set_set]
theorem wipe_wipe {vs : List Nat} {σ : L2.St} : wipe (wipe σ vs) vs = wipe σ vs := by
  have key : ∀ (ws : List Nat) (τ : L2.St), (∀ i ∈ ws, i ∈ vs) → wipe (wipe τ ws) vs = wipe τ vs := by
    intro ws
    induction ws with
    | nil => intro τ _; rfl
    | cons w ws ih =>
      intro τ h
      show wipe ((wipe τ ws).set w none) vs = wipe τ vs
      rw [wipe_set (h w List.mem_cons_self), ih τ fun i hi => h i (List.mem_cons_of_mem _ hi)]
  exact key vs σ fun _ h => h
theorem keep_names {vs : List Nat} : ∀ {is : List Nat}, (∀ i ∈ is, i ∈ vs) → ∀ (xs : List V) (σ τ : L2.St) (H : Hp) (Q : L2.St → Hp → Prop), wipe σ vs = wipe τ vs → rNames is xs σ H Q → rNames is xs σ H fun σ2 H2 => wipe σ2 vs = wipe τ vs ∧ Q σ2 H2
  | [], _, xs, σ, τ, H, Q, e, q => ⟨q.1, e, q.2⟩
  | i :: is, hi, xs, σ, τ, H, Q, e, q => by
    obtain ⟨v, r, e1, q⟩ := q
    refine ⟨v, r, e1, keep_names (fun j hj => hi j (List.mem_cons_of_mem _ hj)) r _ τ H Q ?_ q⟩
    rw [wipe_set (hi i List.mem_cons_self)]
    exact e
abbrev OkTs (X : Cx) (C : Addr) (ifs : List Expr) (t : ST) : Prop := PTs X ifs (tT X.K C t)
theorem ts_nil : OkTs X C [] tYes := ⟨fun pins s σ H Q I q => pts_nil.run pins s σ H Q I (by
  obtain ⟨H0, Hs, ρ, b, st, e, k⟩ := q
  cases e
  exact k Hs H (.refl st.sub))⟩
theorem ts_one {t : ST} (h : OkT X C c t) : OkTs X C [c] t := pts_one h
end
/-- what a comprehension's block is at: the parts of tLc by plain data -/
theorem lc_read {K : PySem.W.Frag} {C : Addr} {wi : TI} {lg : TG} {tt : TT} {te : TE} {vs : List Nat} {gg : SG} {it : SA} {t : ST} {ee : SE}
    (hi : wi = tI K C it) (hg : ∀ v σ H Q, tG K C gg v σ H Q → lg v σ H Q) (hk : Keeps vs lg) (ht : tt = tT K C t) (he : te = tE K C ee)
    {σ : L2.St} {H : Hp} {Q : VK} (q : tE K C (eComp vs gg it t ee) σ H Q) : tLc wi lg tt te vs σ H Q := by
  subst hi ht he
  obtain ⟨H0, Hs, ρ, d, st, e, k⟩ := q
  obtain ⟨ds, hd, e2⟩ := bind_some e
  by_cases cb : ds.length ≤ big
  · rw [if_pos cb] at e2
    obtain ⟨out, e3, e4⟩ := Option.map_eq_some_iff.mp e2
    subst e4
    refine ⟨H0, Hs, ρ, ds, st, hd, fun J Hs1 H1 g1 w1 Dl hDl => ?_⟩
    have gD : Grow Hs1 H1 Hs1 (upd H1 Dl (.lst [])) := ⟨.refl _, same_new hDl, g1.sub.trans (same_new hDl), fun _ _ => rfl⟩
    -- the invariant: how far, what is made so far
    refine ⟨fun i m H' => m = ds.length - i ∧ i ≤ ds.length ∧ ∃ Hs' acc made rest, Same Hs1 Hs' ∧ Same Hs' H' ∧ Hs' Dl = none ∧ H' Dl = some (.lst acc) ∧ (∀ b o, b ≠ Dl → H1 b = some o → H' b = some o) ∧ (∀ b, H1 b ≠ none → Hs' b = Hs1 b) ∧
      Reps K C Hs' acc made ∧ compLoop (compTurn gg t ee vs ρ) (ds.drop i) = some rest ∧ made ++ rest = out ∧ made.length ≤ i,
      ⟨ds.length, by simp, Nat.zero_le _, Hs1, [], [], out, .refl _, gD.sub, same_back g1.sub hDl, upd_same, fun b o hb q => by rw [upd_ne hb]; exact q, fun _ _ => rfl, .nil, by rw [List.drop_zero]; exact e3, rfl, Nat.le_refl _⟩, ?_⟩
    rintro i m H' ⟨rfl, hil, Hs', acc, made, rest, s1, s2, hD0, hD1, kept, fresh, ra, er, eo, hml⟩
    obtain ⟨wgo, wstop⟩ := w1 i Hs' H' s1 s2
    by_cases hlt : i < ds.length
    · right
      have hdi : ds[i]? = some ds[i] := List.getElem?_eq_getElem hlt
      obtain ⟨go, step⟩ := wgo _ hdi
      rw [List.drop_eq_getElem_cons hlt] at er
      obtain ⟨y, ey, er2⟩ := bind_some (show (compTurn gg t ee vs ρ ds[i]).bind (fun y => match y with
        | some d => (compLoop (compTurn gg t ee vs ρ) (ds.drop (i + 1))).map (d :: ·)
        | none => compLoop (compTurn gg t ee vs ρ) (ds.drop (i + 1))) = some rest from er)
      obtain ⟨ρ2, eg, ey2⟩ := bind_some (show (gg ds[i] (wipeE ρ vs)).bind (fun ρ' => (t ρ').bind fun c => if c = true then (ee ρ').map some else some none) = some y from ey)
      obtain ⟨cnd, et, ey3⟩ := bind_some ey2
      refine ⟨go, fun H'' => ∃ m', m' < ds.length - i ∧ (m' = ds.length - (i + 1) ∧ i + 1 ≤ ds.length ∧ ∃ Hs' acc made rest, Same Hs1 Hs' ∧ Same Hs' H'' ∧ Hs' Dl = none ∧ H'' Dl = some (.lst acc) ∧ (∀ b o, b ≠ Dl → H1 b = some o → H'' b = some o) ∧ (∀ b, H1 b ≠ none → Hs' b = Hs1 b) ∧
        Reps K C Hs' acc made ∧ compLoop (compTurn gg t ee vs ρ) (ds.drop (i + 1)) = some rest ∧ made ++ rest = out ∧ made.length ≤ i + 1), fun H'' q => q, fun x H2 yl => ?_⟩
      obtain ⟨Hs2, g2, rx⟩ := step x H2 yl
      -- the state in the block
      have own1 : ∀ j es, ρ[j]? = some (Slot.own es) → ∃ a xs, σ[j]? = some (some (V.ref a)) ∧ H0 a = none ∧ Hs a = none ∧ H a = some (.lst xs) ∧ Reps K C Hs xs es := st.own
      have st2 : StOk K C H0 σ Hs2 H2 ρ := by
        refine ⟨g2.sub, st.len, fun j d q => ?_, fun j es q => ?_, st.dist⟩
        · obtain ⟨v, h1, h2⟩ := st.val j d q
          exact ⟨v, h1, h2.mono ((g1.s.trans s1).trans g2.s)⟩
        · obtain ⟨a, xs, h1, h2, h3, h4, h5⟩ := st.own j es q
          have h6 : H1 a = some (.lst xs) := g1.h _ _ h4
          have na : a ≠ Dl := ne_of_none h6 hDl
          have h7 : H' a = some (.lst xs) := kept a _ na h6
          refine ⟨a, xs, h1, h2, ?_, g2.h _ _ h7, h5.mono ((g1.s.trans s1).trans g2.s)⟩
          rw [g2.fresh a (by rw [h7]; intro z; cases z), fresh a (by rw [h6]; intro z; cases z), g1.fresh a (by rw [h4]; intro z; cases z)]
          exact h3
      refine hk x σ H2 _ (hg x _ H2 _ ⟨H0, Hs2, wipeE ρ vs, ρ2, ds[i], st2.wipe vs, rx, eg, fun σ3 st3 => ?_⟩)
      refine ⟨H0, Hs2, ρ2, cnd, st3, et, fun Hs3 H3 g3 => ?_⟩
      have g23 := g2.trans g3
      cases cnd with
      | false =>
        refine iteF ?_
        cases ey3
        refine ⟨_, by omega, rfl, by omega, Hs3, acc, made, rest, s1.trans g23.s, g3.sub, ?_, g23.h _ _ hD1, fun b o hb q => g23.h _ _ (kept b o hb q), fun b hb => ?_, ra.mono g23.s, er2, eo, by omega⟩
        · rw [g23.fresh Dl (by rw [hD1]; intro z; cases z)]
          exact hD0
        · have hb' : H' b ≠ none := by
            cases q : H1 b with
            | none => exact absurd q hb
            | some o =>
              rw [kept b o (ne_of_none q hDl) q]
              intro z
              cases z
          rw [g23.fresh b hb', fresh b hb]
      | true =>
        refine iteT ?_
        obtain ⟨dv, ed, ey4⟩ := Option.map_eq_some_iff.mp (show (ee ρ2).map some = some y from ey3)
        subst ey4
        refine ⟨H0, Hs3, ρ2, dv, st3.grow g3, ed, fun v4 Hs4 H4 g4 r4 => ?_⟩
        have g24 := g23.trans g4
        have hD4 : H4 Dl = some (.lst acc) := g24.h _ _ hD1
        have hs4 : Hs4 Dl = none := by
          rw [g24.fresh Dl (by rw [hD1]; intro z; cases z)]
          exact hD0
        obtain ⟨r2, er3, er4⟩ := Option.map_eq_some_iff.mp (show (compLoop (compTurn gg t ee vs ρ) (ds.drop (i + 1))).map (dv :: ·) = some rest from er2)
        have hml2 : made.length < big := by
          have := hml
          omega
        refine ⟨acc, hD4, ?_, _, by omega, rfl, by omega, Hs4, acc ++ [v4], made ++ [dv], r2, s1.trans g24.s, fun b o q => ?_, hs4, upd_same, fun b o hb q => ?_, fun b hb => ?_, (ra.mono g24.s).append (.cons r4 .nil), er3, ?_, ?_⟩
        · rw [ra.length]
          exact Nat.lt_of_lt_of_le hml2 (by decide)
        · rw [upd_ne (ne_of_none q hs4)]
          exact g4.sub _ _ q
        · rw [upd_ne hb]
          exact g24.h _ _ (kept b o hb q)
        · have hb' : H' b ≠ none := by
            cases q : H1 b with
            | none => exact absurd q hb
            | some o =>
              rw [kept b o (ne_of_none q hDl) q]
              intro z
              cases z
          rw [g24.fresh b hb', fresh b hb]
        · rw [List.append_assoc, ← eo, ← er4]
          rfl
        · rw [List.length_append, List.length_singleton]
          omega
    · left
      have ei : i = ds.length := by omega
      refine ⟨wstop (by omega), ?_⟩
      rw [List.drop_eq_nil_of_le (by omega)] at er
      have er' : some ([] : List D) = some rest := er
      cases er'
      rw [List.append_nil] at eo
      subst eo
      have sub : Same (upd Hs' Dl (.lst acc)) H' := fun b o q => by
        rcases upd_cases q with ⟨z, q2⟩ | ⟨ne, q2⟩
        · rw [z, hD1]
          exact q2.symm
        · exact s2 _ _ q2
      refine k (.ref Dl) (upd Hs' Dl (.lst acc)) H' (g1.trans ⟨s1.trans (same_new hD0), fun b o q => kept b o (ne_of_none q hDl) q, sub, fun b hb => ?_⟩) (.lst upd_same (ra.mono (same_new hD0)))
      rw [upd_ne fun z => hb (by rw [z]; exact hDl)]
      exact fresh b hb
  · rw [if_neg cb] at e2
    cases e2
end WF
end
/-! text WS6 -/
section
set_option Elab.async false
set_option linter.all false
set_option maxRecDepth 100000
set_option maxHeartbeats 4000000
/-! Statements by plain data. -/
namespace WF
open PySem PySem.Spec PyProof.Rows L2
section
variable {X : Cx} {C : Addr} {a b c e tg : Expr} {f g h : SE} {es : List Expr} {fs : SA} {pos : Pos}
abbrev OkS (X : Cx) (C : Addr) (st : Stmt) (s : SS) : Prop := PS X st (tS X.K C s)
abbrev OkSs (X : Cx) (C : Addr) (st : List Stmt) (s : SS) : Prop := PSs X st (tS X.K C s)
theorem ok_comp {iter elt : Expr} {ifs : List Expr} {scope : Scope} {own : List (Str × Nat)} {gg : SG} {it : SA} {t : ST} {ee : SE} {lg : TG} (hc : X.calm = true) (hN : X.N.Nodup) (hi : OkI X C tg iter it) (ok : BlkOk X.N X.env.scope scope own)
    (hg : ∀ (s : Shared) (H : Hp) (A : Addr) (cl : List (Str × Addr)) (fp : List Addr), PG (X.blk s H scope (compEnvC scope cl A X.env) fp) tg lg) (hgd : ∀ v σ H Q, tG X.K C gg v σ H Q → lg v σ H Q) (hk : Keeps (own.map (·.2)) lg)
    (ht : ∀ (s : Shared) (H : Hp) (A : Addr) (cl : List (Str × Addr)) (fp : List Addr), OkTs (X.blk s H scope (compEnvC scope cl A X.env) fp) C ifs t)
    (he : ∀ (s : Shared) (H : Hp) (A : Addr) (cl : List (Str × Addr)) (fp : List Addr), OkE (X.blk s H scope (compEnvC scope cl A X.env) fp) C elt ee) (hs : noSet iter = true) :
    OkE X C (.ListComp elt [⟨tg, iter, ifs, 0⟩] scope pos) (eComp (own.map (·.2)) gg it t ee) :=
  PE.imp (pe_lc hc hN hi ok hg ht he (by intro x; cases iter <;> first | rfl | cases hs)) fun σ H Q q => lc_read rfl hgd hk rfl rfl q
theorem endT {K : PySem.W.Frag} {H0 Hs0 Hs H Hs1 H1 : Hp} (g0 : Grow Hs0 H0 Hs H) (g1 : Grow Hs H Hs1 H1) : Grow Hs0 H0 Hs1 H1 := g0.trans g1
theorem s_frz {st : Stmt} {s : SS} (is : List Nat) (h : OkS X C st s) : OkS X C st (sFrz is s) := PS.imp h fun D σ H q => by
  obtain ⟨H0, Hs0, Hs, ρ, o, g0, st0, e, k⟩ := q
  obtain ⟨Hs', s1, g1, st1⟩ := st0.frz is g0
  exact ⟨H0, Hs0, Hs', _, o, g1, st1, e, k⟩
/-- what an assignment to a target leaves -/
theorem asg_read {lg : TG} {gg : SG} {te : TE} (hte : te = tE X.K C f) (hgd : ∀ v σ H Q, tG X.K C gg v σ H Q → lg v σ H Q) (D : L2.Ends) (σ : L2.St) (H : Hp) (q : tS X.K C (sAsg gg f) D σ H) : tAsg te lg D σ H := by
  subst hte
  obtain ⟨H0, Hs0, Hs, ρ, o, g0, st, e, k⟩ := q
  obtain ⟨d, hd, e2⟩ := bind_some e
  obtain ⟨ρ', e3, e4⟩ := Option.map_eq_some_iff.mp e2
  subst e4
  exact ⟨H0, Hs, ρ, d, st, hd, fun v Hs1 H1 g1 r1 => hgd v σ H1 _ ⟨H0, Hs1, ρ, ρ', d, st.grow g1, r1, e3, fun σ' st' => k σ' Hs1 H1 (g0.trans g1) st'⟩⟩
def noComp : Expr → Bool
  | .ListComp .. => false | .SetComp .. => false | .DictComp .. => false
  | _ => true
def noTup : Expr → Bool
  | .Tuple .. => false
  | _ => true
theorem swaps_no {t : Option Expr} {l : Nat} {env : PySem.Env} (h : noComp e = true) : swapsWith e t l env = pure false := by
  cases e <;> first | rfl | cases h
theorem name_tG {K : PySem.W.Frag} {i : Nat} (v : V) (σ : L2.St) (H : Hp) (Q : L2.St → Hp → Prop) (q : tG K C (gName i) v σ H Q) : L2.gName i v σ H Q := by
  obtain ⟨H0, Hs, ρ, ρ', d, st, r, e, k⟩ := q
  cases e
  exact k _ (st.set_val r)
theorem tup_tG {K : PySem.W.Frag} {is : List Nat} {n : Nat} (hl : n = is.length) (v : V) (σ : L2.St) (H : Hp) (Q : L2.St → Hp → Prop) (q : tG K C (gTup is) v σ H Q) : L2.gTup K n (rNames is) v σ H Q := by
  obtain ⟨H0, Hs, ρ, ρ', d, st, r, e, k⟩ := q
  cases r with
  | @tup a xs ds h1 r =>
    have e2 : setAll is ds ρ = some ρ' := e
    exact ⟨a, xs, rfl, sqt_mono st.sub h1, by rw [r.length, setAll_len e2, hl], set_names st r e2 k⟩
  | _ => cases e
theorem keep_name {i : Nat} {vs : List Nat} (h : i ∈ vs) : Keeps vs (L2.gName i) := fun v σ H Q q => ⟨by rw [wipe_set h, wipe_wipe], q⟩
theorem keep_tup {K : PySem.W.Frag} {is vs : List Nat} {n : Nat} (h : ∀ i ∈ is, i ∈ vs) : Keeps vs (L2.gTup K n (rNames is)) := fun v σ H Q q => by
  obtain ⟨a, xs, e, hq, hl, q⟩ := q
  refine ⟨a, xs, e, hq, hl, ?_⟩
  have z := keep_names h xs (wipe σ vs) (wipe σ vs) H Q rfl q
  rw [wipe_wipe] at z
  exact z
theorem s_set {i : Nat} {x : Str} {pos' : Pos} (hN : X.N.Nodup) (hi : X.N[i]? = some x) (hx : Loc X.env.scope x) (hf : X.fn x = true ∨ X.env.scope.names.lookup x = some .local) (hn : noComp e = true) (he : OkE X C e f) : OkS X C (.Assign [.Name x pos'] e pos) (sAsg (gName i) f) :=
  PS.imp (ps_set hN hi hx he (swaps_no hn) hf) fun D σ H q => asg_read rfl (fun v σ H Q q => name_tG v σ H Q q) D σ H q
/-- name = [.. for ..], whatever the stores' order -/
theorem s_setC {i : Nat} {x : Str} {pos' : Pos} {iter elt : Expr} {ifs : List Expr} {scope : Scope} {own : List (Str × Nat)} {gg : SG} {it : SA} {t : ST} {ee : SE} {lg : TG} {cpos : Pos} (hN : X.N.Nodup) (hi : X.N[i]? = some x) (hx : X.env.scope.names.lookup x = some .local)
    (hkind : X.env.scope.kind = .function) (hl : (pos'.line == cpos.line) = true) (hfree : (scope.names.any fun (n, k) => n == x && (k == .local || k == .cell)) = false)
    (hc : X.calm = true) (hit : OkI X C tg iter it) (ok : BlkOk X.N X.env.scope scope own)
    (hg : ∀ (s : Shared) (H : Hp) (A : Addr) (cl : List (Str × Addr)) (fp : List Addr), PG (X.blk s H scope (compEnvC scope cl A X.env) fp) tg lg) (hgd : ∀ v σ H Q, tG X.K C gg v σ H Q → lg v σ H Q) (hk : Keeps (own.map (·.2)) lg)
    (ht : ∀ (s : Shared) (H : Hp) (A : Addr) (cl : List (Str × Addr)) (fp : List Addr), OkTs (X.blk s H scope (compEnvC scope cl A X.env) fp) C ifs t)
    (he : ∀ (s : Shared) (H : Hp) (A : Addr) (cl : List (Str × Addr)) (fp : List Addr), OkE (X.blk s H scope (compEnvC scope cl A X.env) fp) C elt ee) (hs : noSet iter = true) :
    OkS X C (.Assign [.Name x pos'] (.ListComp elt [⟨tg, iter, ifs, 0⟩] scope cpos) pos) (sAsg (gName i) (eComp (own.map (·.2)) gg it t ee)) := by
  refine PS.imp (ps_setLc (tt := tT X.K C t) (te := tE X.K C ee) hc hN hi hx (sw_true hkind hx hl hfree) hit ok hg ht he (by intro x; cases iter <;> first | rfl | cases hs)) fun D σ H q => ?_
  obtain ⟨H0, Hs0, Hs, ρ, o, g0, st, e, k⟩ := q
  obtain ⟨d, hd, e2⟩ := bind_some e
  cases e2
  exact lc_read rfl hgd hk rfl rfl ⟨H0, Hs, ρ, d, st, hd, fun v Hs1 H1 g1 r1 => name_tG v σ H1 _ ⟨H0, Hs1, ρ, _, d, st.grow g1, r1, rfl, fun σ' st' => k σ' Hs1 H1 (g0.trans g1) st'⟩⟩
/-- the name is captured: an ordinary store -/
theorem swaps_cell {x : Str} {pos' : Pos} {elt : Expr} {gs : List Comprehension} {scope : Scope} {cpos : Pos} {l : Nat} {env : PySem.Env} (hx : env.scope.names.lookup x = some .cell) : swapsWith (.ListComp elt gs scope cpos) (some (.Name x pos')) l env = pure false := by
  have ky : env.kindOf x = some .cell := hx
  unfold swapsWith
  simp only [ky, show (some NameKind.cell == some NameKind.local) = false from rfl, Bool.and_false, Bool.false_and]
theorem s_setCell {i : Nat} {x : Str} {pos' : Pos} {elt : Expr} {gs : List Comprehension} {scope : Scope} {cpos : Pos} (hN : X.N.Nodup) (hi : X.N[i]? = some x) (hx : X.env.scope.names.lookup x = some .cell) (hf : X.fn x = true ∨ X.env.scope.names.lookup x = some .local)
    (he : OkE X C (.ListComp elt gs scope cpos) f) : OkS X C (.Assign [.Name x pos'] (.ListComp elt gs scope cpos) pos) (sAsg (gName i) f) :=
  PS.imp (ps_set hN hi (.inr hx) he (swaps_cell hx) hf) fun D σ H q => asg_read rfl (fun v σ H Q q => name_tG v σ H Q q) D σ H q
/-- a, b, .. = e -/
theorem s_unp {is : List Nat} {n : Nat} {tpos : Pos} (hc : X.calm = true) (hp : es.all plainB = true) (hl : es.length = is.length) (hgs : PGs X es (rNames is)) (hn : noComp e = true) (ht : noTup e = true) (he : OkE X C e f) : OkS X C (.Assign [.Tuple es n tpos] e pos) (sAsg (gTup is) f) := by
  have sw : swapsWithSole [.Tuple es n tpos] e pos.line X.env = pure false := by
    unfold swapsWithSole
    exact swaps_no hn
  have ss : swappedStores [.Tuple es n tpos] e X.env = pure none := by cases e <;> first | rfl | cases ht
  exact PS.imp (ps_asg he (pg_tup hc hgs (assignEach_plain hp).1 (assignEach_plain hp).2) sw ss rfl) fun D σ H q => asg_read rfl (fun v σ H Q q => tup_tG hl v σ H Q q) D σ H q
theorem s_own {i : Nat} {x : Str} {pos' lpos : Pos} (hN : X.N.Nodup) (hi : X.N[i]? = some x) (hx : Loc X.env.scope x) (hf : X.fn x = true ∨ X.env.scope.names.lookup x = some .local) (he : OkA X C es fs) : OkS X C (.Assign [.Name x pos'] (.List es lpos) pos) (sOwn i fs) :=
  PS.imp (ps_set hN hi hx (pe_lst he) (swaps_no rfl) hf) fun D σ H q => by
  obtain ⟨H0, Hs0, Hs, ρ, o, g0, st, e, k⟩ := q
  obtain ⟨ds, hd, e2⟩ := bind_some e
  by_cases cb : ds.length ≤ big
  · rw [if_pos cb] at e2
    cases e2
    refine ⟨H0, Hs, ρ, ds, st, hd, fun vs Hs1 H1 g1 r1 => ⟨by rw [r1.length]; exact big_line cb, fun p hp => ?_⟩⟩
    have g2 := g0.trans g1
    have st1 := (st.grow g1).set_own g2.h (i := i) hp r1
    exact k _ Hs1 _ ⟨g2.s, g2.h.trans (same_new hp), g2.sub.trans (same_new hp), g2.fresh⟩ st1
  · rw [if_neg cb] at e2
    cases e2
theorem s_app {i : Nat} {x m : Str} {p2 apos cpos : Pos} (hm : m = "append") (hv : PE X (.Name x p2) (tVar i)) (hp : plainB e = true) (hl : (apos.endLine == cpos.line) = true) (he : OkE X C e f) :
    OkS X C (.Expr (.Call (.Attribute (.Name x p2) m apos) [e] [] cpos) pos) (sApp i f) := by
  subst hm
  have hfew : ((backTo cpos (starEach [e] X.env)).all (fun x => !x.1) && (backToKw cpos (keywordEach [] X.env)).all (fun x => x.1.isSome)
      && decide (([e] : List Expr).length + ([] : List Keyword).length + (if ([] : List Keyword).isEmpty then 0 else 1) < 30)) = true := by
    rw [starEach_cons hp]
    rfl
  refine PS.imp (ps_expr (pe_bm PySem.F.plainAttrs_list PySem.F.slot_list_append PySem.F.type_list_append mt_append hv (pa_one hp he) rfl hfew hl (starEach_cons hp) rfl) rfl) fun D σ H q => ?_
  obtain ⟨H0, Hs0, Hs, ρ, o, g0, st, e, k⟩ := q
  obtain ⟨d, hd, e2⟩ := bind_some e
  cases hs : ρ[i]? with
  | none =>
    rw [hs] at e2
    cases e2
  | some sl =>
    rw [hs] at e2
    cases sl with
    | no => cases e2
    | val d => cases e2
    | own ds =>
      have e3 : (if ds.length < big then some (Out.nx (ρ.set i (.own (ds ++ [d])))) else none) = some o := e2
      by_cases cb : ds.length < big
      · rw [if_pos cb] at e3
        cases e3
        obtain ⟨a, xs, h1, h2, h3, h4, h5⟩ := st.own i ds hs
        refine ⟨.ref a, h1, .inl ⟨rfl, xs, SqL.of h4⟩, H0, Hs, ρ, d, st, hd, fun v Hs1 H1 g1 r1 => ?_⟩
        obtain ⟨a', xs', k1, k2, k3, k4, k5, st'⟩ := (st.grow g1).app hs r1
        rw [h1] at k1
        cases k1
        have g2 := g0.trans g1
        refine ⟨a, xs', v, rfl, rfl, k4, by rw [k5]; exact Nat.lt_of_lt_of_le cb (by decide), ?_⟩
        exact k σ Hs1 _ ⟨g2.s, fun b u q => by rw [upd_ne (ne_of_none q k2)]; exact g2.h _ _ q, fun b u q => by rw [upd_ne (ne_of_none q k3)]; exact g2.sub _ _ q, g2.fresh⟩ st'
      · rw [if_neg cb] at e3
        cases e3
theorem s_drop (hn : noComp e = true) (he : OkE X C e f) : OkS X C (.Expr e pos) (sDrop f) := PS.imp (ps_expr he (swaps_no hn)) fun D σ H q => by
  obtain ⟨H0, Hs0, Hs, ρ, o, g0, st, e, k⟩ := q
  obtain ⟨d, hd, e2⟩ := Option.map_eq_some_iff.mp e
  subst e2
  exact ⟨H0, Hs, ρ, d, st, hd, fun v Hs1 H1 g1 r1 => k σ Hs1 H1 (g0.trans g1) (st.grow g1)⟩
theorem s_ret (he : OkE X C e f) : OkS X C (.Return (some e) pos) (sRet f) := PS.imp (ps_ret he) fun D σ H q => by
  obtain ⟨H0, Hs0, Hs, ρ, o, g0, st, e, k⟩ := q
  obtain ⟨d, hd, e2⟩ := Option.map_eq_some_iff.mp e
  subst e2
  exact ⟨H0, Hs, ρ, d, st, hd, fun v Hs1 H1 g1 r1 => k v Hs1 H1 (g0.trans g1) r1⟩
theorem s_retN : OkS X C (.Return none pos) sRetN := PS.imp ps_retN fun D σ H q => by
  obtain ⟨H0, Hs0, Hs, ρ, o, g0, st, e, k⟩ := q
  cases e
  exact k .non Hs H g0 .non
theorem next_read {K : PySem.W.Frag} (D : L2.Ends) (σ : L2.St) (H : Hp) (q : tS K C sNext D σ H) : L2.tNext D σ H := by
  obtain ⟨H0, Hs0, Hs, ρ, o, g0, st, e, k⟩ := q
  cases e
  exact k σ Hs H g0 st
theorem s_pass : OkS X C (.Pass pos) sNext := PS.imp ps_pass next_read
theorem s_fail {st : Stmt} : OkS X C st sFail := PS.imp ps_never fun D σ H q => by
  obtain ⟨H0, Hs0, Hs, ρ, o, g0, st, e, k⟩ := q
  cases e
theorem ss_nil : OkSs X C [] sNext := PSs.imp pss_nil next_read
theorem ss_one {st : Stmt} {s : SS} (h : OkS X C st s) : OkSs X C [st] s := pss_one h
theorem seq_read {K : PySem.W.Frag} {s t : SS} (D : L2.Ends) (σ : L2.St) (H : Hp) (q : tS K C (sSeq s t) D σ H) : L2.tSeq (tS K C s) (tS K C t) D σ H := by
  obtain ⟨H0, Hs0, Hs, ρ, o, g0, st, e, k⟩ := q
  obtain ⟨o1, h1, e2⟩ := bind_some e
  refine ⟨H0, Hs0, Hs, ρ, o1, g0, st, h1, ?_⟩
  cases o1 with
  | nx ρ1 => exact fun σ' Hs' H' g1 st1 => ⟨H0, Hs0, Hs', ρ1, o, g1, st1, e2, k⟩
  | rt d =>
    cases e2
    exact k
theorem ss_cons {st : Stmt} {rest : List Stmt} {s t : SS} (h : OkS X C st s) (hr : OkSs X C rest t) : OkSs X C (st :: rest) (sSeq s t) := PSs.imp (pss_cons h hr) seq_read
theorem s_if {x y : List Stmt} {t : ST} {s u : SS} (hc : OkT X C c t) (ha : OkSs X C x s) (hb : OkSs X C y u) : OkS X C (.If c x y pos) (sIf t s u) := PS.imp (ps_if hc ha hb) fun D σ H q => by
  obtain ⟨H0, Hs0, Hs, ρ, o, g0, st, e, k⟩ := q
  obtain ⟨cv, h1, e2⟩ := bind_some e
  refine ⟨H0, Hs, ρ, cv, st, h1, fun Hs1 H1 g1 => ?_⟩
  cases cv with
  | true => exact iteT ⟨H0, Hs0, Hs1, ρ, o, g0.trans g1, st.grow g1, e2, k⟩
  | false => exact iteF ⟨H0, Hs0, Hs1, ρ, o, g0.trans g1, st.grow g1, e2, k⟩
/-- what stands behind a loop's body, a loop's end -/
theorem s_for {iter : Expr} {body : List Stmt} {gg : SG} {lg : TG} {it : SA} {s : SS} (hp : PassesOwn (model X.prog X.w) X.A X.env X.xe) (hc : X.calm = true) (hi : OkI X C tg iter it) (hg : PG X tg lg) (hgd : ∀ v σ H Q, tG X.K C gg v σ H Q → lg v σ H Q) (hb : OkSs X C body s)
    (hs : noSet iter = true) : OkS X C (.For tg iter body [] pos) (sFor gg it s) := PS.imp (ps_for hp hc hi hg hb (by intro x; cases iter <;> first | rfl | cases hs)) fun D σ H q => by
  obtain ⟨H0, Hs0, Hs, ρ, o, g0, st, e, k⟩ := q
  obtain ⟨ds, hd, e2⟩ := bind_some e
  refine ⟨H0, Hs, ρ, ds, st, hd, fun J Hs1 H1 g1 w1 => ?_⟩
  refine ⟨fun i m σ' H' => m = ds.length - i ∧ i ≤ ds.length ∧ ∃ Hs' ρ', Grow Hs0 H0 Hs' H' ∧ Same Hs1 Hs' ∧ StOk X.K C H0 σ' Hs' H' ρ' ∧ forLoop (fun d ρ => (gg d ρ).bind s) (ds.drop i) ρ' = some o,
    ⟨ds.length, by simp, Nat.zero_le _, Hs1, ρ, g0.trans g1, .refl _, st.grow g1, by rw [List.drop_zero]; exact e2⟩, ?_⟩
  rintro i m σ' H' ⟨rfl, hil, Hs', ρ', g', s', st', e'⟩
  obtain ⟨wgo, wstop⟩ := w1 i Hs' H' s' g'.sub
  by_cases hlt : i < ds.length
  · right
    obtain ⟨go, step⟩ := wgo _ (List.getElem?_eq_getElem hlt)
    rw [List.drop_eq_getElem_cons hlt] at e'
    obtain ⟨o1, e1, e4⟩ := bind_some (show ((fun d ρ => (gg d ρ).bind s) ds[i] ρ').bind (fun o => andThen o (forLoop (fun d ρ => (gg d ρ).bind s) (ds.drop (i + 1)))) = some o from e')
    obtain ⟨ρ2, eg, es⟩ := bind_some (show (gg ds[i] ρ').bind s = some o1 from e1)
    refine ⟨go, fun σ'' H'' => ∃ m', m' < ds.length - i ∧ (m' = ds.length - (i + 1) ∧ i + 1 ≤ ds.length ∧ ∃ Hs' ρ', Grow Hs0 H0 Hs' H'' ∧ Same Hs1 Hs' ∧ StOk X.K C H0 σ'' Hs' H'' ρ' ∧ forLoop (fun d ρ => (gg d ρ).bind s) (ds.drop (i + 1)) ρ' = some o), fun σ'' H'' q => q, fun x H2 yl => ?_⟩
    obtain ⟨Hs2, g2, rx⟩ := step x H2 yl
    have g02 := g'.trans g2
    refine hgd x σ' H2 _ ⟨H0, Hs2, ρ', ρ2, ds[i], st'.grow g2, rx, eg, fun σ3 st3 => ?_⟩
    refine ⟨H0, Hs2, Hs2, ρ2, o1, ?_, st3, es, ?_⟩
    · exact ⟨.refl _, g02.h, g02.sub, fun _ _ => rfl⟩
    · cases o1 with
      | rt d =>
        cases e4
        exact fun v Hs4 H4 g4 r4 => k v Hs4 H4 ⟨g02.s.trans g4.s, g4.h, g4.sub, fun a ha => by rw [g4.fresh a ha, g02.fresh a ha]⟩ r4
      | nx ρ3 =>
        exact fun σ4 Hs4 H4 g4 st4 => ⟨_, by omega, rfl, by omega, Hs4, ρ3, ⟨g02.s.trans g4.s, g4.h, g4.sub, fun a ha => by rw [g4.fresh a ha, g02.fresh a ha]⟩, (s'.trans g2.s).trans g4.s, st4, e4⟩
  · left
    have ei : i = ds.length := by omega
    refine ⟨wstop (by omega), ?_⟩
    rw [List.drop_eq_nil_of_le (by omega)] at e'
    cases e'
    exact k σ' Hs' H' g' st'
theorem s_while {body : List Stmt} {t : ST} {s : SS} (hp : PassesOwn (model X.prog X.w) X.A X.env X.xe) (hc : OkT X C c t) (hb : OkSs X C body s) : OkS X C (.While c body [] pos) (sWhile t s) := PS.imp (ps_while hp hc hb) fun D σ H q => by
  obtain ⟨H0, Hs0, Hs, ρ, o, g0, st, e, k⟩ := q
  refine ⟨fun m σ' H' => ∃ Hs' ρ', Grow Hs0 H0 Hs' H' ∧ StOk X.K C H0 σ' Hs' H' ρ' ∧ whileLoop t s m ρ' = some o, ⟨whileFuel, Hs, ρ, g0, st, e⟩, ?_⟩
  rintro m σ' H' ⟨Hs', ρ', g', st', e'⟩
  cases m with
  | zero => cases e'
  | succ m =>
    obtain ⟨cv, h1, e2⟩ := bind_some (show (t ρ').bind (fun c => if c = true then (s ρ').bind (fun o => andThen o (whileLoop t s m)) else some (.nx ρ')) = some o from e')
    refine ⟨H0, Hs', ρ', cv, st', h1, fun Hs1 H1 g1 => ?_⟩
    have g01 := g'.trans g1
    cases cv with
    | false =>
      cases e2
      exact iteF (k σ' Hs1 H1 g01 (st'.grow g1))
    | true =>
      obtain ⟨o1, h2, e3⟩ := bind_some (show (s ρ').bind (fun o => andThen o (whileLoop t s m)) = some o from e2)
      refine iteT ⟨fun σ'' H'' => ∃ m', m' < m + 1 ∧ ∃ Hs' ρ', Grow Hs0 H0 Hs' H'' ∧ StOk X.K C H0 σ'' Hs' H'' ρ' ∧ whileLoop t s m' ρ' = some o, fun σ'' H'' q => q, H0, Hs0, Hs1, ρ', o1, g01, st'.grow g1, h2, ?_⟩
      cases o1 with
      | rt d =>
        cases e3
        exact k
      | nx ρ3 => exact fun σ4 Hs4 H4 g4 st4 => ⟨m, Nat.lt_succ_self _, Hs4, ρ3, g4, st4, e3⟩
end
end WF
end
/-! text WS7 -/
section
set_option Elab.async false
set_option linter.all false
set_option maxRecDepth 100000
set_option maxHeartbeats 4000000
/-! From the text to plain data: the translation, and that it is right. -/
namespace WF
open PySem PySem.Spec PyProof.Rows L2
/-! ### the translation -/
structure Tx where
  N : List Str
  apps : List Nat
  fns : List (Str × Nat × (List D → Option D))
  con : List (Str × D)
  flds : List Str
structure Rd2 where
  e : Scope → Expr → Option SE
  t : Scope → Expr → Option ST
def slotOf (T : Tx) (sc : Scope) (x : Str) : Option Nat :=
  match sc.names.lookup x with
  | some .local | some .cell | some .free =>
    if (x == ("__debug__" : Str)) = false ∧ (x == ("__classdict__" : Str)) = false then
      (match T.N.findIdx? (fun y => decide (y = x)) with
        | some i => if T.N[i]? = some x then some i else none
        | none => none)
    else none
  | _ => none
def glB (sc : Scope) (x : Str) : Bool := match sc.names.lookup x with
  | some .globalImplicit => (x == ("__debug__" : Str)) == false
  | _ => false
def locB (sc : Scope) (x : Str) : Bool := match sc.names.lookup x with
  | some .local => true
  | some .cell => true
  | _ => false
def locLB (sc : Scope) (x : Str) : Bool := match sc.names.lookup x with
  | some .local => true
  | _ => false
def cellB (sc : Scope) (x : Str) : Bool := match sc.names.lookup x with
  | some .cell => true
  | _ => false
def conD : Const → Option D
  | .none => some .non
  | .bool b => some (.bl b)
  | .int i => some (.int i)
  | .str x => some (.str x)
  | _ => none
section
variable (T : Tx) (r : Rd2)
def cB (sc : Scope) (e : Expr) : Option SE := match e with
  | .Name x _ => (match slotOf T sc x with
    | some i => some (bVar i)
    | none => r.e sc e)
  | _ => r.e sc e
def cA (sc : Scope) : List Expr → Option SA
  | [] => some aNil
  | e :: es => match plainB e with
    | true => (match r.e sc e, cA sc es with
      | some f, some g => some (aCons f g)
      | _, _ => none)
    | false => none
def cO (sc : Scope) : Option Expr → Option SO
  | none => some oNone
  | some e => (r.e sc e).map oSome
def cVals (sc : Scope) (op : BoolOp) : List Expr → Option SE
  | [] => none
  | [a] => r.e sc a
  | a :: b :: rest => match r.e sc a, cVals sc op (b :: rest) with
    | some f, some g => some (match op with
      | .And => eAnd f g
      | .Or => eOr f g)
    | _, _ => none
def cTests (sc : Scope) (op : BoolOp) : List Expr → Option ST
  | [] => none
  | [a] => r.t sc a
  | a :: b :: rest => match r.t sc a, cTests sc op (b :: rest) with
    | some f, some g => some (match op with
      | .And => tAnd f g
      | .Or => tOr f g)
    | _, _ => none
def cCmp (sc : Scope) (a : Expr) (ops : List CmpOp) (cs : List Expr) : Option ST := match ops, cs with
  | [op], [b] => (match noSet b, r.e sc a, cB T r sc b with
    | true, some f, some g => some (tCmp (opC op) f g)
    | _, _, _ => none)
  | [op, op'], [b, c] => (match noSet c, r.e sc a, r.e sc b, cB T r sc c with
    | true, some f, some g, some h => some (tChain (opC op) f g (tLast (opC op') h))
    | _, _, _, _ => none)
  | _, _ => none
def cCmpV (sc : Scope) (a : Expr) (ops : List CmpOp) (cs : List Expr) : Option ST := match ops, cs with
  | [op, op', op''], [b, c, d] => (match noSet d, r.e sc a, r.e sc b, r.e sc c, cB T r sc d with
    | true, some f, some g, some h, some l => some (tChain (opC op) f g (tMid (opC op') h (tLast (opC op'') l)))
    | _, _, _, _, _ => none)
  | _, _ => cCmp T r sc a ops cs
def bltOf (x : Str) : Option Blt :=
  if x = ("int" : Str) then some .int else if x = ("any" : Str) then some .any else if x = ("max" : Str) then some .max else if x = ("min" : Str) then some .min else
  if x = ("list" : Str) then some .list else if x = ("tuple" : Str) then some .tuple else if x = ("lcm" : Str) then some .lcm else none
def cCall (sc : Scope) (x : Str) (args : List Expr) : Option SE := match glB sc x with
  | false => none
  | true => match T.fns.lookup x with
    | some (n, s) => (match args with
      | [] => none
      | e :: es => (match decide ((e :: es).length = n), cA r sc (e :: es) with
        | true, some f => some (eCall s f)
        | _, _ => none))
    | none => match decide (x = ("len" : Str)), args with
      | true, [a] => (match plainB a, cB T r sc a with
        | true, some f => some (eBlt .len (aCons f aNil))
        | _, _ => none)
      | true, _ => none
      | false, args => match decide (x = ("isinstance" : Str)), args with
        | true, [a, .Name y _] => (match plainB a, glB sc y, r.e sc a with
          | true, true, some f => if y = ("int" : Str) then some (eBlt .isInt (aCons f aNil)) else if y = ("bool" : Str) then some (eBlt .isBool (aCons f aNil)) else none
          | _, _, _ => none)
        | true, _ => none
        | false, [] => none
        | false, e :: es => (match bltOf x, cA r sc (e :: es) with
          | some b, some f => some (eBlt b f)
          | _, _ => none)
def isRev : Expr → Bool
  | .Slice none none (some (.UnaryOp .USub (.Constant (.int 1) _ _) _)) _ => true
  | _ => false
def cSub (sc : Scope) (a i : Expr) : Option SE := match isRev i with
  | true => (r.e sc a).map eRev
  | false => match i with
    | .Slice lo hi none _ => (match r.e sc a, cO r sc lo, cO r sc hi with
      | some f, some l, some h => some (eSl f l h)
      | _, _, _ => none)
    | i => (match noSlice i, cB T r sc a, r.e sc i with
      | true, some f, some g => some (eIx f g)
      | _, _, _ => none)
/-- the places of names -/
def cName (ok : Scope → Str → Bool) (sc : Scope) (x : Str) : Option Nat := match ok sc x with
  | true => slotOf T sc x
  | false => none
def cNames (ok : Scope → Str → Bool) (sc : Scope) : List Expr → Option (List Nat)
  | [] => some []
  | .Name x _ :: es => (match cName T ok sc x, cNames ok sc es with
    | some i, some is => some (i :: is)
    | _, _ => none)
  | _ => none
def cTarget (ok : Scope → Str → Bool) (sc : Scope) : Expr → Option (Sum Nat (List Nat))
  | .Name x _ => (cName T ok sc x).map .inl
  | .Tuple es _ _ => (cNames T ok sc es).map .inr
  | _ => none
def tgG : Sum Nat (List Nat) → SG
  | .inl i => gName i
  | .inr is => gTup is
def tgL : Sum Nat (List Nat) → List Nat
  | .inl i => [i]
  | .inr is => is
def isTup : Expr → Bool
  | .Tuple .. => true
  | _ => false
def cIterC (sc : Scope) (tg : Expr) (x : Str) (args : List Expr) (plain : Option SA) : Option SA := match glB sc x, T.fns.lookup x with
  | true, none => if x = ("range" : Str) then (match args with
      | [a] => (cA r sc [a]).map (iRng rng1)
      | [a, b] => (cA r sc [a, b]).map (iRng rng2)
      | [a, b, c] => (cA r sc [a, b, c]).map (iRng rng3)
      | _ => none)
    else if x = ("enumerate" : Str) then (match args with
      | [a] => (match isTup tg && plainB a with
        | true => (r.e sc a).map iEnum
        | false => none)
      | _ => none)
    else plain
  | _, _ => plain
def cIter (sc : Scope) (tg iter : Expr) : Option SA := match iter with
  | .Call f args kws _ => (match f, kws with
    | .Name x _, [] => cIterC T r sc tg x args ((r.e sc iter).map iSeq)
    | _, _ => (r.e sc iter).map iSeq)
  | _ => (r.e sc iter).map iSeq
def ownOf (scope : Scope) : List (Str × Nat) := scope.names.filterMap fun y => match y.2 with
  | .local | .cell => (match T.N.findIdx? (fun z => decide (z = y.1)) with
    | some i => some (y.1, i)
    | none => none)
  | _ => none
def cIfs (sc : Scope) : List Expr → Option ST
  | [] => some tYes
  | [c] => r.t sc c
  | _ => none
def cComp (sc : Scope) (elt tg iter : Expr) (ifs : List Expr) (scope : Scope) : Option SE :=
  match noSet iter && blkC T.N sc scope (ownOf T scope), cIter T r sc tg iter, cTarget T locLB (relS scope sc) tg, cIfs r (relS scope sc) ifs, r.e (relS scope sc) elt with
  | true, some it, some g, some t, some e => (match (tgL g).all fun i => decide (i ∈ (ownOf T scope).map (·.2)) with
    | true => some (eComp ((ownOf T scope).map (·.2)) (tgG g) it t e)
    | false => none)
  | _, _, _, _, _ => none
def stepE (sc : Scope) (e : Expr) : Option SE := match e with
  | .Constant c _ _ => (conD c).map eCon
  | .Name x _ => (match slotOf T sc x with
    | some i => some (eVar i)
    | none => (match glB sc x with
      | true => (T.con.lookup x).map eCon
      | false => none))
  | .BinOp a op b _ => (match opB op, r.e sc a, r.e sc b with
    | some o, some f, some g => some (eBin o f g)
    | _, _, _ => none)
  | .UnaryOp op a _ => (match op with
    | .Not => (r.e sc a).map eNot
    | .USub => (r.e sc a).map eNeg
    | _ => none)
  | .BoolOp op es _ => cVals r sc op es
  | .Compare a ops cs _ => (cCmpV T r sc a ops cs).map eTest
  | .List es _ => (cA r sc es).map eLst
  | .Tuple es _ _ => (cA r sc es).map eTup
  | .Attribute a x _ => (match nameB a && decide (x ∈ T.flds), r.e sc a with
    | true, some f => some (eFld f x)
    | _, _ => none)
  | .Subscript a i _ => cSub T r sc a i
  | .Call f args kws _ => (match f, kws with
    | .Name x _, [] => cCall T r sc x args
    | _, _ => none)
  | .ListComp elt gens scope _ => (match gens with
    | [⟨tg, iter, ifs, as⟩] => (match decide (as = 0) with
      | true => cComp T r sc elt tg iter ifs scope
      | false => none)
    | _ => none)
  | _ => none
def truB : Expr → Bool
  | .Name .. => true | .Call .. => true | .Subscript .. => true | .Attribute .. => true
  | _ => false
def stepT (sc : Scope) (e : Expr) : Option ST := match e with
  | .BoolOp op es _ => cTests r sc op es
  | .UnaryOp op a _ => (match op with
    | .Not => (r.t sc a).map tNot
    | _ => none)
  | .Compare a ops cs _ => cCmp T r sc a ops cs
  | e => (match truB e with
    | true => (r.e sc e).map tVal
    | false => none)
end
def rdN (T : Tx) : Nat → Rd2
  | 0 => ⟨fun _ _ => none, fun _ _ => none⟩
  | n + 1 => ⟨stepE T (rdN T n), stepT T (rdN T n)⟩
/-! ### what the translation leans on -/
def bltNames : List Str := ["len", "int", "any", "max", "min", "list", "tuple", "isinstance", "range", "enumerate", "bool"]
/-- calls of x, at a place, do what s says -/
def CallOk (X : Cx) (Cl : Addr) (x : Str) (n : Nat) (s : List D → Option D) : Prop := ∀ (e : Expr) (es : List Expr) (fs : SA) (p pos : Pos), Gl X x → OkA X Cl (e :: es) fs → (e :: es).all plainB = true → (∀ ρ ds, fs ρ = some ds → ds.length = n) →
  (x == ("__debug__" : Str)) = false → OkE X Cl (.Call (.Name x p) (e :: es) [] pos) (eCall s fs)
/-- .. at every place of the program where so much room is -/
def CalAt (P : Program) (w : World) (K : PySem.W.Frag) (mg : Str → Option Value) (base : Heap) (Cl : Addr) (k : Nat) (x : Str) (n : Nat) (s : List D → Option D) : Prop :=
  ∀ X : Cx, X.prog = P → X.w = w → X.K = K → X.mg = mg → X.base = base → X.calm = true → Room k X.A → CallOk X Cl x n s
structure Good (T : Tx) (Cl : Addr) (k : Nat) (top : Bool) (sc : Scope) (X : Cx) : Prop where
  N : X.N = T.N
  nd : T.N.Nodup
  sc : X.env.scope = sc
  calm : X.calm = true
  nox : X.xe = fun _ _ => False
  blt : ∀ x, x ∈ bltNames → X.mg x = none
  lcm : X.mg "lcm" = some (.builtin "math.lcm")
  con : ∀ x d, T.con.lookup x = some d → ∃ u v, X.mg x = some u ∧ RelV v u ∧ ∀ H, Rep X.K Cl H v d
  fns : ∀ x n s, T.fns.lookup x = some (n, s) → CalAt X.prog X.w X.K X.mg X.base Cl k x n s
  room : Room k X.A
  cls : Cls X.K Cl
  flds : ∀ f, f ∈ T.flds → NoAttr X.K Cl f
  top : top = true → X.fn = fun _ => true
theorem Good.blk {T : Tx} {Cl : Addr} {k : Nat} {top : Bool} {sc scope : Scope} {X : Cx} (G : Good T Cl k top sc X) (s : Shared) (H : Hp) (A : Addr) (cl : List (Str × Addr)) (fp : List Addr) : Good T Cl k false (relS scope sc) (X.blk s H scope (compEnvC scope cl A X.env) fp) where
  N := G.N
  nd := G.nd
  sc := by
    show relS scope X.env.scope = relS scope sc
    rw [G.sc]
  calm := G.calm
  nox := rfl
  blt := G.blt
  lcm := G.lcm
  con := G.con
  fns := G.fns
  room := G.room
  cls := G.cls
  flds := G.flds
  top := fun z => by cases z
section
variable {T : Tx} {Cl : Addr} {k : Nat} {top : Bool} {sc : Scope} {X : Cx}
theorem slot_ok (G : Good T Cl k top sc X) {x : Str} {i : Nat} (h : slotOf T sc x = some i) : X.N[i]? = some x ∧ Vis X.env.scope x ∧ (x == ("__debug__" : Str)) = false ∧ (x == ("__classdict__" : Str)) = false := by
  unfold slotOf at h
  rw [G.N, G.sc]
  have key : (if (x == ("__debug__" : Str)) = false ∧ (x == ("__classdict__" : Str)) = false then
      (match T.N.findIdx? (fun y => decide (y = x)) with
        | some i => if T.N[i]? = some x then some i else none
        | none => none)
    else none) = some i → T.N[i]? = some x ∧ (x == ("__debug__" : Str)) = false ∧ (x == ("__classdict__" : Str)) = false := fun q => by
    by_cases c : (x == ("__debug__" : Str)) = false ∧ (x == ("__classdict__" : Str)) = false
    · rw [if_pos c] at q
      split at q
      · rename_i j hj
        by_cases c2 : T.N[j]? = some x
        · rw [if_pos c2] at q
          cases q
          exact ⟨c2, c⟩
        · rw [if_neg c2] at q
          cases q
      · cases q
    · rw [if_neg c] at q
      cases q
  split at h
  · rename_i hl
    obtain ⟨a, b⟩ := key h
    exact ⟨a, .inl hl, b⟩
  · rename_i hl
    obtain ⟨a, b⟩ := key h
    exact ⟨a, .inr (.inl hl), b⟩
  · rename_i hl
    obtain ⟨a, b⟩ := key h
    exact ⟨a, .inr (.inr hl), b⟩
  · cases h
theorem slot_var (G : Good T Cl k top sc X) {x : Str} {i : Nat} {pos : Pos} (h : slotOf T sc x = some i) : PE X (.Name x pos) (tVar i) := by
  obtain ⟨a, b, c, d⟩ := slot_ok G h
  exact pe_var a b c d
theorem gl_ok (G : Good T Cl k top sc X) {x : Str} (h : glB sc x = true) : Gl X x ∧ (x == ("__debug__" : Str)) = false := by
  unfold glB at h
  show X.env.scope.names.lookup x = some .globalImplicit ∧ _
  rw [G.sc]
  split at h
  · rename_i hl
    exact ⟨hl, beq_iff_eq.mp h⟩
  · cases h
theorem loc_ok (G : Good T Cl k top sc X) {x : Str} (h : locB sc x = true) : Loc X.env.scope x := by
  unfold locB at h
  rw [G.sc]
  split at h
  · rename_i hl
    exact .inl hl
  · rename_i hl
    exact .inr hl
  · cases h
theorem locL_ok (G : Good T Cl k top sc X) {x : Str} (h : locLB sc x = true) : X.env.scope.names.lookup x = some .local := by
  unfold locLB at h
  rw [G.sc]
  split at h
  · rename_i hl
    exact hl
  · cases h
theorem cell_ok (G : Good T Cl k top sc X) {x : Str} (h : cellB sc x = true) : X.env.scope.names.lookup x = some .cell := by
  unfold cellB at h
  rw [G.sc]
  split at h
  · rename_i hl
    exact hl
  · cases h
/-- r is right: at every place -/
def Sound (T : Tx) (Cl : Addr) (k : Nat) (r : Rd2) : Prop := ∀ (top : Bool) (sc : Scope) (X : Cx), Good T Cl k top sc X → (∀ e f, r.e sc e = some f → OkE X Cl e f) ∧ ∀ e t, r.t sc e = some t → OkT X Cl e t
variable {r : Rd2}
theorem cB_ok (S : Sound T Cl k r) (G : Good T Cl k top sc X) {e : Expr} {f : SE} (h : cB T r sc e = some f) : OkBo X Cl e f := by
  unfold cB at h
  split at h
  · split at h
    · rename_i x _ i hi
      cases h
      exact bo_var (slot_var G hi)
    · exact ((S top sc X G).1 _ _ h).bo
  · exact ((S top sc X G).1 _ _ h).bo
theorem cA_ok (S : Sound T Cl k r) (G : Good T Cl k top sc X) : ∀ {es : List Expr} {f : SA}, cA r sc es = some f → OkA X Cl es f ∧ es.all plainB = true ∧ ∀ ρ ds, f ρ = some ds → ds.length = es.length
  | [], f, h => by
    cases h
    exact ⟨a_nil, rfl, fun ρ ds q => by cases q; rfl⟩
  | e :: es, f, h => by
    unfold cA at h
    split at h
    · rename_i hp
      split at h
      · rename_i f1 g1 h1 h2
        cases h
        obtain ⟨a1, a2, a3⟩ := cA_ok S G h2
        refine ⟨a_cons hp ((S top sc X G).1 _ _ h1) a1, by rw [List.all_cons, hp, a2]; rfl, fun ρ ds q => ?_⟩
        obtain ⟨d, hd, q2⟩ := bind_some q
        obtain ⟨r', hr, q3⟩ := Option.map_eq_some_iff.mp q2
        subst q3
        rw [List.length_cons, List.length_cons, a3 ρ r' hr]
      · cases h
    · cases h
theorem cO_ok (S : Sound T Cl k r) (G : Good T Cl k top sc X) {e : Option Expr} {f : SO} (h : cO r sc e = some f) : OkO X Cl e f := by
  cases e with
  | none =>
    cases h
    exact o_none
  | some e =>
    obtain ⟨g, h1, h2⟩ := Option.map_eq_some_iff.mp (show (r.e sc e).map oSome = some f from h)
    subst h2
    exact o_some ((S top sc X G).1 _ _ h1)
theorem cVals_ok (S : Sound T Cl k r) (G : Good T Cl k top sc X) {op : BoolOp} {pos : Pos} : ∀ {es : List Expr} {f : SE}, cVals r sc op es = some f → OkE X Cl (.BoolOp op es pos) f
  | [], f, h => by cases h
  | [a], f, h => ok_one ((S top sc X G).1 _ _ h)
  | a :: b :: rest, f, h => by
    unfold cVals at h
    split at h
    · rename_i f1 g1 h1 h2
      cases h
      have ha := (S top sc X G).1 _ _ h1
      have hb := cVals_ok S G (op := op) (pos := pos) h2
      cases op with
      | And => exact ok_and ha hb
      | Or => exact ok_or ha hb
    · cases h
theorem cTests_ok (S : Sound T Cl k r) (G : Good T Cl k top sc X) {op : BoolOp} {pos : Pos} : ∀ {es : List Expr} {f : ST}, cTests r sc op es = some f → OkW X Cl (.BoolOp op es pos) f
  | [], f, h => by cases h
  | [a], f, h => w_one ((S top sc X G).2 _ _ h)
  | a :: b :: rest, f, h => by
    unfold cTests at h
    split at h
    · rename_i f1 g1 h1 h2
      cases h
      have ha := (S top sc X G).2 _ _ h1
      have hb := cTests_ok S G (op := op) (pos := pos) h2
      cases op with
      | And => exact w_and ha hb
      | Or => exact w_or ha hb
    · cases h
theorem cCmp_ok (S : Sound T Cl k r) (G : Good T Cl k top sc X) {a : Expr} {ops : List CmpOp} {cs : List Expr} {t : ST} {pos : Pos} (h : cCmp T r sc a ops cs = some t) : OkT X Cl (.Compare a ops cs pos) t ∧ OkE X Cl (.Compare a ops cs pos) (eTest t) := by
  unfold cCmp at h
  split at h
  · split at h
    · rename_i f1 g1 hn h1 h2
      cases h
      exact ⟨ok_cmpT hn ((S top sc X G).1 _ _ h1) (cB_ok S G h2), ok_cmpE hn ((S top sc X G).1 _ _ h1) (cB_ok S G h2)⟩
    · cases h
  · split at h
    · rename_i f1 g1 l1 hn h1 h2 h3
      cases h
      exact ⟨ok_chainT hn ((S top sc X G).1 _ _ h1) ((S top sc X G).1 _ _ h2) (cB_ok S G h3), ok_chainE hn ((S top sc X G).1 _ _ h1) ((S top sc X G).1 _ _ h2) (cB_ok S G h3)⟩
    · cases h
  · cases h
theorem cCmpV_ok (S : Sound T Cl k r) (G : Good T Cl k top sc X) {a : Expr} {ops : List CmpOp} {cs : List Expr} {t : ST} {pos : Pos} (h : cCmpV T r sc a ops cs = some t) : OkE X Cl (.Compare a ops cs pos) (eTest t) := by
  unfold cCmpV at h
  split at h
  · split at h
    · rename_i f1 g1 l1 m1 hn h1 h2 h3 h4
      cases h
      exact ok_chain3E hn ((S top sc X G).1 _ _ h1) ((S top sc X G).1 _ _ h2) ((S top sc X G).1 _ _ h3) (cB_ok S G h4)
    · cases h
  · exact (cCmp_ok S G h).2
theorem cCall_ok (S : Sound T Cl k r) (G : Good T Cl k top sc X) {x : Str} {p pos : Pos} {args : List Expr} {f : SE} (h : cCall T r sc x args = some f) : OkE X Cl (.Call (.Name x p) args [] pos) f := by
  unfold cCall at h
  split at h
  · cases h
  · rename_i hg
    obtain ⟨g1, g2⟩ := gl_ok G hg
    split at h
    · rename_i n s hs
      have hcall := G.fns x n s hs X rfl rfl rfl rfl rfl G.calm G.room
      split at h
      · cases h
      · rename_i e es
        split at h
        · rename_i f1 hn h1
          cases h
          obtain ⟨a1, a2, a3⟩ := cA_ok S G h1
          exact hcall _ _ _ _ _ g1 a1 a2 (fun ρ ds q => by rw [a3 ρ ds q]; exact of_decide_eq_true hn) g2
        · cases h
    · split at h
      · rename_i hx
        have hx := of_decide_eq_true hx
        split at h
        · rename_i f1 hp h1
          cases h
          exact ok_len hx g1 (G.blt x (by rw [hx]; decide +kernel)) hp (cB_ok S G h1)
        · cases h
      · cases h
      · split at h
        · rename_i a y py hx
          have hx := of_decide_eq_true hx
          split at h
          · rename_i f1 hp hy h1
            obtain ⟨y1, y2⟩ := gl_ok G hy
            by_cases c1 : y = ("int" : Str)
            · rw [if_pos c1] at h
              cases h
              exact ok_isI hx c1 g1 (G.blt x (by rw [hx]; decide +kernel)) y1 (G.blt y (by rw [c1]; decide +kernel)) hp ((S top sc X G).1 _ _ h1)
            · rw [if_neg c1] at h
              by_cases c2 : y = ("bool" : Str)
              · rw [if_pos c2] at h
                cases h
                exact ok_isB hx c2 g1 (G.blt x (by rw [hx]; decide +kernel)) y1 (G.blt y (by rw [c2]; decide +kernel)) hp ((S top sc X G).1 _ _ h1)
              · rw [if_neg c2] at h
                cases h
          · cases h
        · cases h
        · cases h
        · split at h
          · rename_i b f1 hb h1
            cases h
            obtain ⟨a1, a2, a3⟩ := cA_ok S G h1
            have nn : ∀ y : Str, y ∈ bltNames → y ≠ "__name__" := by decide +kernel
            unfold bltOf at hb
            by_cases c : x = ("int" : Str)
            · rw [if_pos c] at hb
              cases hb
              subst c
              exact ok_bltTy (cr_int Cl) g1 (G.blt _ (by decide +kernel)) PyProof.Rows.boot_int a2 a1 (by decide) g2
            rw [if_neg c] at hb
            by_cases c : x = ("any" : Str)
            · rw [if_pos c] at hb
              cases hb
              subst c
              exact ok_bltB (crd_any Cl G.calm) g1 (G.blt _ (by decide +kernel)) (by decide +kernel) a2 a1 (by decide) g2
            rw [if_neg c] at hb
            by_cases c : x = ("max" : Str)
            · rw [if_pos c] at hb
              cases hb
              subst c
              exact ok_bltB (crd_max Cl G.calm) g1 (G.blt _ (by decide +kernel)) (by decide +kernel) a2 a1 (by decide) g2
            rw [if_neg c] at hb
            by_cases c : x = ("min" : Str)
            · rw [if_pos c] at hb
              cases hb
              subst c
              exact ok_bltB (crd_min Cl G.calm) g1 (G.blt _ (by decide +kernel)) (by decide +kernel) a2 a1 (by decide) g2
            rw [if_neg c] at hb
            by_cases c : x = ("list" : Str)
            · rw [if_pos c] at hb
              cases hb
              subst c
              exact ok_bltTy (crd_list Cl) g1 (G.blt _ (by decide +kernel)) PyProof.Rows.boot_list a2 a1 (by decide) g2
            rw [if_neg c] at hb
            by_cases c : x = ("tuple" : Str)
            · rw [if_pos c] at hb
              cases hb
              subst c
              exact ok_bltTy (crd_tuple Cl) g1 (G.blt _ (by decide +kernel)) PyProof.Rows.boot_tuple a2 a1 (by decide) g2
            rw [if_neg c] at hb
            by_cases c : x = ("lcm" : Str)
            · rw [if_pos c] at hb
              cases hb
              subst c
              exact ok_bltF (crd_lcm Cl) g1 G.lcm a2 a1 g2
            rw [if_neg c] at hb
            cases hb
          · cases h
theorem isRev_is {e : Expr} (h : isRev e = true) : ∃ n p1 p2 p3, e = .Slice none none (some (.UnaryOp .USub (.Constant (.int 1) n p1) p2)) p3 := by
  unfold isRev at h
  split at h
  · exact ⟨_, _, _, _, rfl⟩
  · cases h
theorem cSub_ok (S : Sound T Cl k r) (G : Good T Cl k top sc X) {a i : Expr} {pos : Pos} {f : SE} (h : cSub T r sc a i = some f) : OkE X Cl (.Subscript a i pos) f := by
  unfold cSub at h
  split at h
  · rename_i hr
    obtain ⟨n, p1, p2, p3, rfl⟩ := isRev_is hr
    obtain ⟨g, h1, h2⟩ := Option.map_eq_some_iff.mp h
    subst h2
    exact ok_rev ((S top sc X G).1 _ _ h1)
  · split at h
    · split at h
      · rename_i f1 l1 h1 e1 e2 e3
        cases h
        exact ok_sl ((S top sc X G).1 _ _ e1) (cO_ok S G e2) (cO_ok S G e3)
      · cases h
    · split at h
      · rename_i f1 g1 hn e1 e2
        cases h
        exact ok_ix hn (cB_ok S G e1) ((S top sc X G).1 _ _ e2)
      · cases h
/-! targets -/
theorem cName_ok {ok : Scope → Str → Bool} {x : Str} {i : Nat} (h : cName T ok sc x = some i) : ok sc x = true ∧ slotOf T sc x = some i := by
  unfold cName at h
  split at h
  · rename_i h1
    exact ⟨h1, h⟩
  · cases h
theorem cNames_ok (G : Good T Cl k top sc X) {ok : Scope → Str → Bool} (hok : ∀ x, ok sc x = true → Loc X.env.scope x ∧ (X.fn x = true ∨ X.env.scope.names.lookup x = some .local)) :
    ∀ {es : List Expr} {is : List Nat}, cNames T ok sc es = some is → PGs X es (rNames is) ∧ es.all plainB = true ∧ es.length = is.length
  | [], is, h => by
    cases h
    exact ⟨pgs_nil, rfl, rfl⟩
  | e :: es, is, h => by
    cases e with
    | Name x p =>
      unfold cNames at h
      split at h
      · rename_i i is' h12 h3
        obtain ⟨h1, h2⟩ := cName_ok h12
        cases h
        obtain ⟨a1, a2, a3⟩ := cNames_ok G hok h3
        obtain ⟨b1, b2⟩ := hok x h1
        obtain ⟨c1, c2⟩ := slot_ok G h2
        exact ⟨gs_cons rfl (pg_name (by rw [G.N]; exact G.nd) c1 b1 b2) a1, by rw [List.all_cons, a2]; rfl, by rw [List.length_cons, List.length_cons, a3]⟩
      · cases h
    | _ => cases h
/-- a target: its rule, its reading by plain data, the places it stores in -/
theorem cTarget_ok (G : Good T Cl k top sc X) {ok : Scope → Str → Bool} (hok : ∀ x, ok sc x = true → Loc X.env.scope x ∧ (X.fn x = true ∨ X.env.scope.names.lookup x = some .local)) {e : Expr} {g : Sum Nat (List Nat)} (h : cTarget T ok sc e = some g) :
    ∃ lg, PG X e lg ∧ (∀ v σ H Q, tG X.K Cl (tgG g) v σ H Q → lg v σ H Q) ∧ ∀ vs, (∀ i ∈ tgL g, i ∈ vs) → Keeps vs lg := by
  cases e with
  | Name x p =>
    obtain ⟨i, h12, h3⟩ := Option.map_eq_some_iff.mp (show (cName T ok sc x).map Sum.inl = some g from h)
    subst h3
    obtain ⟨h1, h2⟩ := cName_ok h12
    obtain ⟨b1, b2⟩ := hok x h1
    obtain ⟨c1, c2⟩ := slot_ok G h2
    exact ⟨_, pg_name (by rw [G.N]; exact G.nd) c1 b1 b2, fun v σ H Q q => name_tG v σ H Q q, fun vs hv => keep_name (hv i (by show i ∈ [i]; simp))⟩
  | Tuple es n p =>
    obtain ⟨is, h1, h2⟩ := Option.map_eq_some_iff.mp (show (cNames T ok sc es).map Sum.inr = some g from h)
    subst h2
    obtain ⟨a1, a2, a3⟩ := cNames_ok G hok h1
    exact ⟨_, pg_tup G.calm a1 (assignEach_plain a2).1 (assignEach_plain a2).2, fun v σ H Q q => tup_tG a3 v σ H Q q, fun vs hv => keep_tup hv⟩
  | _ => cases h
theorem isTup_is {e : Expr} (h : isTup e = true) : ∃ es n p, e = .Tuple es n p := by
  cases e <;> first | exact ⟨_, _, _, rfl⟩ | cases h
theorem cIterC_ok (S : Sound T Cl k r) (G : Good T Cl k top sc X) {tg : Expr} {x : Str} {p pos : Pos} {args : List Expr} {pl : Option SA} {it : SA} (plain : pl = some it → OkI X Cl tg (.Call (.Name x p) args [] pos) it) (h : cIterC T r sc tg x args pl = some it) :
    OkI X Cl tg (.Call (.Name x p) args [] pos) it := by
  unfold cIterC at h
  split at h
  · rename_i hg hf
    obtain ⟨g1, g2⟩ := gl_ok G hg
    by_cases c : x = ("range" : Str)
    · rw [if_pos c] at h
      have hm := G.blt x (by rw [c]; decide +kernel)
      split at h
      · obtain ⟨fs, h1, h2⟩ := Option.map_eq_some_iff.mp h
        subst h2
        obtain ⟨a1, a2, a3⟩ := cA_ok S G h1
        exact i_rng1 c g1 hm (by simpa using a2) a1
      · obtain ⟨fs, h1, h2⟩ := Option.map_eq_some_iff.mp h
        subst h2
        obtain ⟨a1, a2, a3⟩ := cA_ok S G h1
        simp only [List.all_cons, List.all_nil, Bool.and_true, Bool.and_eq_true] at a2
        exact i_rng2 c g1 hm a2.1 a2.2 a1
      · obtain ⟨fs, h1, h2⟩ := Option.map_eq_some_iff.mp h
        subst h2
        obtain ⟨a1, a2, a3⟩ := cA_ok S G h1
        simp only [List.all_cons, List.all_nil, Bool.and_true, Bool.and_eq_true] at a2
        exact i_rng3 c g1 hm a2.1 a2.2.1 a2.2.2 a1
      · cases h
    · rw [if_neg c] at h
      by_cases c2 : x = ("enumerate" : Str)
      · rw [if_pos c2] at h
        have hm := G.blt x (by rw [c2]; decide +kernel)
        split at h
        · split at h
          · rename_i a hb
            obtain ⟨ht, hp⟩ := Bool.and_eq_true_iff.mp hb
            obtain ⟨f, h1, h2⟩ := Option.map_eq_some_iff.mp h
            subst h2
            obtain ⟨es, n, tp, rfl⟩ := isTup_is ht
            exact i_enum c2 g1 hm hp ((S top sc X G).1 _ _ h1)
          · cases h
        · cases h
      · rw [if_neg c2] at h
        exact plain h
  · exact plain h
theorem cIter_ok (S : Sound T Cl k r) (G : Good T Cl k top sc X) {tg iter : Expr} {it : SA} (h : cIter T r sc tg iter = some it) : OkI X Cl tg iter it := by
  have plain : (r.e sc iter).map iSeq = some it → OkI X Cl tg iter it := fun q => by
    obtain ⟨f, h1, h2⟩ := Option.map_eq_some_iff.mp q
    subst h2
    exact i_seq ((S top sc X G).1 _ _ h1)
  unfold cIter at h
  split at h
  · split at h
    · exact cIterC_ok S G plain h
    · exact plain h
  · exact plain h
theorem cIfs_ok (S : Sound T Cl k r) (G : Good T Cl k top sc X) {ifs : List Expr} {t : ST} (h : cIfs r sc ifs = some t) : OkTs X Cl ifs t := by
  unfold cIfs at h
  split at h
  · cases h
    exact ts_nil
  · exact ts_one ((S top sc X G).2 _ _ h)
  · cases h
/-- a comprehension's parts -/
theorem cComp_parts (S : Sound T Cl k r) (G : Good T Cl k top sc X) {elt tg iter : Expr} {ifs : List Expr} {scope : Scope} {f : SE} (h : cComp T r sc elt tg iter ifs scope = some f) :
    ∃ gg it t ee lg, f = eComp ((ownOf T scope).map (·.2)) gg it t ee ∧ OkI X Cl tg iter it ∧ BlkOk X.N X.env.scope scope (ownOf T scope) ∧ noSet iter = true ∧
      (∀ (s : Shared) (H : Hp) (A : Addr) (cl : List (Str × Addr)) (fp : List Addr), PG (X.blk s H scope (compEnvC scope cl A X.env) fp) tg lg) ∧ (∀ v σ H Q, tG X.K Cl gg v σ H Q → lg v σ H Q) ∧ Keeps ((ownOf T scope).map (·.2)) lg ∧
      (∀ (s : Shared) (H : Hp) (A : Addr) (cl : List (Str × Addr)) (fp : List Addr), OkTs (X.blk s H scope (compEnvC scope cl A X.env) fp) Cl ifs t) ∧
      (∀ (s : Shared) (H : Hp) (A : Addr) (cl : List (Str × Addr)) (fp : List Addr), OkE (X.blk s H scope (compEnvC scope cl A X.env) fp) Cl elt ee) := by
  unfold cComp at h
  split at h
  · rename_i it g t e h1 h2 h3 h4 h5
    split at h
    · rename_i hk
      cases h
      obtain ⟨n1, n2⟩ := Bool.and_eq_true_iff.mp h1
      have hB : BlkOk X.N X.env.scope scope (ownOf T scope) := by
        rw [G.N, G.sc]
        exact blkOk_by n2
      -- the target's rule is the same at every block
      have hGk : ∀ (s : Shared) (H : Hp) (A : Addr) (cl : List (Str × Addr)) (fp : List Addr), Good T Cl k false (relS scope sc) (X.blk s H scope (compEnvC scope cl A X.env) fp) := fun s H A cl fp => G.blk s H A cl fp
      have hok : ∀ (s : Shared) (H : Hp) (A : Addr) (cl : List (Str × Addr)) (fp : List Addr) (x : Str), locLB (relS scope sc) x = true → Loc (X.blk s H scope (compEnvC scope cl A X.env) fp).env.scope x ∧ ((X.blk s H scope (compEnvC scope cl A X.env) fp).fn x = true ∨ (X.blk s H scope (compEnvC scope cl A X.env) fp).env.scope.names.lookup x = some .local) :=
        fun s H A cl fp x hx => ⟨.inl (locL_ok (hGk s H A cl fp) hx), .inr (locL_ok (hGk s H A cl fp) hx)⟩
      have hkk : ∀ i ∈ tgL g, i ∈ (ownOf T scope).map (·.2) := fun i hi => of_decide_eq_true (List.all_eq_true.mp hk i hi)
      cases g with
      | inl i =>
        refine ⟨_, it, t, e, L2.gName i, rfl, cIter_ok S G h2, hB, n1, fun s H A cl fp => ?_, fun v σ H Q q => name_tG v σ H Q q, keep_name (hkk i (by show i ∈ [i]; simp)), fun s H A cl fp => cIfs_ok S (hGk s H A cl fp) h4, fun s H A cl fp => (S _ _ _ (hGk s H A cl fp)).1 _ _ h5⟩
        cases tg with
        | Name x p =>
          obtain ⟨j, q1, q2⟩ := Option.map_eq_some_iff.mp (show (cName T locLB (relS scope sc) x).map Sum.inl = some (Sum.inl i) from h3)
          cases q2
          obtain ⟨h6, h7⟩ := cName_ok q1
          obtain ⟨b1, b2⟩ := hok s H A cl fp x h6
          obtain ⟨c1, c2⟩ := slot_ok (hGk s H A cl fp) h7
          exact pg_name (by show X.N.Nodup; rw [G.N]; exact G.nd) c1 b1 b2
        | Tuple es n p =>
          obtain ⟨is, q1, q2⟩ := Option.map_eq_some_iff.mp (show (cNames T locLB (relS scope sc) es).map Sum.inr = some (Sum.inl i) from h3)
          cases q2
        | _ => cases h3
      | inr is =>
        cases tg with
        | Name x p =>
          obtain ⟨j, q1, q2⟩ := Option.map_eq_some_iff.mp (show (cName T locLB (relS scope sc) x).map Sum.inl = some (Sum.inr is) from h3)
          cases q2
        | Tuple es n p =>
          obtain ⟨is', q1, q2⟩ := Option.map_eq_some_iff.mp (show (cNames T locLB (relS scope sc) es).map Sum.inr = some (Sum.inr is) from h3)
          cases q2
          have hl : es.length = is.length := (cNames_ok (hGk X.s_0 X.H_0 (0 : Nat) [] []) (hok X.s_0 X.H_0 (0 : Nat) [] []) q1).2.2
          refine ⟨_, it, t, e, L2.gTup X.K es.length (rNames is), rfl, cIter_ok S G h2, hB, n1, fun s H A cl fp => ?_, fun v σ H Q q => tup_tG hl v σ H Q q, keep_tup hkk, fun s H A cl fp => cIfs_ok S (hGk s H A cl fp) h4, fun s H A cl fp => (S _ _ _ (hGk s H A cl fp)).1 _ _ h5⟩
          obtain ⟨a1, a2, a3⟩ := cNames_ok (hGk s H A cl fp) (hok s H A cl fp) q1
          exact pg_tup (X := X.blk s H scope (compEnvC scope cl A X.env) fp) G.calm a1 (assignEach_plain a2).1 (assignEach_plain a2).2
        | _ => cases h3
    · cases h
  · cases h
theorem truB_he {e : Expr} {env : PySem.Env} (h : truB e = true) : ∀ whole, isTrue e env whole = (do let v ← whole; standAt e.pos; holding [v] (truthy v)) := by
  intro whole
  cases e <;> first | rfl | cases h
theorem con_ok {c : Const} {d : D} {n : Nat} {pos : Pos} (h : conD c = some d) : OkE X Cl (.Constant c n pos) (eCon d) := by
  cases c with
  | none => cases h; exact ok_con pe_non fun H => .non
  | bool b => cases h; exact ok_con pe_bl fun H => .bl b
  | int i => cases h; exact ok_con pe_int fun H => .int i
  | str x => cases h; exact ok_con pe_str fun H => .str x
  | _ => cases h
theorem stepE_ok (S : Sound T Cl k r) (G : Good T Cl k top sc X) {e : Expr} {f : SE} (h : stepE T r sc e = some f) : OkE X Cl e f := by
  have se := fun {e f} (q : r.e sc e = some f) => (S top sc X G).1 e f q
  cases e with
  | Constant c n p =>
    obtain ⟨d, h1, h2⟩ := Option.map_eq_some_iff.mp (show (conD c).map eCon = some f from h)
    subst h2
    exact con_ok h1
  | Name x p =>
    unfold stepE at h
    dsimp only at h
    split at h
    · rename_i i hi
      cases h
      exact ok_var (slot_var G hi)
    · split at h
      · rename_i hg
        obtain ⟨d, h1, h2⟩ := Option.map_eq_some_iff.mp h
        subst h2
        obtain ⟨u, v, k1, k2, k3⟩ := G.con x d h1
        obtain ⟨g1, g2⟩ := gl_ok G hg
        exact ok_con (pe_glob g1 k1 k2 g2) k3
      · cases h
  | BinOp a op b p =>
    unfold stepE at h
    dsimp only at h
    split at h
    · rename_i o f1 g1 h1 h2 h3
      cases h
      exact ok_bin h1 (se h2) (se h3)
    · cases h
  | UnaryOp op a p =>
    cases op with
    | Not =>
      obtain ⟨g, h1, h2⟩ := Option.map_eq_some_iff.mp (show (r.e sc a).map eNot = some f from h)
      subst h2
      exact ok_not (se h1)
    | USub =>
      obtain ⟨g, h1, h2⟩ := Option.map_eq_some_iff.mp (show (r.e sc a).map eNeg = some f from h)
      subst h2
      exact ok_neg (se h1)
    | _ => cases h
  | BoolOp op es p => exact cVals_ok S G (show cVals r sc op es = some f from h)
  | Compare a ops cs p =>
    obtain ⟨g, h1, h2⟩ := Option.map_eq_some_iff.mp (show (cCmpV T r sc a ops cs).map eTest = some f from h)
    subst h2
    exact cCmpV_ok S G h1
  | List es p =>
    obtain ⟨g, h1, h2⟩ := Option.map_eq_some_iff.mp (show (cA r sc es).map eLst = some f from h)
    subst h2
    exact ok_lst (cA_ok S G h1).1
  | Tuple es n p =>
    obtain ⟨g, h1, h2⟩ := Option.map_eq_some_iff.mp (show (cA r sc es).map eTup = some f from h)
    subst h2
    exact ok_tup (cA_ok S G h1).1
  | Attribute a x p =>
    unfold stepE at h
    dsimp only at h
    split at h
    · rename_i f1 h1 h2
      cases h
      obtain ⟨n1, n2⟩ := Bool.and_eq_true_iff.mp h1
      exact ok_fld G.cls (G.flds x (of_decide_eq_true n2)) n1 (se h2)
    · cases h
  | Subscript a i p => exact cSub_ok S G (show cSub T r sc a i = some f from h)
  | Call g args kws p =>
    unfold stepE at h
    dsimp only at h
    split at h
    · exact cCall_ok S G h
    · cases h
  | ListComp elt gens scope p =>
    unfold stepE at h
    dsimp only at h
    split at h
    · split at h
      · rename_i tg iter ifs as ha
        have ha := of_decide_eq_true ha
        subst ha
        obtain ⟨gg, it, t, ee, lg, rfl, a1, a2, a3, a4, a5, a6, a7, a8⟩ := cComp_parts S G h
        exact ok_comp G.calm (by rw [G.N]; exact G.nd) a1 a2 a4 a5 a6 a7 a8 a3
      · cases h
    · cases h
  | _ => cases h
theorem stepT_ok (S : Sound T Cl k r) (G : Good T Cl k top sc X) {e : Expr} {t : ST} (h : stepT T r sc e = some t) : OkT X Cl e t := by
  have tru : (match truB e with
    | true => (r.e sc e).map tVal
    | false => none) = some t → OkT X Cl e t := fun q => by
    split at q
    · rename_i hb
      obtain ⟨g, h1, h2⟩ := Option.map_eq_some_iff.mp q
      subst h2
      exact t_val ((S top sc X G).1 _ _ h1) (truB_he hb)
    · cases q
  cases e with
  | BoolOp op es p => exact (cTests_ok S G (show cTests r sc op es = some t from h)).pt
  | UnaryOp op a p =>
    cases op with
    | Not =>
      obtain ⟨g, h1, h2⟩ := Option.map_eq_some_iff.mp (show (r.t sc a).map tNot = some t from h)
      subst h2
      exact t_not ((S top sc X G).2 _ _ h1)
    | _ => cases h
  | Compare a ops cs p => exact (cCmp_ok S G (show cCmp T r sc a ops cs = some t from h)).1
  | _ => exact tru h
theorem rdN_ok (n : Nat) : Sound T Cl k (rdN T n) := by
  induction n with
  | zero => exact fun top sc X G => ⟨fun e f h => (by cases h), fun e t h => (by cases h)⟩
  | succ n ih => exact fun top sc X G => ⟨fun e f h => stepE_ok ih G h, fun e t h => stepT_ok ih G h⟩
end
end WF
end
/-! text WS8 -/
section
set_option Elab.async false
set_option linter.all false
set_option maxRecDepth 100000
set_option maxHeartbeats 4000000
/-! Statements and defs translated. -/
namespace WF
open PySem PySem.Spec PyProof.Rows L2
/-- the names that an expression hands on -/
def esc : Nat → Expr → List Str
  | 0, _ => []
  | n + 1, e => match e with
    | .Name x _ => [x]
    | .BinOp a _ b _ => esc n a ++ esc n b
    | .UnaryOp _ a _ => esc n a
    | .BoolOp _ es _ => es.flatMap (esc n)
    | .Compare a _ cs _ => esc n a ++ cs.flatMap fun c => match nameB c with
      | true => []
      | false => esc n c
    | .Subscript a i _ => (match nameB a && noSlice i with
      | true => []
      | false => esc n a) ++ esc n i
    | .Slice lo hi st _ => (lo.toList ++ hi.toList ++ st.toList).flatMap (esc n)
    | .Call f args _ _ => (match f, args with
      | .Name x _, [a] => (match decide (x = ("len" : Str)) && nameB a with
        | true => []
        | false => esc n a)
      | _, args => args.flatMap (esc n))
    | .List es _ => es.flatMap (esc n)
    | .Tuple es _ _ => es.flatMap (esc n)
    | .ListComp elt gens _ _ => esc n elt ++ gens.flatMap fun g => match g with
      | ⟨_, iter, ifs, _⟩ => esc n iter ++ ifs.flatMap (esc n)
    | .Attribute a _ _ => esc n a
    | _ => []
def frOf (T : Tx) (e : Expr) : List Nat := T.apps.filter fun i => match T.N[i]? with
  | some x => decide (x ∈ esc 40 e)
  | none => false
def wrap (is : List Nat) (s : SS) : SS := match is with
  | [] => s
  | _ :: _ => sFrz is s
theorem wrap_ok {X : Cx} {C : Addr} {st : Stmt} {s : SS} (is : List Nat) (h : OkS X C st s) : OkS X C st (wrap is s) := by
  cases is with
  | nil => exact h
  | cons i is => exact s_frz (i :: is) h
def appOf : Expr → Option (Str × Expr)
  | .Call (.Attribute (.Name x _) m apos) [a] [] cpos => if m = ("append" : Str) ∧ (apos.endLine == cpos.line) = true ∧ plainB a = true then some (x, a) else none
  | _ => none
theorem appOf_is {e : Expr} {x : Str} {a : Expr} (h : appOf e = some (x, a)) : ∃ p apos cpos, e = .Call (.Attribute (.Name x p) "append" apos) [a] [] cpos ∧ (apos.endLine == cpos.line) = true ∧ plainB a = true := by
  unfold appOf at h
  split at h
  · rename_i x' p m apos a' cpos
    by_cases c : m = ("append" : Str) ∧ (apos.endLine == cpos.line) = true ∧ plainB a' = true
    · rw [if_pos c] at h
      cases h
      obtain ⟨rfl, c2, c3⟩ := c
      exact ⟨_, _, _, rfl, c2, c3⟩
    · rw [if_neg c] at h
      cases h
  · cases h
def isFn (sc : Scope) : Bool := match sc.kind with
  | .function => true
  | _ => false
section
variable (T : Tx) (r : Rd2) (sc : Scope)
def cAsg (x : Str) (p : Pos) (e : Expr) : Option SS := match cName T locB sc x with
  | none => none
  | some i => match e with
    | .List es lp => (match decide (i ∈ T.apps) with
      | true => (cA r sc es).map fun f => wrap (frOf T e) (sOwn i f)
      | false => (r.e sc (.List es lp)).map fun f => wrap (frOf T e) (sAsg (gName i) f))
    | .ListComp elt gens scope cpos => (match gens with
      | [⟨tg, iter, ifs, as⟩] => (match decide (as = 0), cComp T r sc elt tg iter ifs scope with
        | true, some f => (match locLB sc x && (isFn sc && ((p.line == cpos.line) && !(scope.names.any fun (n, k) => n == x && (k == .local || k == .cell)))) with
          | true => some (wrap (frOf T e) (sAsg (gName i) f))
          | false => (match cellB sc x with
            | true => some (wrap (frOf T e) (sAsg (gName i) f))
            | false => none))
        | _, _ => none)
      | _ => none)
    | e => (match noComp e, r.e sc e with
      | true, some f => some (wrap (frOf T e) (sAsg (gName i) f))
      | _, _ => none)
def cStmt (rec : List Stmt → Option SS) (st : Stmt) : Option SS := match st with
  | .Expr e _ => (match appOf e with
    | some (x, a) => (match slotOf T sc x, r.e sc a with
      | some i, some f => some (wrap (frOf T a) (sApp i f))
      | _, _ => none)
    | none => (match noComp e, r.e sc e with
      | true, some f => some (wrap (frOf T e) (sDrop f))
      | _, _ => none))
  | .Assign ts e _ => (match ts with
    | [tg] => (match tg with
      | .Name x p => cAsg T r sc x p e
      | .Tuple es _ _ => (match cNames T locB sc es, noComp e && noTup e, r.e sc e with
        | some is, true, some f => some (wrap (frOf T e) (sAsg (gTup is) f))
        | _, _, _ => none)
      | _ => none)
    | _ => none)
  | .If c a b _ => (match r.t sc c, rec a, rec b with
    | some t, some x, some y => some (wrap (frOf T c) (sIf t x y))
    | _, _, _ => none)
  | .For tg it body orelse _ => (match orelse with
    | [] => (match noSet it, cIter T r sc tg it, cTarget T locB sc tg, rec body with
      | true, some i, some g, some s => some (wrap (frOf T it) (sFor (tgG g) i s))
      | _, _, _, _ => none)
    | _ => none)
  | .While c body orelse _ => (match orelse with
    | [] => (match r.t sc c, rec body with
      | some t, some s => some (sWhile t s)
      | _, _ => none)
    | _ => none)
  | .Return v _ => (match v with
    | some e => (r.e sc e).map fun f => wrap (frOf T e) (sRet f)
    | none => some sRetN)
  | .Raise _ _ _ => some sFail
  | .Pass _ => some sNext
  | _ => none
end
def cStmts (T : Tx) (r : Rd2) (sc : Scope) : Nat → List Stmt → Option SS
  | 0, _ => none
  | _ + 1, [] => some sNext
  | n + 1, [st] => cStmt T r sc (cStmts T r sc n) st
  | n + 1, st :: rest => match cStmt T r sc (cStmts T r sc n) st, cStmts T r sc n rest with
    | some s, some t => some (sSeq s t)
    | _, _ => none
section
variable {T : Tx} {Cl : Addr} {k : Nat} {sc : Scope} {X : Cx} {r : Rd2}
theorem locB_hok (G : Good T Cl k true sc X) : ∀ x, locB sc x = true → Loc X.env.scope x ∧ (X.fn x = true ∨ X.env.scope.names.lookup x = some .local) := fun x h => ⟨loc_ok G h, .inl (by rw [G.top rfl])⟩
theorem passes_ok (G : Good T Cl k true sc X) : PassesOwn (model X.prog X.w) X.A X.env X.xe := by
  rw [G.nox]
  exact PassesOwn.never
theorem cAsg_ok (S : Sound T Cl k r) (G : Good T Cl k true sc X) {x : Str} {p pos : Pos} {e : Expr} {s : SS} (h : cAsg T r sc x p e = some s) : OkS X Cl (.Assign [.Name x p] e pos) s := by
  have nd : X.N.Nodup := by
    rw [G.N]
    exact G.nd
  unfold cAsg at h
  split at h
  · cases h
  · rename_i i hi
    obtain ⟨hl, hs⟩ := cName_ok hi
    obtain ⟨b1, b2⟩ := locB_hok G x hl
    obtain ⟨c1, c2⟩ := slot_ok G hs
    split at h
    · split at h
      · obtain ⟨f, h1, h2⟩ := Option.map_eq_some_iff.mp h
        subst h2
        exact wrap_ok _ (s_own nd c1 b1 b2 (cA_ok S G h1).1)
      · obtain ⟨f, h1, h2⟩ := Option.map_eq_some_iff.mp h
        subst h2
        exact wrap_ok _ (s_set nd c1 b1 b2 rfl ((S _ _ _ G).1 _ _ h1))
    · split at h
      · split at h
        · rename_i elt _ scope cpos _ tg iter ifs as f ha hc
          have ha := of_decide_eq_true ha
          subst ha
          obtain ⟨gg, it, t, ee, lg, rfl, a1, a2, a3, a4, a5, a6, a7, a8⟩ := cComp_parts S G hc
          split at h
          · rename_i hb
            cases h
            obtain ⟨d1, d2⟩ := Bool.and_eq_true_iff.mp hb
            obtain ⟨d3, d4⟩ := Bool.and_eq_true_iff.mp d2
            obtain ⟨d5, d6⟩ := Bool.and_eq_true_iff.mp d4
            have hk : X.env.scope.kind = .function := by
              rw [G.sc]
              unfold isFn at d3
              split at d3
              · assumption
              · cases d3
            exact wrap_ok _ (s_setC nd c1 (locL_ok G d1) hk d5 (by simpa using d6) G.calm a1 a2 a4 a5 a6 a7 a8 a3)
          · split at h
            · rename_i hb
              cases h
              exact wrap_ok _ (s_setCell nd c1 (cell_ok G hb) b2 (ok_comp G.calm nd a1 a2 a4 a5 a6 a7 a8 a3))
            · cases h
        · cases h
      · cases h
    · split at h
      · rename_i f hn h1
        cases h
        exact wrap_ok _ (s_set nd c1 b1 b2 hn ((S _ _ _ G).1 _ _ h1))
      · cases h
theorem cStmt_ok (S : Sound T Cl k r) (G : Good T Cl k true sc X) {rec : List Stmt → Option SS} (hrec : ∀ sts s, rec sts = some s → OkSs X Cl sts s) {st : Stmt} {s : SS} (h : cStmt T r sc rec st = some s) : OkS X Cl st s := by
  have se := fun {e f} (q : r.e sc e = some f) => (S true sc X G).1 e f q
  have ste := fun {e f} (q : r.t sc e = some f) => (S true sc X G).2 e f q
  cases st with
  | Expr e p =>
    unfold cStmt at h
    dsimp only at h
    split at h
    · rename_i x a ha
      obtain ⟨p1, apos, cpos, rfl, hl, hp⟩ := appOf_is ha
      split at h
      · rename_i i f h1 h2
        cases h
        exact wrap_ok _ (s_app rfl (slot_var G h1) hp hl (se h2))
      · cases h
    · split at h
      · rename_i f h1 h2
        cases h
        exact wrap_ok _ (s_drop h1 (se h2))
      · cases h
  | Assign ts e p =>
    unfold cStmt at h
    dsimp only at h
    split at h
    · split at h
      · exact cAsg_ok S G h
      · split at h
        · rename_i is f h1 h2 h3
          cases h
          obtain ⟨a1, a2, a3⟩ := cNames_ok G (locB_hok G) h1
          obtain ⟨n1, n2⟩ := Bool.and_eq_true_iff.mp h2
          exact wrap_ok _ (s_unp G.calm a2 a3 a1 n1 n2 (se h3))
        · cases h
      · cases h
    · cases h
  | If c a b p =>
    unfold cStmt at h
    dsimp only at h
    split at h
    · rename_i t x y h1 h2 h3
      cases h
      exact wrap_ok _ (s_if (ste h1) (hrec _ _ h2) (hrec _ _ h3))
    · cases h
  | For tg it body orelse p =>
    unfold cStmt at h
    dsimp only at h
    split at h
    · split at h
      · rename_i i g s' h1 h2 h3 h4
        cases h
        obtain ⟨lg, a1, a2, a3⟩ := cTarget_ok G (locB_hok G) h3
        exact wrap_ok _ (s_for (passes_ok G) G.calm (cIter_ok S G h2) a1 a2 (hrec _ _ h4) h1)
      · cases h
    · cases h
  | While c body orelse p =>
    unfold cStmt at h
    dsimp only at h
    split at h
    · split at h
      · rename_i t s' h1 h2
        cases h
        exact s_while (passes_ok G) (ste h1) (hrec _ _ h2)
      · cases h
    · cases h
  | Return v p =>
    cases v with
    | none =>
      cases h
      exact s_retN
    | some e =>
      obtain ⟨f, h1, h2⟩ := Option.map_eq_some_iff.mp (show (r.e sc e).map (fun f => wrap (frOf T e) (sRet f)) = some s from h)
      subst h2
      exact wrap_ok _ (s_ret (se h1))
  | Raise a b p =>
    cases h
    exact s_fail
  | Pass p =>
    cases h
    exact s_pass
  | _ => cases h
theorem cStmts_ok (S : Sound T Cl k r) (G : Good T Cl k true sc X) : ∀ (n : Nat) (sts : List Stmt) (s : SS), cStmts T r sc n sts = some s → OkSs X Cl sts s
  | 0, sts, s, h => by
    unfold cStmts at h
    cases h
  | n + 1, [], s, h => by
    cases h
    exact ss_nil
  | n + 1, [st], s, h => ss_one (cStmt_ok S G (fun sts s q => cStmts_ok S G n sts s q) (show cStmt T r sc (cStmts T r sc n) st = some s from h))
  | n + 1, st :: st2 :: rest, s, h => by
    have h2 : (match cStmt T r sc (cStmts T r sc n) st, cStmts T r sc n (st2 :: rest) with
      | some s, some t => some (sSeq s t)
      | _, _ => none) = some s := h
    split at h2
    · rename_i s1 t1 h3 h4
      cases h2
      exact ss_cons (cStmt_ok S G (fun sts s q => cStmts_ok S G n sts s q) h3) (cStmts_ok S G n _ _ h4)
    · cases h2
end
/-- a block of the text, translated -/
def cBlock (T : Tx) (sc : Scope) (sts : List Stmt) : Option SS := cStmts T (rdN T 30) sc 30 sts
theorem cBlock_ok {T : Tx} {Cl : Addr} {k : Nat} {sc : Scope} {X : Cx} (G : Good T Cl k true sc X) {sts : List Stmt} {s : SS} (h : cBlock T sc sts = some s) : OkSs X Cl sts s := cStmts_ok (rdN_ok 30) G 30 sts s h
/-! ### defs -/
/-- what the translation leans on, at every place of the program -/
structure Base1 (P : Program) (w : World) (K : PySem.W.Frag) (mg : Str → Option Value) (base : Heap) (Cl : Addr) (flds : List Str) (con : List (Str × D)) : Prop where
  blt : ∀ x, x ∈ bltNames → mg x = none
  lcm : mg "lcm" = some (.builtin "math.lcm")
  con : ∀ x d, con.lookup x = some d → ∃ u v, mg x = some u ∧ RelV v u ∧ ∀ H, Rep K Cl H v d
  cls : Cls K Cl
  flds : ∀ f, f ∈ flds → NoAttr K Cl f
/-- the def x keeps: called, it does what s says -/
def FnAt (P : Program) (w : World) (K : PySem.W.Frag) (mg : Str → Option Value) (base : Heap) (Cl : Addr) (k : Nat) (x : Str) (n : Nat) (s : List D → Option D) : Prop :=
  ∃ fa fd ps, FnOk P w K mg base CX0 k fa fd ps (spF K Cl n s) ∧ mg x = some (.ref fa) ∧ PySem.W.keepIn K (.ref fa) = true ∧ Binds K fd ps []
theorem FnAt.mono {P : Program} {w : World} {K : PySem.W.Frag} {mg : Str → Option Value} {base : Heap} {Cl : Addr} {j k n : Nat} {x : Str} {s : List D → Option D} (h : FnAt P w K mg base Cl j x n s) (l : j ≤ k) : FnAt P w K mg base Cl k x n s := by
  obtain ⟨fa, fd, ps, F, a⟩ := h
  exact ⟨fa, fd, ps, F.mono l, a⟩
theorem FnAt.cal {P : Program} {w : World} {K : PySem.W.Frag} {mg : Str → Option Value} {base : Heap} {Cl : Addr} {k n : Nat} {x : Str} {s : List D → Option D} (h : FnAt P w K mg base Cl k x n s) : CalAt P w K mg base Cl k x n s := by
  obtain ⟨fa, fd, ps, F, m, kp, b⟩ := h
  intro X h1 h2 h3 h4 h5 _ hr e es fs p pos hg ha hp hn hd
  subst h1 h2 h3 h4 h5
  exact ok_call F hr hg m kp b hp ha hn hd
theorem CalAt.mono {P : Program} {w : World} {K : PySem.W.Frag} {mg : Str → Option Value} {base : Heap} {Cl : Addr} {j k n : Nat} {x : Str} {s : List D → Option D} (h : CalAt P w K mg base Cl j x n s) (l : j ≤ k) : CalAt P w K mg base Cl k x n s :=
  fun X h1 h2 h3 h4 h5 h6 hr => h X h1 h2 h3 h4 h5 h6 (hr.mono l)
/-- all the defs of a table -/
def Table (P : Program) (w : World) (K : PySem.W.Frag) (mg : Str → Option Value) (base : Heap) (Cl : Addr) (k : Nat) (fns : List (Str × Nat × (List D → Option D))) : Prop :=
  ∀ q ∈ fns, CalAt P w K mg base Cl k q.1 q.2.1 q.2.2
section
variable {P : Program} {w : World} {K : PySem.W.Frag} {mg : Str → Option Value} {base : Heap} {Cl : Addr} {k : Nat}
theorem Table.nil : Table P w K mg base Cl k [] := fun q h => by cases h
theorem Table.cons {x : Str} {n : Nat} {s : List D → Option D} {fns : List (Str × Nat × (List D → Option D))} (h : CalAt P w K mg base Cl k x n s) (t : Table P w K mg base Cl k fns) : Table P w K mg base Cl k ((x, n, s) :: fns) := fun q hq => by
  rcases List.mem_cons.mp hq with rfl | hq
  · exact h
  · exact t q hq
theorem Table.mono {j : Nat} {fns : List (Str × Nat × (List D → Option D))} (h : Table P w K mg base Cl j fns) (l : j ≤ k) : Table P w K mg base Cl k fns := fun q hq => (h q hq).mono l
theorem start_ok {H Hs : Hp} {N : List Str} {vs : List V} {ds : List D} (sub : Same Hs H) (r : Reps K Cl Hs vs ds) : StOk K Cl H (L2.start N vs) Hs H (entry N.length ds) := by
  have hl := r.length
  have noOwn : ∀ (i : Nat) (es : List D), (entry N.length ds)[i]? ≠ some (.own es) := fun i es q => by
    unfold entry at q
    by_cases hi : i < ds.length
    · rw [List.getElem?_append_left (by simpa using hi), List.getElem?_map] at q
      obtain ⟨d, _, h2⟩ := Option.map_eq_some_iff.mp q
      cases h2
    · rw [List.getElem?_append_right (by simpa using hi), List.getElem?_replicate] at q
      split at q <;> cases q
  refine ⟨sub, ?_, fun i d q => ?_, fun i es q => absurd q (noOwn i es), fun i j es fs a q => absurd q (noOwn i es)⟩
  · unfold L2.start entry
    simp [hl]
  · unfold entry at q
    by_cases hi : i < ds.length
    · rw [List.getElem?_append_left (by simpa using hi), List.getElem?_map] at q
      obtain ⟨d', h1, h2⟩ := Option.map_eq_some_iff.mp q
      cases h2
      obtain ⟨v, h3, h4⟩ := r.get h1
      refine ⟨v, ?_, h4⟩
      unfold L2.start
      rw [List.getElem?_append_left (by simpa [hl] using hi), List.getElem?_map, h3]
      rfl
    · rw [List.getElem?_append_right (by simpa using hi), List.getElem?_replicate] at q
      split at q <;> cases q
theorem good_of {T : Tx} {N : List Str} {qual : Str} {scope : Scope} {f : Addr} {cdv : Value} {A : Around} {outer : List PySem.Env} {s : Shared} {H : Hp} {E : XK} {CX : CXT} (B : Base1 P w K mg base Cl T.flds T.con) (Tb : Table P w K mg base Cl k T.fns) (hN : T.N = N) (nd : N.Nodup)
    (hr : Room k (A.deeper (envOfC qual scope s.heap.objs.size f cdv))) : Good T Cl k true scope (cxOf CX P w K mg base N qual scope f cdv A outer s H E).nox where
  N := hN.symm
  nd := by
    rw [hN]
    exact nd
  sc := rfl
  calm := rfl
  nox := rfl
  blt := B.blt
  lcm := B.lcm
  con := B.con
  fns := fun x n s h => Tb (x, n, s) (PySem.mem_of_lookup h)
  room := hr
  cls := B.cls
  flds := B.flds
  top := fun _ => rfl
/-- THE RULE: a def whose text is translated -/
theorem def_ok {T : Tx} {x qual : Str} {params : Arguments} {body : List Stmt} {scope : Scope} {dvs : List V} {kws : List (Str × V)} {f : Addr} {fd : FuncData} {N ps : List Str} {s : SS} (F : FunD K x qual params body scope dvs kws f fd) (S : FnScope N ps scope)
    (B : Base1 P w K mg base Cl T.flds T.con) (Tb : Table P w K mg base Cl k T.fns) (hN : T.N = N) (h : cBlock T scope body = some s) : FnOk P w K mg base CX0 (k + 1) f fd ps (spF K Cl ps.length (runD N.length ps.length s)) := by
  refine F.ok S (fun vs H Q E q => ?_) (fun cdv A outer s0 H vs Q E hr q => ?_)
  · obtain ⟨Hs, ds, d, sub, r, hl, _⟩ := q
    rw [r.length, hl]
  · obtain ⟨Hs, ds, d, sub, r, hl, e, kk⟩ := q
    refine ⟨tS K Cl s, (cBlock_ok (good_of B Tb hN S.nd hr) h).nox, ?_⟩
    unfold runD at e
    rw [if_pos hl] at e
    cases ho : s (entry N.length ds) with
    | none =>
      rw [ho] at e
      cases e
    | some o =>
      rw [ho] at e
      refine ⟨H, Hs, Hs, _, o, .refl sub, start_ok sub r, ho, ?_⟩
      cases o with
      | nx ρ =>
        cases e
        exact fun σ' Hs' H' g st => kk .non Hs' H' g .non
      | rt d' =>
        cases e
        exact kk
end
end WF
end
/-! text WP -/
section
set_option linter.all false
/-! The defs of the program as combinator terms: printed by gen.py. -/
namespace WF
open PySem
abbrev conG : List (Str × D) := [("MOST_PERIOD", (.int 2000)), ("LETTERS", (.str "abcdefghijklmnopqrstuvwxyz")), ("WORD_CHARS", (.str "abcdefghijklmnopqrstuvwxyz0123456789_")), ("MOST_CHARS", (.int 20)), ("LAST_TIME", (.int 10000)), ("MOST_LABELS", (.int 6)), ("RESERVED", (.str "zzzzzzzzzzzzzzzzzzzz")), ("LONGEST_checks", (.int 1000)), ("MOST", (.int 6)), ("LONGEST_setup", (.int 1000))]
abbrev fldG : List Str := ["week", "people", "schedules", "policies", "windows", "routes", "holdbacks", "groups", "replicas", "pause", "down", "store", "lookback"]
/-- a def that is never called -/
def s_group_fits : List D → Option D := fun _ => none
/-- Setup(..): the object -/
def s_Setup : List D → Option D
  | [.int wk, .lst pe, .lst sc, .lst po, .lst wi, .lst ro, .lst ho, .lst gr, .tup [r, pa, dn, st, lb]] => some (.obj fldG [.int wk, .lst pe, .lst sc, .lst po, .lst wi, .lst ro, .lst ho, .lst gr, r, pa, dn, st, lb])
  | _ => none
/-- the def in_spans: its names by place, its body -/
abbrev N_in_spans : List Str := ["week", "spans", "time", "first", "last"]
def b_in_spans : SS :=
  (sRet (eBlt .any (aCons (eComp [3, 4] (gTup [3, 4]) (iSeq (eVar 1)) tYes (eTest (tChain .le (eVar 3) (eBin .mod (eVar 2) (eVar 0)) (tLast .lt (bVar 4))))) aNil)))
def s_in_spans : List D → Option D := runD 5 3 b_in_spans
/-- the def on_layer: its names by place, its body -/
abbrev N_on_layer : List Str := ["week", "layer", "time", "members", "start", "shift", "spans"]
def b_on_layer : SS :=
  (sSeq (sAsg (gTup [3, 4, 5, 6]) (eVar 1))
  (sSeq (sIf (tCmp .lt (eVar 2) (bVar 4))
    (sRet (eCon .non))
    sNext)
  (sSeq (sIf (tAnd (tVal (eVar 6)) (tNot (tVal (eCall s_in_spans (aCons (eVar 0) (aCons (eVar 6) (aCons (eVar 2) aNil)))))))
    (sRet (eCon .non))
    sNext)
  (sRet (eIx (bVar 3) (eBin .mod (eBin .fdiv (eBin .sub (eVar 2) (eVar 4)) (eVar 5)) (eBlt .len (aCons (bVar 3) aNil))))))))
def s_on_layer : List D → Option D := runD 7 3 b_on_layer
/-- the def on_call: its names by place, its body -/
abbrev N_on_call : List Str := ["week", "schedule", "time", "first", "last", "person", "layer"]
def b_on_call : SS :=
  (sSeq (sFor (gTup [3, 4, 5]) (iSeq (eRev (eBlt .list (aCons (eIx (bVar 1) (eCon (.int 2))) aNil))))
    (sIf (tChain .le (eVar 3) (eVar 2) (tLast .lt (bVar 4)))
      (sRet (eVar 5))
      sNext))
  (sSeq (sFor (gName 6) (iSeq (eRev (eBlt .list (aCons (eIx (bVar 1) (eCon (.int 1))) aNil))))
    (sSeq (sAsg (gName 5) (eCall s_on_layer (aCons (eVar 0) (aCons (eVar 6) (aCons (eVar 2) aNil)))))
    (sIf (tCmp .isNot (eVar 5) (eCon .non))
      (sRet (eVar 5))
      sNext)))
  (sRet (eCon .non))))
def s_on_call : List D → Option D := runD 7 3 b_on_call
/-- the def settled: its names by place, its body -/
abbrev N_settled : List Str := ["schedule", "ends", "layer", "standin"]
def b_settled : SS :=
  (sSeq (sOwn 1 (aCons (eCon (.int 0)) aNil))
  (sSeq (sFor (gName 2) (iSeq (eIx (bVar 0) (eCon (.int 1))))
    (sApp 1 (eIx (bVar 2) (eCon (.int 1)))))
  (sSeq (sFor (gName 3) (iSeq (eIx (bVar 0) (eCon (.int 2))))
    (sApp 1 (eIx (bVar 3) (eCon (.int 1)))))
  (sFrz [1] (sRet (eBlt .max (aCons (eVar 1) aNil)))))))
def s_settled : List D → Option D := runD 4 1 b_settled
/-- the def period: its names by place, its body -/
abbrev N_period : List Str := ["week", "schedule", "many", "members", "start", "shift", "spans"]
def b_period : SS :=
  (sSeq (sAsg (gName 2) (eCon (.int 1)))
  (sSeq (sFor (gTup [3, 4, 5, 6]) (iSeq (eIx (bVar 1) (eCon (.int 1))))
    (sSeq (sIf (tCmp .gt (eBlt .len (aCons (bVar 3) aNil)) (eCon (.int 1)))
      (sAsg (gName 2) (eBlt .lcm (aCons (eVar 2) (aCons (eBin .mul (eVar 5) (eBlt .len (aCons (bVar 3) aNil))) aNil))))
      sNext)
    (sIf (tVal (eVar 6))
      (sAsg (gName 2) (eBlt .lcm (aCons (eVar 2) (aCons (eVar 0) aNil))))
      sNext)))
  (sRet (eVar 2))))
def s_period : List D → Option D := runD 7 2 b_period
/-- the def is_value: its names by place, its body -/
abbrev N_is_value : List Str := ["text", "char"]
def b_is_value : SS :=
  (sSeq (sIf (tOr (tCmp .eq (eVar 0) (eCon (.str ""))) (tCmp .gt (eBlt .len (aCons (bVar 0) aNil)) (eCon (.int 20))))
    (sRet (eCon (.bl false)))
    sNext)
  (sSeq (sFor (gName 1) (iSeq (eVar 0))
    (sIf (tCmp .notIn (eVar 1) (eCon (.str "abcdefghijklmnopqrstuvwxyz0123456789_")))
      (sRet (eCon (.bl false)))
      sNext))
  (sRet (eCon (.bl true)))))
def s_is_value : List D → Option D := runD 2 1 b_is_value
/-- the def is_name: its names by place, its body -/
abbrev N_is_name : List Str := ["text"]
def b_is_name : SS :=
  (sRet (eAnd (eCall s_is_value (aCons (eVar 0) aNil)) (eTest (tCmp .inn (eIx (bVar 0) (eCon (.int 0))) (eCon (.str "abcdefghijklmnopqrstuvwxyz"))))))
def s_is_name : List D → Option D := runD 1 1 b_is_name
/-- the def value_of: its names by place, its body -/
abbrev N_value_of : List Str := ["labels", "name", "pair"]
def b_value_of : SS :=
  (sSeq (sFor (gName 2) (iSeq (eVar 0))
    (sIf (tCmp .eq (eIx (bVar 2) (eCon (.int 0))) (bVar 1))
      (sRet (eIx (bVar 2) (eCon (.int 1))))
      sNext))
  (sRet (eCon (.str ""))))
def s_value_of : List D → Option D := runD 3 2 b_value_of
/-- the def matches: its names by place, its body -/
abbrev N_matches : List Str := ["matcher", "labels", "name", "values", "inside", "found"]
def b_matches : SS :=
  (sSeq (sAsg (gTup [2, 3, 4]) (eVar 0))
  (sSeq (sAsg (gName 5) (eTest (tCmp .inn (eCall s_value_of (aCons (eVar 1) (aCons (eVar 2) aNil))) (bVar 3))))
  (sRet (eTest (tCmp .eq (eVar 5) (bVar 4))))))
def s_matches : List D → Option D := runD 6 2 b_matches
/-- the def matches_all: its names by place, its body -/
abbrev N_matches_all : List Str := ["matchers", "labels", "matcher"]
def b_matches_all : SS :=
  (sSeq (sFor (gName 2) (iSeq (eVar 0))
    (sIf (tNot (tVal (eCall s_matches (aCons (eVar 2) (aCons (eVar 1) aNil)))))
      (sRet (eCon (.bl false)))
      sNext))
  (sRet (eCon (.bl true))))
def s_matches_all : List D → Option D := runD 3 2 b_matches_all
/-- the def is_between: its names by place, its body -/
abbrev N_is_between : List Str := ["low", "n", "high"]
def b_is_between : SS :=
  (sRet (eTest (tChain .le (eVar 0) (eVar 1) (tLast .le (bVar 2)))))
def s_is_between : List D → Option D := runD 3 3 b_is_between
/-- the def all_true: its names by place, its body -/
abbrev N_all_true : List Str := ["flags", "flag"]
def b_all_true : SS :=
  (sSeq (sFor (gName 1) (iSeq (eVar 0))
    (sIf (tNot (tVal (eVar 1)))
      (sRet (eCon (.bl false)))
      sNext))
  (sRet (eCon (.bl true))))
def s_all_true : List D → Option D := runD 2 1 b_all_true
/-- the def span_fits: its names by place, its body -/
abbrev N_span_fits : List Str := ["week", "span"]
def b_span_fits : SS :=
  (sRet (eTest (tChain .le (eCon (.int 0)) (eIx (bVar 1) (eCon (.int 0))) (tMid .lt (eIx (bVar 1) (eCon (.int 1))) (tLast .le (bVar 0))))))
def s_span_fits : List D → Option D := runD 2 2 b_span_fits
/-- the def label_fits: its names by place, its body -/
abbrev N_label_fits : List Str := ["name"]
def b_label_fits : SS :=
  (sRet (eAnd (eCall s_is_name (aCons (eVar 0) aNil)) (eTest (tCmp .ne (eVar 0) (eCon (.str "zzzzzzzzzzzzzzzzzzzz"))))))
def s_label_fits : List D → Option D := runD 1 1 b_label_fits
/-- the def labels_fit: its names by place, its body -/
abbrev N_labels_fit : List Str := ["names", "name"]
def b_labels_fit : SS :=
  (sRet (eAnd (eTest (tCmp .le (eBlt .len (aCons (bVar 0) aNil)) (eCon (.int 6)))) (eCall s_all_true (aCons (eComp [1] (gName 1) (iSeq (eVar 0)) tYes (eCall s_label_fits (aCons (eVar 1) aNil))) aNil))))
def s_labels_fit : List D → Option D := runD 2 1 b_labels_fit
/-- the def layer_fits: its names by place, its body -/
abbrev N_layer_fits : List Str := ["week", "people", "layer", "members", "start", "shift", "spans", "span", "member"]
def b_layer_fits : SS :=
  (sSeq (sAsg (gTup [3, 4, 5, 6]) (eVar 2))
  (sSeq (sIf (tOr (tNot (tVal (eCall s_is_between (aCons (eCon (.int 1)) (aCons (eBlt .len (aCons (bVar 3) aNil)) (aCons (eCon (.int 10)) aNil)))))) (tNot (tVal (eCall s_is_between (aCons (eCon (.int 1)) (aCons (eVar 5) (aCons (eCon (.int 1000)) aNil)))))))
    (sRet (eCon (.bl false)))
    sNext)
  (sSeq (sIf (tOr (tNot (tVal (eCall s_is_between (aCons (eCon (.int 0)) (aCons (eVar 4) (aCons (eCon (.int 10000)) aNil)))))) (tNot (tVal (eCall s_all_true (aCons (eComp [8] (gName 8) (iSeq (eVar 3)) tYes (eTest (tCmp .inn (eVar 8) (bVar 1)))) aNil)))))
    (sRet (eCon (.bl false)))
    sNext)
  (sRet (eCall s_all_true (aCons (eComp [7] (gName 7) (iSeq (eVar 6)) tYes (eCall s_span_fits (aCons (eVar 0) (aCons (eVar 7) aNil)))) aNil))))))
def s_layer_fits : List D → Option D := runD 9 3 b_layer_fits
/-- the def standin_fits: its names by place, its body -/
abbrev N_standin_fits : List Str := ["people", "standin", "first", "last", "person"]
def b_standin_fits : SS :=
  (sSeq (sAsg (gTup [2, 3, 4]) (eVar 1))
  (sRet (eAnd (eTest (tChain .le (eCon (.int 0)) (eVar 2) (tMid .lt (eVar 3) (tLast .le (eCon (.int 10000)))))) (eTest (tCmp .inn (eVar 4) (bVar 0))))))
def s_standin_fits : List D → Option D := runD 5 2 b_standin_fits
/-- the def schedule_fits: its names by place, its body -/
abbrev N_schedule_fits : List Str := ["week", "people", "schedule", "layers", "standins", "standin", "layer"]
def b_schedule_fits : SS :=
  (sSeq (sAsg (gTup [3, 4]) (eSl (eVar 2) (oSome (eCon (.int 1))) oNone))
  (sSeq (sIf (tOr (tCmp .gt (eBlt .len (aCons (bVar 3) aNil)) (eCon (.int 6))) (tCmp .gt (eBlt .len (aCons (bVar 4) aNil)) (eCon (.int 20))))
    (sRet (eCon (.bl false)))
    sNext)
  (sSeq (sIf (tNot (tVal (eCall s_all_true (aCons (eComp [6] (gName 6) (iSeq (eVar 3)) tYes (eCall s_layer_fits (aCons (eVar 0) (aCons (eVar 1) (aCons (eVar 6) aNil))))) aNil))))
    (sRet (eCon (.bl false)))
    sNext)
  (sRet (eCall s_all_true (aCons (eComp [5] (gName 5) (iSeq (eVar 4)) tYes (eCall s_standin_fits (aCons (eVar 1) (aCons (eVar 5) aNil)))) aNil))))))
def s_schedule_fits : List D → Option D := runD 7 3 b_schedule_fits
/-- the def policy_fits: its names by place, its body -/
abbrev N_policy_fits : List Str := ["schedules", "policy", "levels", "name", "after"]
def b_policy_fits : SS :=
  (sSeq (sAsg (gName 2) (eIx (bVar 1) (eCon (.int 1))))
  (sSeq (sIf (tNot (tVal (eCall s_is_between (aCons (eCon (.int 1)) (aCons (eBlt .len (aCons (bVar 2) aNil)) (aCons (eCon (.int 6)) aNil))))))
    (sRet (eCon (.bl false)))
    sNext)
  (sRet (eCall s_all_true (aCons (eComp [3, 4] (gTup [3, 4]) (iSeq (eVar 2)) tYes (eAnd (eTest (tCmp .inn (eVar 3) (bVar 0))) (eCall s_is_between (aCons (eCon (.int 0)) (aCons (eVar 4) (aCons (eCon (.int 1000)) aNil)))))) aNil)))))
def s_policy_fits : List D → Option D := runD 5 2 b_policy_fits
/-- the def window_fits: its names by place, its body -/
abbrev N_window_fits : List Str := ["week", "window", "span"]
def b_window_fits : SS :=
  (sRet (eAnd (eCall s_is_between (aCons (eCon (.int 1)) (aCons (eBlt .len (aCons (eIx (bVar 1) (eCon (.int 1))) aNil)) (aCons (eCon (.int 8)) aNil)))) (eCall s_all_true (aCons (eComp [2] (gName 2) (iSeq (eIx (bVar 1) (eCon (.int 1)))) tYes (eCall s_span_fits (aCons (eVar 0) (aCons (eVar 2) aNil)))) aNil))))
def s_window_fits : List D → Option D := runD 3 2 b_window_fits
/-- the def matcher_fits: its names by place, its body -/
abbrev N_matcher_fits : List Str := ["matcher", "name", "values", "value"]
def b_matcher_fits : SS :=
  (sSeq (sAsg (gTup [1, 2]) (eSl (eVar 0) oNone (oSome (eCon (.int 2)))))
  (sSeq (sIf (tOr (tNot (tVal (eCall s_label_fits (aCons (eVar 1) aNil)))) (tNot (tVal (eCall s_is_between (aCons (eCon (.int 1)) (aCons (eBlt .len (aCons (bVar 2) aNil)) (aCons (eCon (.int 6)) aNil)))))))
    (sRet (eCon (.bl false)))
    sNext)
  (sRet (eCall s_all_true (aCons (eComp [3] (gName 3) (iSeq (eVar 2)) tYes (eOr (eTest (tCmp .eq (eVar 3) (eCon (.str "")))) (eCall s_is_value (aCons (eVar 3) aNil)))) aNil)))))
def s_matcher_fits : List D → Option D := runD 4 1 b_matcher_fits
/-- the def matchers_fit: its names by place, its body -/
abbrev N_matchers_fit : List Str := ["matchers", "matcher"]
def b_matchers_fit : SS :=
  (sRet (eAnd (eTest (tCmp .le (eBlt .len (aCons (bVar 0) aNil)) (eCon (.int 6)))) (eCall s_all_true (aCons (eComp [1] (gName 1) (iSeq (eVar 0)) tYes (eCall s_matcher_fits (aCons (eVar 1) aNil))) aNil))))
def s_matchers_fit : List D → Option D := runD 2 1 b_matchers_fit
/-- the def settings_fit: its names by place, its body -/
abbrev N_settings_fit : List Str := ["windows", "policies", "settings", "group", "wait", "interval", "again", "mutes", "policy", "name"]
def b_settings_fit : SS :=
  (sSeq (sAsg (gTup [3, 4, 5, 6, 7, 8]) (eVar 2))
  (sSeq (sIf (tOr (tNot (tVal (eCall s_labels_fit (aCons (eVar 3) aNil)))) (tNot (tVal (eCall s_is_between (aCons (eCon (.int 0)) (aCons (eVar 4) (aCons (eCon (.int 1000)) aNil)))))))
    (sRet (eCon (.bl false)))
    sNext)
  (sSeq (sIf (tOr (tNot (tVal (eCall s_is_between (aCons (eCon (.int 1)) (aCons (eVar 5) (aCons (eCon (.int 1000)) aNil)))))) (tNot (tVal (eCall s_is_between (aCons (eVar 5) (aCons (eVar 6) (aCons (eCon (.int 1000)) aNil)))))))
    (sRet (eCon (.bl false)))
    sNext)
  (sRet (eAnd (eTest (tCmp .le (eBlt .len (aCons (bVar 7) aNil)) (eCon (.int 6)))) (eAnd (eCall s_all_true (aCons (eComp [9] (gName 9) (iSeq (eVar 7)) tYes (eTest (tCmp .inn (eVar 9) (bVar 0)))) aNil)) (eTest (tCmp .inn (eVar 8) (bVar 1)))))))))
def s_settings_fit : List D → Option D := runD 10 3 b_settings_fit
/-- the def route_fits: its names by place, its body -/
abbrev N_route_fits : List Str := ["windows", "policies", "place", "route", "parent", "matchers", "settings"]
def b_route_fits : SS :=
  (sSeq (sAsg (gTup [4, 5, 6]) (eVar 3))
  (sSeq (sIf (tCmp .eq (eVar 2) (eCon (.int 0)))
    (sIf (tOr (tCmp .isNot (eVar 4) (eCon .non)) (tCmp .gt (eBlt .len (aCons (bVar 5) aNil)) (eCon (.int 0))))
      (sRet (eCon (.bl false)))
      sNext)
    (sIf (tOr (tCmp .is (eVar 4) (eCon .non)) (tNot (tVal (eCall s_is_between (aCons (eCon (.int 0)) (aCons (eVar 4) (aCons (eBin .sub (eVar 2) (eCon (.int 1))) aNil)))))))
      (sRet (eCon (.bl false)))
      sNext))
  (sRet (eAnd (eCall s_matchers_fit (aCons (eVar 5) aNil)) (eCall s_settings_fit (aCons (eVar 0) (aCons (eVar 1) (aCons (eVar 6) aNil))))))))
def s_route_fits : List D → Option D := runD 7 4 b_route_fits
/-- the def holdback_fits: its names by place, its body -/
abbrev N_holdback_fits : List Str := ["holdback", "source", "target", "equal"]
def b_holdback_fits : SS :=
  (sSeq (sAsg (gTup [1, 2, 3]) (eVar 0))
  (sRet (eAnd (eCall s_matchers_fit (aCons (eVar 1) aNil)) (eAnd (eCall s_matchers_fit (aCons (eVar 2) aNil)) (eCall s_labels_fit (aCons (eVar 3) aNil))))))
def s_holdback_fits : List D → Option D := runD 4 1 b_holdback_fits
/-- the def store_fits: its names by place, its body -/
abbrev N_store_fits : List Str := ["store", "lateness", "span", "factor", "levels"]
def b_store_fits : SS :=
  (sSeq (sAsg (gTup [1, 2, 3, 4]) (eVar 0))
  (sSeq (sIf (tOr (tNot (tVal (eCall s_is_between (aCons (eCon (.int 0)) (aCons (eVar 1) (aCons (eCon (.int 1000)) aNil)))))) (tNot (tVal (eCall s_is_between (aCons (eCon (.int 1)) (aCons (eVar 2) (aCons (eCon (.int 1000)) aNil)))))))
    (sRet (eCon (.bl false)))
    sNext)
  (sRet (eAnd (eCall s_is_between (aCons (eCon (.int 2)) (aCons (eVar 3) (aCons (eCon (.int 10)) aNil)))) (eCall s_is_between (aCons (eCon (.int 0)) (aCons (eVar 4) (aCons (eCon (.int 3)) aNil))))))))
def s_store_fits : List D → Option D := runD 5 1 b_store_fits
/-- the def names_of: its names by place, its body -/
abbrev N_names_of : List Str := ["entries", "entry"]
def b_names_of : SS :=
  (sRet (eComp [1] (gName 1) (iSeq (eVar 0)) tYes (eIx (bVar 1) (eCon (.int 0)))))
def s_names_of : List D → Option D := runD 2 1 b_names_of
/-- the def is_new_name: its names by place, its body -/
abbrev N_is_new_name : List Str := ["entries", "place", "name"]
def b_is_new_name : SS :=
  (sSeq (sAsg (gName 2) (eIx (eIx (bVar 0) (eVar 1)) (eCon (.int 0))))
  (sRet (eAnd (eCall s_is_name (aCons (eVar 2) aNil)) (eTest (tCmp .notIn (eVar 2) (eCall s_names_of (aCons (eSl (eVar 0) oNone (oSome (eVar 1))) aNil)))))))
def s_is_new_name : List D → Option D := runD 3 2 b_is_new_name
/-- the def require: its names by place, its body -/
abbrev N_require : List Str := ["part", "flags", "place", "flag"]
def b_require : SS :=
  (sFor (gTup [2, 3]) (iEnum (eVar 1))
    (sIf (tNot (tVal (eVar 3)))
      sFail
      sNext))
def s_require : List D → Option D := runD 4 2 b_require
/-- the def check_people: its names by place, its body -/
abbrev N_check_people : List Str := ["made", "flags", "place", "person", "people", "schedule"]
def b_check_people : SS :=
  (sSeq (sDrop (eCall s_require (aCons (eCon (.str "week")) (aCons (eLst (aCons (eCall s_is_between (aCons (eCon (.int 1)) (aCons (eFld (eVar 0) "week") (aCons (eCon (.int 2000)) aNil)))) aNil)) aNil))))
  (sSeq (sOwn 1 aNil)
  (sSeq (sFor (gTup [2, 3]) (iEnum (eFld (eVar 0) "people"))
    (sApp 1 (eAnd (eCall s_is_new_name (aCons (eFld (eVar 0) "people") (aCons (eVar 2) aNil))) (eCall s_is_between (aCons (eCon (.int 0)) (aCons (eIx (bVar 3) (eCon (.int 1))) (aCons (eCon (.int 20)) aNil)))))))
  (sSeq (sFrz [1] (sDrop (eCall s_require (aCons (eCon (.str "people")) (aCons (eVar 1) aNil)))))
  (sSeq (sAsg (gName 4) (eCall s_names_of (aCons (eFld (eVar 0) "people") aNil)))
  (sSeq (sOwn 1 aNil)
  (sSeq (sFor (gTup [2, 5]) (iEnum (eFld (eVar 0) "schedules"))
    (sApp 1 (eAnd (eCall s_is_new_name (aCons (eFld (eVar 0) "schedules") (aCons (eVar 2) aNil))) (eCall s_schedule_fits (aCons (eFld (eVar 0) "week") (aCons (eVar 4) (aCons (eVar 5) aNil)))))))
  (sFrz [1] (sDrop (eCall s_require (aCons (eCon (.str "schedules")) (aCons (eVar 1) aNil))))))))))))
def s_check_people : List D → Option D := runD 6 1 b_check_people
/-- the def check_routes: its names by place, its body -/
abbrev N_check_routes : List Str := ["made", "schedules", "flags", "place", "policy", "window", "windows", "policies", "route", "entry"]
def b_check_routes : SS :=
  (sSeq (sAsg (gName 1) (eCall s_names_of (aCons (eFld (eVar 0) "schedules") aNil)))
  (sSeq (sOwn 2 aNil)
  (sSeq (sFor (gTup [3, 4]) (iEnum (eFld (eVar 0) "policies"))
    (sApp 2 (eAnd (eCall s_is_new_name (aCons (eFld (eVar 0) "policies") (aCons (eVar 3) aNil))) (eCall s_policy_fits (aCons (eVar 1) (aCons (eVar 4) aNil))))))
  (sSeq (sFrz [2] (sDrop (eCall s_require (aCons (eCon (.str "policies")) (aCons (eVar 2) aNil)))))
  (sSeq (sOwn 2 aNil)
  (sSeq (sFor (gTup [3, 5]) (iEnum (eFld (eVar 0) "windows"))
    (sApp 2 (eAnd (eCall s_is_new_name (aCons (eFld (eVar 0) "windows") (aCons (eVar 3) aNil))) (eCall s_window_fits (aCons (eFld (eVar 0) "week") (aCons (eVar 5) aNil))))))
  (sSeq (sFrz [2] (sDrop (eCall s_require (aCons (eCon (.str "windows")) (aCons (eVar 2) aNil)))))
  (sSeq (sIf (tNot (tVal (eFld (eVar 0) "routes")))
    sFail
    sNext)
  (sSeq (sAsg (gName 6) (eCall s_names_of (aCons (eFld (eVar 0) "windows") aNil)))
  (sSeq (sAsg (gName 7) (eCall s_names_of (aCons (eFld (eVar 0) "policies") aNil)))
  (sSeq (sOwn 2 aNil)
  (sSeq (sFor (gTup [3, 8]) (iEnum (eFld (eVar 0) "routes"))
    (sApp 2 (eAnd (eTest (tCmp .lt (eVar 3) (eCon (.int 30)))) (eCall s_route_fits (aCons (eVar 6) (aCons (eVar 7) (aCons (eVar 3) (aCons (eVar 8) aNil))))))))
  (sSeq (sFrz [2] (sDrop (eCall s_require (aCons (eCon (.str "routes")) (aCons (eVar 2) aNil)))))
  (sDrop (eCall s_require (aCons (eCon (.str "holdbacks")) (aCons (eComp [3, 9] (gTup [3, 9]) (iEnum (eFld (eVar 0) "holdbacks")) tYes (eAnd (eTest (tCmp .lt (eVar 3) (eCon (.int 10)))) (eCall s_holdback_fits (aCons (eVar 9) aNil)))) aNil)))))))))))))))))
def s_check_routes : List D → Option D := runD 10 1 b_check_routes
/-- the def check_rest: its names by place, its body -/
abbrev N_check_rest : List Str := ["made", "flags", "place", "group"]
def b_check_rest : SS :=
  (sSeq (sOwn 1 aNil)
  (sSeq (sFor (gTup [2, 3]) (iEnum (eFld (eVar 0) "groups"))
    (sApp 1 (eAnd (eCall s_is_new_name (aCons (eFld (eVar 0) "groups") (aCons (eVar 2) aNil))) (eCall s_group_fits (aCons (eVar 3) aNil)))))
  (sSeq (sFrz [1] (sDrop (eCall s_require (aCons (eCon (.str "groups")) (aCons (eVar 1) aNil)))))
  (sSeq (sDrop (eCall s_require (aCons (eCon (.str "replicas")) (aCons (eLst (aCons (eCall s_is_between (aCons (eCon (.int 1)) (aCons (eFld (eVar 0) "replicas") (aCons (eCon (.int 5)) aNil)))) aNil)) aNil))))
  (sSeq (sDrop (eCall s_require (aCons (eCon (.str "pause")) (aCons (eLst (aCons (eCall s_is_between (aCons (eCon (.int 0)) (aCons (eFld (eVar 0) "pause") (aCons (eCon (.int 1000)) aNil)))) aNil)) aNil))))
  (sSeq (sDrop (eCall s_require (aCons (eCon (.str "down")) (aCons (eLst (aCons (eCall s_is_between (aCons (eCon (.int 0)) (aCons (eFld (eVar 0) "down") (aCons (eCon (.int 20)) aNil)))) aNil)) aNil))))
  (sSeq (sDrop (eCall s_require (aCons (eCon (.str "store")) (aCons (eLst (aCons (eCall s_store_fits (aCons (eFld (eVar 0) "store") aNil)) aNil)) aNil))))
  (sDrop (eCall s_require (aCons (eCon (.str "lookback")) (aCons (eLst (aCons (eCall s_is_between (aCons (eCon (.int 1)) (aCons (eFld (eVar 0) "lookback") (aCons (eCon (.int 1000)) aNil)))) aNil)) aNil)))))))))))
def s_check_rest : List D → Option D := runD 4 1 b_check_rest
/-- the def setup: its names by place, its body -/
abbrev N_setup : List Str := ["week", "people", "schedules", "policies", "windows", "routes", "holdbacks", "groups", "replicas", "pause", "down", "store", "lookback", "numbers", "made"]
def b_setup : SS :=
  (sSeq (sAsg (gName 13) (eTup (aCons (eVar 8) (aCons (eVar 9) (aCons (eVar 10) (aCons (eVar 11) (aCons (eVar 12) aNil)))))))
  (sSeq (sAsg (gName 14) (eCall s_Setup (aCons (eVar 0) (aCons (eVar 1) (aCons (eVar 2) (aCons (eVar 3) (aCons (eVar 4) (aCons (eVar 5) (aCons (eVar 6) (aCons (eVar 7) (aCons (eVar 13) aNil)))))))))))
  (sSeq (sDrop (eCall s_check_people (aCons (eVar 14) aNil)))
  (sSeq (sDrop (eCall s_check_routes (aCons (eVar 14) aNil)))
  (sSeq (sDrop (eCall s_check_rest (aCons (eVar 14) aNil)))
  (sRet (eVar 14)))))))
def s_setup : List D → Option D := runD 15 13 b_setup
/-- the def entry_of: its names by place, its body -/
abbrev N_entry_of : List Str := ["entries", "name", "word", "entry"]
def b_entry_of : SS :=
  (sSeq (sFor (gName 3) (iSeq (eVar 0))
    (sIf (tCmp .eq (eIx (bVar 3) (eCon (.int 0))) (bVar 1))
      (sRet (eVar 3))
      sNext))
  sFail)
def s_entry_of : List D → Option D := runD 4 3 b_entry_of
/-- the def channels_of: its names by place, its body -/
abbrev N_channels_of : List Str := ["made", "person"]
def b_channels_of : SS :=
  (sRet (eIx (eCall s_entry_of (aCons (eFld (eVar 0) "people") (aCons (eVar 1) (aCons (eCon (.str "person")) aNil)))) (eCon (.int 1))))
def s_channels_of : List D → Option D := runD 2 2 b_channels_of
/-- the def schedule_of: its names by place, its body -/
abbrev N_schedule_of : List Str := ["made", "name"]
def b_schedule_of : SS :=
  (sRet (eCall s_entry_of (aCons (eFld (eVar 0) "schedules") (aCons (eVar 1) (aCons (eCon (.str "schedule")) aNil)))))
def s_schedule_of : List D → Option D := runD 2 2 b_schedule_of
/-- the def policy_of: its names by place, its body -/
abbrev N_policy_of : List Str := ["made", "name"]
def b_policy_of : SS :=
  (sRet (eCall s_entry_of (aCons (eFld (eVar 0) "policies") (aCons (eVar 1) (aCons (eCon (.str "policy")) aNil)))))
def s_policy_of : List D → Option D := runD 2 2 b_policy_of
/-- the def window_of: its names by place, its body -/
abbrev N_window_of : List Str := ["made", "name"]
def b_window_of : SS :=
  (sRet (eCall s_entry_of (aCons (eFld (eVar 0) "windows") (aCons (eVar 1) (aCons (eCon (.str "window")) aNil)))))
def s_window_of : List D → Option D := runD 2 2 b_window_of
/-- the def is_muted: its names by place, its body -/
abbrev N_is_muted : List Str := ["setup", "mutes", "time", "name"]
def b_is_muted : SS :=
  (sRet (eBlt .any (aCons (eComp [3] (gName 3) (iSeq (eVar 1)) tYes (eCall s_in_spans (aCons (eFld (eVar 0) "week") (aCons (eIx (eCall s_window_of (aCons (eVar 0) (aCons (eVar 3) aNil))) (eCon (.int 1))) (aCons (eVar 2) aNil))))) aNil)))
def s_is_muted : List D → Option D := runD 4 3 b_is_muted
/-- the def is_sure: its names by place, its body -/
abbrev N_is_sure : List Str := ["setup", "person"]
def b_is_sure : SS :=
  (sRet (eTest (tCmp .gt (eCall s_channels_of (aCons (eVar 0) (aCons (eVar 1) aNil))) (eFld (eVar 0) "down"))))
def s_is_sure : List D → Option D := runD 2 2 b_is_sure
/-- the def plan: its names by place, its body -/
abbrev N_plan : List Str := ["setup", "policy", "begun", "rows", "schedule", "after", "person"]
def b_plan : SS :=
  (sSeq (sOwn 3 aNil)
  (sSeq (sFor (gTup [4, 5]) (iSeq (eIx (eCall s_policy_of (aCons (eVar 0) (aCons (eVar 1) aNil))) (eCon (.int 1))))
    (sSeq (sAsg (gName 6) (eCall s_on_call (aCons (eFld (eVar 0) "week") (aCons (eCall s_schedule_of (aCons (eVar 0) (aCons (eVar 4) aNil))) (aCons (eBin .add (eVar 2) (eVar 5)) aNil)))))
    (sIf (tCmp .isNot (eVar 6) (eCon .non))
      (sApp 3 (eTup (aCons (eBin .add (eVar 2) (eVar 5)) (aCons (eVar 6) (aCons (eCall s_is_sure (aCons (eVar 0) (aCons (eVar 6) aNil))) aNil)))))
      sNext)))
  (sFrz [3] (sRet (eVar 3)))))
def s_plan : List D → Option D := runD 7 3 b_plan
/-- the def delay: its names by place, its body -/
abbrev N_delay : List Str := ["setup", "policy", "begun", "delays", "time", "person", "sure"]
def b_delay : SS :=
  (sSeq (sAsg (gName 3) (eComp [4, 5, 6] (gTup [4, 5, 6]) (iSeq (eCall s_plan (aCons (eVar 0) (aCons (eVar 1) (aCons (eVar 2) aNil))))) (tVal (eVar 6)) (eBin .sub (eVar 4) (eVar 2))))
  (sSeq (sIf (tNot (tVal (eVar 3)))
    (sRet (eCon .non))
    sNext)
  (sRet (eBlt .min (aCons (eVar 3) aNil)))))
def s_delay : List D → Option D := runD 7 3 b_delay
/-- the def slack: its names by place, its body -/
abbrev N_slack : List Str := ["setup"]
def b_slack : SS :=
  (sRet (eBin .mul (eBin .sub (eFld (eVar 0) "replicas") (eCon (.int 1))) (eFld (eVar 0) "pause")))
def s_slack : List D → Option D := runD 1 1 b_slack
/-- the def is_forced: its names by place, its body -/
abbrev N_is_forced : List Str := ["setup", "settings", "due", "first", "last", "time"]
def b_is_forced : SS :=
  (sSeq (sFor (gName 5) (iRng rng2 (aCons (eBlt .max (aCons (eVar 3) (aCons (eBin .add (eVar 2) (eCall s_slack (aCons (eVar 0) aNil))) aNil))) (aCons (eVar 4) aNil)))
    (sIf (tNot (tVal (eCall s_is_muted (aCons (eVar 0) (aCons (eIx (bVar 1) (eCon (.int 4))) (aCons (eVar 5) aNil))))))
      (sRet (eCon (.bl true)))
      sNext))
  (sRet (eCon (.bl false))))
def s_is_forced : List D → Option D := runD 6 5 b_is_forced
/-- the def can_fail: its names by place, its body -/
abbrev N_can_fail : List Str := ["setup", "settings", "end", "time", "name", "after", "person"]
def b_can_fail : SS :=
  (sSeq (sFor (gTup [4, 5]) (iSeq (eIx (eCall s_policy_of (aCons (eVar 0) (aCons (eIx (bVar 1) (eCon (.int 5))) aNil))) (eCon (.int 1))))
    (sIf (tCmp .le (eBin .add (eVar 3) (eVar 5)) (bVar 2))
      (sSeq (sAsg (gName 6) (eCall s_on_call (aCons (eFld (eVar 0) "week") (aCons (eCall s_schedule_of (aCons (eVar 0) (aCons (eVar 4) aNil))) (aCons (eBin .add (eVar 3) (eVar 5)) aNil)))))
      (sIf (tAnd (tCmp .isNot (eVar 6) (eCon .non)) (tVal (eCall s_is_sure (aCons (eVar 0) (aCons (eVar 6) aNil)))))
        (sRet (eCon (.bl false)))
        sNext))
      sNext))
  (sRet (eCon (.bl true))))
def s_can_fail : List D → Option D := runD 7 4 b_can_fail
/-- the def can_precede: its names by place, its body -/
abbrev N_can_precede : List Str := ["setup", "settings", "start", "time"]
def b_can_precede : SS :=
  (sSeq (sIf (tOr (tCmp .ge (eVar 3) (bVar 2)) (tOr (tCmp .lt (eVar 3) (eIx (bVar 1) (eCon (.int 1)))) (tVal (eCall s_is_muted (aCons (eVar 0) (aCons (eIx (bVar 1) (eCon (.int 4))) (aCons (eVar 3) aNil)))))))
    (sRet (eCon (.bl false)))
    sNext)
  (sRet (eNot (eCall s_is_forced (aCons (eVar 0) (aCons (eVar 1) (aCons (eBin .add (eVar 3) (eIx (bVar 1) (eCon (.int 3)))) (aCons (eBin .add (eVar 3) (eCon (.int 1))) (aCons (eVar 2) aNil)))))))))
def s_can_precede : List D → Option D := runD 4 4 b_can_precede
/-- the def first_due: its names by place, its body -/
abbrev N_first_due : List Str := ["settings", "start", "before"]
def b_first_due : SS :=
  (sSeq (sIf (tCmp .is (eVar 2) (eCon .non))
    (sRet (eBin .add (eVar 1) (eIx (bVar 0) (eCon (.int 1)))))
    sNext)
  (sRet (eBin .add (eVar 2) (eIx (bVar 0) (eCon (.int 2))))))
def s_first_due : List D → Option D := runD 3 3 b_first_due
/-- the def can_begin: its names by place, its body -/
abbrev N_can_begin : List Str := ["setup", "settings", "start", "before", "time"]
def b_can_begin : SS :=
  (sSeq (sIf (tOr (tCmp .lt (eVar 4) (bVar 2)) (tVal (eCall s_is_muted (aCons (eVar 0) (aCons (eIx (bVar 1) (eCon (.int 4))) (aCons (eVar 4) aNil))))))
    (sRet (eCon (.bl false)))
    sNext)
  (sSeq (sIf (tVal (eCall s_is_forced (aCons (eVar 0) (aCons (eVar 1) (aCons (eCall s_first_due (aCons (eVar 1) (aCons (eVar 2) (aCons (eVar 3) aNil)))) (aCons (eVar 2) (aCons (eVar 4) aNil)))))))
    (sRet (eCon (.bl false)))
    sNext)
  (sSeq (sIf (tCmp .is (eVar 3) (eCon .non))
    (sRet (eTest (tCmp .ge (eVar 4) (eIx (bVar 1) (eCon (.int 1))))))
    sNext)
  (sRet (eTest (tCmp .ge (eVar 4) (eBin .add (eVar 3) (eIx (bVar 1) (eCon (.int 2))))))))))
def s_can_begin : List D → Option D := runD 5 5 b_can_begin
/-- the def can_follow: its names by place, its body -/
abbrev N_can_follow : List Str := ["setup", "settings", "time", "later"]
def b_can_follow : SS :=
  (sSeq (sIf (tOr (tCmp .lt (eVar 3) (eBin .add (eVar 2) (eIx (bVar 1) (eCon (.int 2))))) (tVal (eCall s_is_muted (aCons (eVar 0) (aCons (eIx (bVar 1) (eCon (.int 4))) (aCons (eVar 3) aNil))))))
    (sRet (eCon (.bl false)))
    sNext)
  (sRet (eNot (eCall s_is_forced (aCons (eVar 0) (aCons (eVar 1) (aCons (eBin .add (eVar 2) (eIx (bVar 1) (eCon (.int 3)))) (aCons (eBin .add (eVar 2) (eCon (.int 1))) (aCons (eVar 3) aNil)))))))))
def s_can_follow : List D → Option D := runD 4 4 b_can_follow
/-- the def _later: its names by place, its body -/
abbrev N__later : List Str := ["routes", "at", "labels", "number"]
def b__later : SS :=
  (sSeq (sFor (gName 3) (iRng rng2 (aCons (eBin .add (eVar 1) (eCon (.int 1))) (aCons (eBlt .len (aCons (bVar 0) aNil)) aNil)))
    (sIf (tAnd (tCmp .eq (eIx (eIx (bVar 0) (eVar 3)) (eCon (.int 0))) (bVar 1)) (tVal (eCall s_matches_all (aCons (eIx (eIx (bVar 0) (eVar 3)) (eCon (.int 1))) (aCons (eVar 2) aNil)))))
      (sRet (eVar 3))
      sNext))
  (sRet (eCon .non)))
def s__later : List D → Option D := runD 4 3 b__later
/-- the def way: its names by place, its body -/
abbrev N_way : List Str := ["routes", "labels", "rows", "later"]
def b_way : SS :=
  (sSeq (sOwn 2 (aCons (eCon (.int 0)) aNil))
  (sSeq (sAsg (gName 3) (eCall s__later (aCons (eVar 0) (aCons (eCon (.int 0)) (aCons (eVar 1) aNil)))))
  (sSeq (sWhile (tCmp .isNot (eVar 3) (eCon .non))
    (sSeq (sApp 2 (eVar 3))
    (sAsg (gName 3) (eCall s__later (aCons (eVar 0) (aCons (eVar 3) (aCons (eVar 1) aNil)))))))
  (sFrz [2] (sRet (eVar 2))))))
def s_way : List D → Option D := runD 4 2 b_way
/-- the def end_of: its names by place, its body -/
abbrev N_end_of : List Str := ["routes", "labels"]
def b_end_of : SS :=
  (sRet (eIx (eCall s_way (aCons (eVar 0) (aCons (eVar 1) aNil))) (eNeg (eCon (.int 1)))))
def s_end_of : List D → Option D := runD 2 2 b_end_of
/-- the def _from_here: its names by place, its body -/
abbrev N__from_here : List Str := ["setup", "settings", "time", "end", "later", "at", "row"]
def b__from_here : SS :=
  (sSeq (sIf (tNot (tVal (eCall s_can_fail (aCons (eVar 0) (aCons (eVar 1) (aCons (eVar 3) (aCons (eVar 2) aNil)))))))
    (sRet (eTup (aCons (eCon (.bl false)) (aCons (eCon .non) aNil))))
    sNext)
  (sSeq (sIf (tNot (tVal (eCall s_is_forced (aCons (eVar 0) (aCons (eVar 1) (aCons (eBin .add (eVar 2) (eIx (bVar 1) (eCon (.int 3)))) (aCons (eBin .add (eVar 2) (eCon (.int 1))) (aCons (eBin .add (eVar 3) (eCon (.int 1))) aNil))))))))
    (sRet (eTup (aCons (eCon (.bl true)) (aCons (eCon .non) aNil))))
    sNext)
  (sSeq (sFor (gTup [5, 6]) (iEnum (eVar 4))
    (sIf (tAnd (tVal (eIx (bVar 6) (eCon (.int 0)))) (tVal (eCall s_can_follow (aCons (eVar 0) (aCons (eVar 1) (aCons (eVar 2) (aCons (eBin .add (eBin .add (eVar 2) (eCon (.int 1))) (eVar 5)) aNil)))))))
      (sRet (eTup (aCons (eCon (.bl true)) (aCons (eBin .add (eBin .add (eVar 2) (eCon (.int 1))) (eVar 5)) aNil))))
      sNext))
  (sRet (eTup (aCons (eCon (.bl false)) (aCons (eCon .non) aNil)))))))
def s__from_here : List D → Option D := runD 7 5 b__from_here
/-- the def failing: its names by place, its body -/
abbrev N_failing : List Str := ["setup", "settings", "first", "end", "rows", "time"]
def b_failing : SS :=
  (sSeq (sAsg (gName 4) (eLst aNil))
  (sSeq (sFor (gName 5) (iRng rng3 (aCons (eVar 3) (aCons (eBin .sub (eVar 2) (eCon (.int 1))) (aCons (eNeg (eCon (.int 1))) aNil))))
    (sAsg (gName 4) (eBin .add (eLst (aCons (eCall s__from_here (aCons (eVar 0) (aCons (eVar 1) (aCons (eVar 5) (aCons (eVar 3) (aCons (eVar 4) aNil)))))) aNil)) (eVar 4))))
  (sRet (eVar 4))))
def s_failing : List D → Option D := runD 6 4 b_failing
/-- the def _pages: its names by place, its body -/
abbrev N__pages : List Str := ["rows", "start", "first", "pages", "later"]
def b__pages : SS :=
  (sSeq (sOwn 3 (aCons (eVar 2) aNil))
  (sSeq (sAsg (gName 4) (eIx (eIx (bVar 0) (eBin .sub (eVar 2) (eVar 1))) (eCon (.int 1))))
  (sSeq (sWhile (tCmp .isNot (eVar 4) (eCon .non))
    (sSeq (sApp 3 (eVar 4))
    (sAsg (gName 4) (eIx (eIx (bVar 0) (eBin .sub (eVar 4) (eVar 1))) (eCon (.int 1))))))
  (sFrz [3] (sRet (eBlt .tuple (aCons (eVar 3) aNil)))))))
def s__pages : List D → Option D := runD 5 3 b__pages
/-- the def _script: its names by place, its body -/
abbrev N__script : List Str := ["setup", "settings", "start", "end", "before", "rows", "time"]
def b__script : SS :=
  (sSeq (sIf (tNot (tVal (eCall s_is_forced (aCons (eVar 0) (aCons (eVar 1) (aCons (eCall s_first_due (aCons (eVar 1) (aCons (eVar 2) (aCons (eVar 4) aNil)))) (aCons (eVar 2) (aCons (eBin .add (eVar 3) (eCon (.int 1))) aNil))))))))
    (sRet (eTup (aCons (eVar 2) (aCons (eVar 4) (aCons (eTup aNil) aNil)))))
    sNext)
  (sSeq (sFor (gName 6) (iRng rng2 (aCons (eVar 2) (aCons (eBin .add (eVar 3) (eCon (.int 1))) aNil)))
    (sIf (tAnd (tVal (eIx (eIx (bVar 5) (eBin .sub (eVar 6) (eVar 2))) (eCon (.int 0)))) (tVal (eCall s_can_begin (aCons (eVar 0) (aCons (eVar 1) (aCons (eVar 2) (aCons (eVar 4) (aCons (eVar 6) aNil))))))))
      (sRet (eTup (aCons (eVar 2) (aCons (eVar 4) (aCons (eCall s__pages (aCons (eVar 5) (aCons (eVar 2) (aCons (eVar 6) aNil)))) aNil)))))
      sNext))
  (sRet (eCon .non))))
def s__script : List D → Option D := runD 7 6 b__script
/-- the def gap: its names by place, its body -/
abbrev N_gap : List Str := ["setup", "labels", "start", "limit", "settings", "end", "rows", "found", "time"]
def b_gap : SS :=
  (sSeq (sAsg (gName 4) (eIx (eIx (eFld (eVar 0) "routes") (eCall s_end_of (aCons (eFld (eVar 0) "routes") (aCons (eVar 1) aNil)))) (eCon (.int 2))))
  (sSeq (sAsg (gName 5) (eBin .add (eVar 2) (eVar 3)))
  (sSeq (sAsg (gName 6) (eCall s_failing (aCons (eVar 0) (aCons (eVar 4) (aCons (eVar 2) (aCons (eVar 5) aNil))))))
  (sSeq (sAsg (gName 7) (eCall s__script (aCons (eVar 0) (aCons (eVar 4) (aCons (eVar 2) (aCons (eVar 5) (aCons (eCon .non) (aCons (eVar 6) aNil))))))))
  (sSeq (sAsg (gName 8) (eCon (.int 0)))
  (sSeq (sWhile (tAnd (tCmp .is (eVar 7) (eCon .non)) (tCmp .lt (eVar 8) (bVar 2)))
    (sSeq (sIf (tVal (eCall s_can_precede (aCons (eVar 0) (aCons (eVar 4) (aCons (eVar 2) (aCons (eVar 8) aNil))))))
      (sAsg (gName 7) (eCall s__script (aCons (eVar 0) (aCons (eVar 4) (aCons (eVar 2) (aCons (eVar 5) (aCons (eVar 8) (aCons (eVar 6) aNil))))))))
      sNext)
    (sAsg (gName 8) (eBin .add (eVar 8) (eCon (.int 1))))))
  (sRet (eVar 7))))))))
def s_gap : List D → Option D := runD 9 4 b_gap
/-- the def _law_cell: its names by place, its body -/
abbrev N__law_cell : List Str := ["_law_script", "_law_k"]
def b__law_cell : SS :=
  (sSeq (sIf (tCmp .lt (eVar 1) (eBlt .len (aCons (bVar 0) aNil)))
    (sRet (eBlt .int (aCons (eIx (bVar 0) (eVar 1)) aNil)))
    sNext)
  (sRet (eCon (.int 0))))
def s__law_cell : List D → Option D := runD 2 2 b__law_cell
/-- the def _law_draws: its names by place, its body -/
abbrev N__law_draws : List Str := ["_law_cell_here", "_law_many", "_law_rows", "_law_rest", "_law_k", "_law_state"]
def b__law_draws : SS :=
  (sSeq (sOwn 2 aNil)
  (sSeq (sAsg (gName 3) (eBlt .int (aCons (eVar 0) aNil)))
  (sSeq (sIf (tCmp .ge (eVar 3) (eBin .pow (eCon (.int 10)) (eCon (.int 18))))
    (sFor (gName 4) (iRng rng1 (aCons (eVar 1) aNil))
      (sIf (tCmp .gt (eVar 3) (eCon (.int 0)))
        (sSeq (sApp 2 (eBin .mod (eBlt .int (aCons (eVar 3) aNil)) (eCon (.int 1000))))
        (sAsg (gName 3) (eBin .fdiv (eVar 3) (eCon (.int 1000)))))
        sNext))
    sNext)
  (sSeq (sAsg (gName 5) (eBin .mod (eBlt .int (aCons (eBin .add (eBin .mul (eBlt .int (aCons (eVar 0) aNil)) (eCon (.int 48271))) (eCon (.int 11))) aNil)) (eCon (.int 2147483647))))
  (sSeq (sFor (gName 4) (iRng rng1 (aCons (eVar 1) aNil))
    (sSeq (sAsg (gName 5) (eBin .mod (eBlt .int (aCons (eBin .add (eBin .add (eBin .mul (eVar 5) (eCon (.int 48271))) (eBin .mul (eVar 4) (eCon (.int 69621)))) (eCon (.int 7))) aNil)) (eCon (.int 2147483647))))
    (sIf (tCmp .lt (eBlt .len (aCons (bVar 2) aNil)) (bVar 1))
      (sApp 2 (eBin .mod (eBlt .int (aCons (eBin .mod (eBlt .int (aCons (eBin .add (eBin .mul (eVar 5) (eCon (.int 69621))) (eCon (.int 5))) aNil)) (eCon (.int 2147483629))) aNil)) (eCon (.int 1000))))
      sNext)))
  (sFrz [2] (sRet (eVar 2))))))))
def s__law_draws : List D → Option D := runD 6 2 b__law_draws
/-- the def _law_words: its names by place, its body -/
abbrev N__law_words : List Str := ["_law_cell_here", "_law_many", "_law_letters", "_law_place", "_law_k"]
def b__law_words : SS :=
  (sSeq (sAsg (gName 2) (eCon (.str "abcdefghijklmnopqrstuvwxyz")))
  (sSeq (sAsg (gName 3) (eBin .mod (eBlt .int (aCons (eBin .fdiv (eBlt .int (aCons (eVar 0) aNil)) (eCon (.int 26))) aNil)) (eCon (.int 4))))
  (sRet (eComp [4] (gName 4) (iRng rng1 (aCons (eVar 1) aNil)) tYes (eBin .add (eBin .add (eSl (eCon (.str "xyz")) oNone (oSome (eVar 3))) (eIx (bVar 2) (eBin .mod (eBlt .int (aCons (eBin .add (eBlt .int (aCons (eVar 0) aNil)) (eBin .mul (eCon (.int 3)) (eVar 4))) aNil)) (eCon (.int 26))))) (eSl (eCon (.str "xyzw")) (oSome (eVar 3)) oNone))))))
def s__law_words : List D → Option D := runD 5 2 b__law_words
/-- the def _law_worths: its names by place, its body -/
abbrev N__law_worths : List Str := ["_law_cell_here", "_law_many", "_law_letters", "_law_place", "_law_k"]
def b__law_worths : SS :=
  (sSeq (sAsg (gName 2) (eCon (.str "0123456789_abcdefghijklmnopqrstuvwxyz")))
  (sSeq (sAsg (gName 3) (eBin .mod (eBlt .int (aCons (eBin .fdiv (eBlt .int (aCons (eVar 0) aNil)) (eCon (.int 37))) aNil)) (eCon (.int 3))))
  (sRet (eComp [4] (gName 4) (iRng rng1 (aCons (eVar 1) aNil)) tYes (eBin .add (eBin .add (eSl (eCon (.str "v7_")) oNone (oSome (eVar 3))) (eIx (bVar 2) (eBin .mod (eBlt .int (aCons (eBin .add (eBlt .int (aCons (eVar 0) aNil)) (eBin .mul (eCon (.int 5)) (eVar 4))) aNil)) (eCon (.int 37))))) (eSl (eCon (.str "0_")) (oSome (eVar 3)) oNone))))))
def s__law_worths : List D → Option D := runD 5 2 b__law_worths
/-- the def _law_matcher: its names by place, its body -/
abbrev N__law_matcher : List Str := ["_law_first", "_law_second", "_law_names", "_law_worths_here", "_law_many", "_law_values"]
def b__law_matcher : SS :=
  (sSeq (sAsg (gName 4) (eBin .add (eVar 3) (eLst (aCons (eCon (.str "")) aNil))))
  (sSeq (sOwn 5 (aCons (eIx (bVar 4) (eBin .mod (eBlt .int (aCons (eBin .fdiv (eVar 0) (eCon (.int 7))) aNil)) (eBlt .len (aCons (bVar 4) aNil)))) aNil))
  (sSeq (sIf (tCmp .eq (eBin .mod (eBlt .int (aCons (eVar 1) aNil)) (eCon (.int 3))) (eCon (.int 0)))
    (sApp 5 (eIx (bVar 4) (eBin .mod (eBlt .int (aCons (eBin .fdiv (eVar 0) (eCon (.int 50))) aNil)) (eBlt .len (aCons (bVar 4) aNil)))))
    sNext)
  (sFrz [5] (sRet (eTup (aCons (eIx (bVar 2) (eBin .mod (eBlt .int (aCons (eVar 0) aNil)) (eBlt .len (aCons (bVar 2) aNil)))) (aCons (eBlt .tuple (aCons (eVar 5) aNil)) (aCons (eTest (tCmp .eq (eBin .mod (eBlt .int (aCons (eVar 1) aNil)) (eCon (.int 2))) (eCon (.int 0)))) aNil)))))))))
def s__law_matcher : List D → Option D := runD 6 4 b__law_matcher
/-- the def _law_value: its names by place, its body -/
abbrev N__law_value : List Str := ["_law_labels_here", "_law_name", "_law_pair"]
def b__law_value : SS :=
  (sSeq (sFor (gName 2) (iSeq (eVar 0))
    (sIf (tCmp .eq (eIx (bVar 2) (eCon (.int 0))) (bVar 1))
      (sRet (eIx (bVar 2) (eCon (.int 1))))
      sNext))
  (sRet (eCon (.str ""))))
def s__law_value : List D → Option D := runD 3 2 b__law_value
/-- the def _law_matches: its names by place, its body -/
abbrev N__law_matches : List Str := ["_law_matchers", "_law_labels_here", "_law_name", "_law_values", "_law_inside"]
def b__law_matches : SS :=
  (sSeq (sFor (gTup [2, 3, 4]) (iSeq (eVar 0))
    (sIf (tCmp .ne (eTest (tCmp .inn (eCall s__law_value (aCons (eVar 1) (aCons (eVar 2) aNil))) (bVar 3))) (bVar 4))
      (sRet (eCon (.bl false)))
      sNext))
  (sRet (eCon (.bl true))))
def s__law_matches : List D → Option D := runD 5 2 b__law_matches
/-- the def _law_way: its names by place, its body -/
abbrev N__law_way : List Str := ["_law_tree", "_law_labels_here", "_law_way_here", "_law_turn", "_law_found", "_law_k"]
def b__law_way : SS :=
  (sSeq (sOwn 2 (aCons (eCon (.int 0)) aNil))
  (sSeq (sFor (gName 3) (iRng rng1 (aCons (eBlt .len (aCons (bVar 0) aNil)) aNil))
    (sSeq (sAsg (gName 4) (eCon .non))
    (sSeq (sFor (gName 5) (iRng rng2 (aCons (eCon (.int 1)) (aCons (eBlt .len (aCons (bVar 0) aNil)) aNil)))
      (sIf (tAnd (tCmp .is (eVar 4) (eCon .non)) (tAnd (tCmp .eq (eIx (eIx (bVar 0) (eVar 5)) (eCon (.int 0))) (eIx (bVar 2) (eNeg (eCon (.int 1))))) (tVal (eCall s__law_matches (aCons (eIx (eIx (bVar 0) (eVar 5)) (eCon (.int 1))) (aCons (eVar 1) aNil))))))
        (sAsg (gName 4) (eVar 5))
        sNext))
    (sIf (tCmp .isNot (eVar 4) (eCon .non))
      (sApp 2 (eVar 4))
      sNext))))
  (sFrz [2] (sRet (eVar 2)))))
def s__law_way : List D → Option D := runD 6 2 b__law_way
/-- the def _law_route: its names by place, its body -/
abbrev N__law_route : List Str := ["_law_cell_here", "_law_place", "_law_names", "_law_worths_here", "_law_ladders", "_law_shutters", "_law_draws_here", "_law_parent", "_law_matchers", "_law_k", "_law_group", "_law_interval", "_law_again", "_law_mutes", "_law_policy"]
def b__law_route : SS :=
  (sSeq (sAsg (gName 6) (eCall s__law_draws (aCons (eVar 0) (aCons (eCon (.int 16)) aNil))))
  (sSeq (sAsg (gName 7) (eCon .non))
  (sSeq (sOwn 8 aNil)
  (sSeq (sIf (tCmp .gt (eVar 1) (eCon (.int 0)))
    (sSeq (sAsg (gName 7) (eBin .mod (eBlt .int (aCons (eIx (bVar 6) (eCon (.int 0))) aNil)) (eVar 1)))
    (sFor (gName 9) (iRng rng1 (aCons (eBin .mod (eBlt .int (aCons (eIx (bVar 6) (eCon (.int 1))) aNil)) (eCon (.int 3))) aNil))
      (sApp 8 (eCall s__law_matcher (aCons (eIx (bVar 6) (eBin .add (eCon (.int 2)) (eBin .mul (eCon (.int 2)) (eVar 9)))) (aCons (eIx (bVar 6) (eBin .add (eCon (.int 3)) (eBin .mul (eCon (.int 2)) (eVar 9)))) (aCons (eVar 2) (aCons (eVar 3) aNil))))))))
    sNext)
  (sSeq (sAsg (gName 10) (eComp [9] (gName 9) (iRng rng1 (aCons (eBin .mod (eBlt .int (aCons (eIx (bVar 6) (eCon (.int 6))) aNil)) (eCon (.int 3))) aNil)) tYes (eIx (bVar 2) (eBin .mod (eBlt .int (aCons (eBin .add (eIx (bVar 6) (eCon (.int 7))) (eVar 9)) aNil)) (eBlt .len (aCons (bVar 2) aNil))))))
  (sSeq (sAsg (gName 11) (eBin .add (eCon (.int 1)) (eBin .mod (eBlt .int (aCons (eIx (bVar 6) (eCon (.int 9))) aNil)) (eCon (.int 6)))))
  (sSeq (sAsg (gName 12) (eBin .add (eVar 11) (eBin .mod (eBlt .int (aCons (eIx (bVar 6) (eCon (.int 10))) aNil)) (eCon (.int 9)))))
  (sSeq (sAsg (gName 13) (eSl (eVar 5) oNone (oSome (eBin .mod (eBlt .int (aCons (eIx (bVar 6) (eCon (.int 11))) aNil)) (eBin .add (eBlt .len (aCons (bVar 5) aNil)) (eCon (.int 1)))))))
  (sSeq (sAsg (gName 14) (eIx (bVar 4) (eBin .mod (eBlt .int (aCons (eIx (bVar 6) (eCon (.int 12))) aNil)) (eBlt .len (aCons (bVar 4) aNil)))))
  (sFrz [8] (sRet (eTup (aCons (eVar 7) (aCons (eBlt .tuple (aCons (eVar 8) aNil)) (aCons (eTup (aCons (eBlt .tuple (aCons (eVar 10) aNil)) (aCons (eBin .mod (eBlt .int (aCons (eIx (bVar 6) (eCon (.int 8))) aNil)) (eCon (.int 5))) (aCons (eVar 11) (aCons (eVar 12) (aCons (eBlt .tuple (aCons (eVar 13) aNil)) (aCons (eVar 14) aNil))))))) aNil)))))))))))))))
def s__law_route : List D → Option D := runD 15 6 b__law_route
/-- the def _law_layer: its names by place, its body -/
abbrev N__law_layer : List Str := ["_law_part", "_law_crew", "_law_days", "_law_members", "_law_spans", "_law_k", "_law_first", "_law_j"]
def b__law_layer : SS :=
  (sSeq (sAsg (gName 3) (eComp [7] (gName 7) (iRng rng1 (aCons (eBin .add (eCon (.int 1)) (eBin .mod (eBlt .int (aCons (eIx (bVar 0) (eCon (.int 3))) aNil)) (eCon (.int 3)))) aNil)) tYes (eIx (bVar 1) (eBin .mod (eBlt .int (aCons (eIx (bVar 0) (eVar 7)) aNil)) (eBlt .len (aCons (bVar 1) aNil))))))
  (sSeq (sOwn 4 aNil)
  (sSeq (sFor (gName 5) (iRng rng1 (aCons (eBin .mod (eBlt .int (aCons (eIx (bVar 0) (eCon (.int 6))) aNil)) (eCon (.int 3))) aNil))
    (sSeq (sAsg (gName 6) (eBin .mod (eBlt .int (aCons (eIx (bVar 0) (eBin .add (eCon (.int 7)) (eBin .mul (eCon (.int 2)) (eVar 5)))) aNil)) (eVar 2)))
    (sApp 4 (eTup (aCons (eVar 6) (aCons (eBin .add (eBin .add (eVar 6) (eCon (.int 1))) (eBin .mod (eBlt .int (aCons (eIx (bVar 0) (eBin .add (eCon (.int 8)) (eBin .mul (eCon (.int 2)) (eVar 5)))) aNil)) (eBin .sub (eVar 2) (eVar 6)))) aNil))))))
  (sFrz [4] (sRet (eTup (aCons (eBlt .tuple (aCons (eVar 3) aNil)) (aCons (eBin .mod (eBlt .int (aCons (eIx (bVar 0) (eCon (.int 4))) aNil)) (eCon (.int 13))) (aCons (eBin .add (eCon (.int 1)) (eBin .mod (eBlt .int (aCons (eIx (bVar 0) (eCon (.int 5))) aNil)) (eCon (.int 9)))) (aCons (eBlt .tuple (aCons (eVar 4) aNil)) aNil))))))))))
def s__law_layer : List D → Option D := runD 8 3 b__law_layer
/-- the def _law_rota: its names by place, its body -/
abbrev N__law_rota : List Str := ["_law_cell_here", "_law_name", "_law_crew", "_law_days", "_law_draws_here", "_law_layers", "_law_k", "_law_standins", "_law_first"]
def b__law_rota : SS :=
  (sSeq (sAsg (gName 4) (eCall s__law_draws (aCons (eVar 0) (aCons (eCon (.int 40)) aNil))))
  (sSeq (sOwn 5 aNil)
  (sSeq (sFor (gName 6) (iRng rng1 (aCons (eBin .add (eBlt .int (aCons (eTest (tCmp .gt (eBin .mod (eIx (bVar 4) (eCon (.int 0))) (eCon (.int 8))) (eCon (.int 0)))) aNil)) (eBlt .int (aCons (eTest (tCmp .eq (eBin .mod (eIx (bVar 4) (eCon (.int 0))) (eCon (.int 3))) (eCon (.int 1)))) aNil))) aNil))
    (sApp 5 (eCall s__law_layer (aCons (eSl (eVar 4) (oSome (eBin .add (eCon (.int 2)) (eBin .mul (eCon (.int 11)) (eVar 6)))) (oSome (eBin .add (eCon (.int 13)) (eBin .mul (eCon (.int 11)) (eVar 6))))) (aCons (eVar 2) (aCons (eVar 3) aNil))))))
  (sSeq (sOwn 7 aNil)
  (sSeq (sFor (gName 6) (iRng rng1 (aCons (eBin .mod (eBlt .int (aCons (eIx (bVar 4) (eCon (.int 1))) aNil)) (eCon (.int 4))) aNil))
    (sSeq (sAsg (gName 8) (eBin .mod (eBlt .int (aCons (eIx (bVar 4) (eBin .add (eCon (.int 24)) (eBin .mul (eCon (.int 3)) (eVar 6)))) aNil)) (eCon (.int 30))))
    (sApp 7 (eTup (aCons (eVar 8) (aCons (eBin .add (eBin .add (eVar 8) (eCon (.int 1))) (eBin .mod (eBlt .int (aCons (eIx (bVar 4) (eBin .add (eCon (.int 25)) (eBin .mul (eCon (.int 3)) (eVar 6)))) aNil)) (eCon (.int 12)))) (aCons (eIx (bVar 2) (eBin .mod (eBlt .int (aCons (eIx (bVar 4) (eBin .add (eCon (.int 26)) (eBin .mul (eCon (.int 3)) (eVar 6)))) aNil)) (eBlt .len (aCons (bVar 2) aNil)))) aNil)))))))
  (sFrz [5, 7] (sRet (eTup (aCons (eVar 1) (aCons (eBlt .tuple (aCons (eVar 5) aNil)) (aCons (eBlt .tuple (aCons (eVar 7) aNil)) aNil)))))))))))
def s__law_rota : List D → Option D := runD 9 4 b__law_rota
/-- the def _law_ladder: its names by place, its body -/
abbrev N__law_ladder : List Str := ["_law_draws_here", "_law_name", "_law_titles", "_law_levels", "_law_k"]
def b__law_ladder : SS :=
  (sSeq (sOwn 3 aNil)
  (sSeq (sFor (gName 4) (iRng rng1 (aCons (eBin .add (eCon (.int 1)) (eBin .mod (eBlt .int (aCons (eIx (bVar 0) (eCon (.int 0))) aNil)) (eCon (.int 3)))) aNil))
    (sApp 3 (eTup (aCons (eIx (bVar 2) (eBin .mod (eBlt .int (aCons (eIx (bVar 0) (eBin .add (eCon (.int 1)) (eBin .mul (eCon (.int 2)) (eVar 4)))) aNil)) (eBlt .len (aCons (bVar 2) aNil)))) (aCons (eBin .mod (eBlt .int (aCons (eIx (bVar 0) (eBin .add (eCon (.int 2)) (eBin .mul (eCon (.int 2)) (eVar 4)))) aNil)) (eCon (.int 9))) aNil)))))
  (sFrz [3] (sRet (eTup (aCons (eVar 1) (aCons (eBlt .tuple (aCons (eVar 3) aNil)) aNil)))))))
def s__law_ladder : List D → Option D := runD 5 3 b__law_ladder
/-- the def _law_shutter: its names by place, its body -/
abbrev N__law_shutter : List Str := ["_law_draws_here", "_law_name", "_law_days", "_law_spans", "_law_k", "_law_first"]
def b__law_shutter : SS :=
  (sSeq (sOwn 3 aNil)
  (sSeq (sFor (gName 4) (iRng rng1 (aCons (eBin .add (eCon (.int 1)) (eBin .mod (eBlt .int (aCons (eIx (bVar 0) (eCon (.int 0))) aNil)) (eCon (.int 2)))) aNil))
    (sSeq (sAsg (gName 5) (eBin .mod (eBlt .int (aCons (eIx (bVar 0) (eBin .add (eCon (.int 1)) (eBin .mul (eCon (.int 2)) (eVar 4)))) aNil)) (eVar 2)))
    (sApp 3 (eTup (aCons (eVar 5) (aCons (eBin .add (eBin .add (eVar 5) (eCon (.int 1))) (eBin .mod (eBlt .int (aCons (eIx (bVar 0) (eBin .add (eCon (.int 2)) (eBin .mul (eCon (.int 2)) (eVar 4)))) aNil)) (eBin .sub (eVar 2) (eVar 5)))) aNil))))))
  (sFrz [3] (sRet (eTup (aCons (eVar 1) (aCons (eBlt .tuple (aCons (eVar 3) aNil)) aNil)))))))
def s__law_shutter : List D → Option D := runD 6 3 b__law_shutter
/-- the def _law_holds: its names by place, its body -/
abbrev N__law_holds : List Str := ["_law_cell_here", "_law_names", "_law_worths_here", "_law_draws_here", "_law_holds_here", "_law_k", "_law_part", "_law_source", "_law_target", "_law_equal", "_law_j"]
def b__law_holds : SS :=
  (sSeq (sAsg (gName 3) (eCall s__law_draws (aCons (eVar 0) (aCons (eCon (.int 20)) aNil))))
  (sSeq (sOwn 4 aNil)
  (sSeq (sFor (gName 5) (iRng rng1 (aCons (eBin .mod (eBlt .int (aCons (eIx (bVar 3) (eCon (.int 0))) aNil)) (eCon (.int 3))) aNil))
    (sSeq (sAsg (gName 6) (eSl (eVar 3) (oSome (eBin .add (eCon (.int 2)) (eBin .mul (eCon (.int 9)) (eVar 5)))) (oSome (eBin .add (eCon (.int 11)) (eBin .mul (eCon (.int 9)) (eVar 5))))))
    (sSeq (sAsg (gName 7) (eLst (aCons (eCall s__law_matcher (aCons (eIx (bVar 6) (eCon (.int 0))) (aCons (eIx (bVar 6) (eCon (.int 1))) (aCons (eVar 1) (aCons (eVar 2) aNil))))) aNil)))
    (sSeq (sAsg (gName 8) (eComp [10] (gName 10) (iRng rng1 (aCons (eBin .mod (eBlt .int (aCons (eIx (bVar 6) (eCon (.int 4))) aNil)) (eCon (.int 2))) aNil)) tYes (eCall s__law_matcher (aCons (eIx (bVar 6) (eCon (.int 2))) (aCons (eIx (bVar 6) (eCon (.int 3))) (aCons (eVar 1) (aCons (eVar 2) aNil)))))))
    (sSeq (sAsg (gName 9) (eComp [10] (gName 10) (iRng rng1 (aCons (eBin .mod (eBlt .int (aCons (eIx (bVar 6) (eCon (.int 5))) aNil)) (eCon (.int 3))) aNil)) tYes (eIx (bVar 1) (eBin .mod (eBlt .int (aCons (eBin .add (eIx (bVar 6) (eCon (.int 6))) (eVar 10)) aNil)) (eBlt .len (aCons (bVar 1) aNil))))))
    (sApp 4 (eTup (aCons (eBlt .tuple (aCons (eVar 7) aNil)) (aCons (eBlt .tuple (aCons (eVar 8) aNil)) (aCons (eBlt .tuple (aCons (eVar 9) aNil)) aNil))))))))))
  (sFrz [4] (sRet (eVar 4))))))
def s__law_holds : List D → Option D := runD 11 3 b__law_holds
/-- the def _law_on: its names by place, its body -/
abbrev N__law_on : List Str := ["_law_days", "_law_rota_here", "_law_time", "_law_person", "_law_members", "_law_start", "_law_shift", "_law_spans", "_law_inside", "_law_first", "_law_last", "_law_who"]
def b__law_on : SS :=
  (sSeq (sAsg (gName 3) (eCon .non))
  (sSeq (sFor (gTup [4, 5, 6, 7]) (iSeq (eIx (bVar 1) (eCon (.int 1))))
    (sSeq (sAsg (gName 8) (eTest (tCmp .eq (eBlt .len (aCons (bVar 7) aNil)) (eCon (.int 0)))))
    (sSeq (sFor (gTup [9, 10]) (iSeq (eVar 7))
      (sIf (tChain .le (eVar 9) (eBin .mod (eBlt .int (aCons (eVar 2) aNil)) (eVar 0)) (tLast .lt (bVar 10)))
        (sAsg (gName 8) (eCon (.bl true)))
        sNext))
    (sIf (tAnd (tCmp .ge (eVar 2) (bVar 5)) (tVal (eVar 8)))
      (sAsg (gName 3) (eIx (bVar 4) (eBin .mod (eBlt .int (aCons (eBin .fdiv (eBin .sub (eVar 2) (eVar 5)) (eVar 6)) aNil)) (eBlt .len (aCons (bVar 4) aNil)))))
      sNext))))
  (sSeq (sFor (gTup [9, 10, 11]) (iSeq (eIx (bVar 1) (eCon (.int 2))))
    (sIf (tChain .le (eVar 9) (eVar 2) (tLast .lt (bVar 10)))
      (sAsg (gName 3) (eVar 11))
      sNext))
  (sRet (eVar 3)))))
def s__law_on : List D → Option D := runD 12 3 b__law_on
/-- the def _law_lcm: its names by place, its body -/
abbrev N__law_lcm : List Str := ["_law_a", "_law_b", "_law_found", "_law_turn"]
def b__law_lcm : SS :=
  (sSeq (sAsg (gName 2) (eVar 0))
  (sSeq (sFor (gName 3) (iRng rng1 (aCons (eVar 1) aNil))
    (sIf (tCmp .ne (eBin .mod (eBlt .int (aCons (eVar 2) aNil)) (eVar 1)) (eCon (.int 0)))
      (sAsg (gName 2) (eBin .add (eVar 2) (eVar 0)))
      sNext))
  (sRet (eVar 2))))
def s__law_lcm : List D → Option D := runD 4 2 b__law_lcm
/-- the def _law_period: its names by place, its body -/
abbrev N__law_period : List Str := ["_law_days", "_law_rota_here", "_law_period_here", "_law_members", "_law_start", "_law_shift", "_law_spans"]
def b__law_period : SS :=
  (sSeq (sAsg (gName 2) (eCon (.int 1)))
  (sSeq (sFor (gTup [3, 4, 5, 6]) (iSeq (eIx (bVar 1) (eCon (.int 1))))
    (sSeq (sIf (tCmp .gt (eBlt .len (aCons (bVar 3) aNil)) (eCon (.int 1)))
      (sAsg (gName 2) (eCall s__law_lcm (aCons (eVar 2) (aCons (eBin .mul (eVar 5) (eBlt .len (aCons (bVar 3) aNil))) aNil))))
      sNext)
    (sIf (tCmp .gt (eBlt .len (aCons (bVar 6) aNil)) (eCon (.int 0)))
      (sAsg (gName 2) (eCall s__law_lcm (aCons (eVar 2) (aCons (eVar 0) aNil))))
      sNext)))
  (sRet (eVar 2))))
def s__law_period : List D → Option D := runD 7 2 b__law_period
/-- the def _law_settled: its names by place, its body -/
abbrev N__law_settled : List Str := ["_law_rota_here", "_law_settled_here", "_law_layer_here", "_law_standin"]
def b__law_settled : SS :=
  (sSeq (sAsg (gName 1) (eCon (.int 0)))
  (sSeq (sFor (gName 2) (iSeq (eIx (bVar 0) (eCon (.int 1))))
    (sAsg (gName 1) (eBlt .max (aCons (eVar 1) (aCons (eIx (bVar 2) (eCon (.int 1))) aNil)))))
  (sSeq (sFor (gName 3) (iSeq (eIx (bVar 0) (eCon (.int 2))))
    (sAsg (gName 1) (eBlt .max (aCons (eVar 1) (aCons (eIx (bVar 3) (eCon (.int 1))) aNil)))))
  (sRet (eVar 1)))))
def s__law_settled : List D → Option D := runD 4 1 b__law_settled
/-- the def _law_find: its names by place, its body -/
abbrev N__law_find : List Str := ["_law_rows", "_law_name", "_law_row"]
def b__law_find : SS :=
  (sSeq (sFor (gName 2) (iSeq (eVar 0))
    (sIf (tCmp .eq (eIx (bVar 2) (eCon (.int 0))) (bVar 1))
      (sRet (eVar 2))
      sNext))
  (sRet (eCon .non)))
def s__law_find : List D → Option D := runD 3 2 b__law_find
/-- the def _law_muted: its names by place, its body -/
abbrev N__law_muted : List Str := ["_law_made", "_law_mutes", "_law_time", "_law_title", "_law_first", "_law_last"]
def b__law_muted : SS :=
  (sSeq (sFor (gName 3) (iSeq (eVar 1))
    (sFor (gTup [4, 5]) (iSeq (eIx (eCall s__law_find (aCons (eFld (eVar 0) "windows") (aCons (eVar 3) aNil))) (eCon (.int 1))))
      (sIf (tChain .le (eVar 4) (eBin .mod (eBlt .int (aCons (eVar 2) aNil)) (eFld (eVar 0) "week")) (tLast .lt (bVar 5)))
        (sRet (eCon (.bl true)))
        sNext)))
  (sRet (eCon (.bl false))))
def s__law_muted : List D → Option D := runD 6 3 b__law_muted
/-- the def _law_is_bad: its names by place, its body -/
abbrev N__law_is_bad : List Str := ["_law_made", "_law_settings", "_law_time", "_law_title", "_law_after", "_law_person"]
def b__law_is_bad : SS :=
  (sSeq (sIf (tVal (eCall s__law_muted (aCons (eVar 0) (aCons (eIx (bVar 1) (eCon (.int 4))) (aCons (eVar 2) aNil)))))
    (sRet (eCon (.bl false)))
    sNext)
  (sSeq (sFor (gTup [3, 4]) (iSeq (eIx (eCall s__law_find (aCons (eFld (eVar 0) "policies") (aCons (eIx (bVar 1) (eCon (.int 5))) aNil))) (eCon (.int 1))))
    (sSeq (sAsg (gName 5) (eCall s__law_on (aCons (eFld (eVar 0) "week") (aCons (eCall s__law_find (aCons (eFld (eVar 0) "schedules") (aCons (eVar 3) aNil))) (aCons (eBin .add (eVar 2) (eVar 4)) aNil)))))
    (sIf (tAnd (tCmp .isNot (eVar 5) (eCon .non)) (tCmp .gt (eIx (eCall s__law_find (aCons (eFld (eVar 0) "people") (aCons (eVar 5) aNil))) (eCon (.int 1))) (eFld (eVar 0) "down")))
      (sRet (eCon (.bl false)))
      sNext)))
  (sRet (eCon (.bl true)))))
def s__law_is_bad : List D → Option D := runD 6 3 b__law_is_bad
abbrev N__law_setup : List Str := ["_law_days", "_law_staff", "_law_rotas", "_law_ladders", "_law_shutters", "_law_tree", "_law_holds_here", "_law_books", "_law_numbers"]
def a__law_setup : SA := (aCons (eVar 0) (aCons (eVar 1) (aCons (eVar 2) (aCons (eVar 3) (aCons (eVar 4) (aCons (eVar 5) (aCons (eVar 6) (aCons (eVar 7) (aCons (eIx (bVar 8) (eCon (.int 0))) (aCons (eIx (bVar 8) (eCon (.int 1))) (aCons (eIx (bVar 8) (eCon (.int 2))) (aCons (eIx (bVar 8) (eCon (.int 3))) aNil))))))))))))
def put_store : List D → List D
  | [a0, a1, a2, a3, a4, a5, a6, a7, a8, a9, a10, a11] => [a0, a1, a2, a3, a4, a5, a6, a7, a8, a9, a10, .tup [.int 0, .int 10, .int 2, .int 0], a11]
  | _ => []
def s__law_setup : List D → Option D := runD 9 9 (sRet fun ρ => (a__law_setup ρ).bind fun ds => s_setup (put_store ds))
abbrev N__horizon : List Str := ["setup", "settings", "time", "many", "begin", "name", "after", "schedule"]
def b__horizon_0 : SS :=
  (sSeq (sAsg (gName 3) (eCon (.int 1)))
  (sSeq (sAsg (gName 4) (eVar 2))
  (sSeq (sFor (gTup [5, 6]) (iSeq (eIx (eCall s_policy_of (aCons (eVar 0) (aCons (eIx (bVar 1) (eCon (.int 5))) aNil))) (eCon (.int 1))))
    (sSeq (sAsg (gName 7) (eCall s_schedule_of (aCons (eVar 0) (aCons (eVar 5) aNil))))
    (sSeq (sAsg (gName 3) (eBlt .lcm (aCons (eVar 3) (aCons (eCall s_period (aCons (eFld (eVar 0) "week") (aCons (eVar 7) aNil))) aNil))))
    (sAsg (gName 4) (eBlt .max (aCons (eVar 4) (aCons (eCall s_settled (aCons (eVar 7) aNil)) aNil)))))))
  (sIf (tVal (eIx (bVar 1) (eCon (.int 4))))
    (sAsg (gName 3) (eBlt .lcm (aCons (eVar 3) (aCons (eFld (eVar 0) "week") aNil))))
    sNext))))
abbrev N_sure_limit : List Str := ["setup", "labels", "time", "settings", "many", "begin", "muted", "most", "at", "wait"]
def b_sure_limit_0 : SS :=
  (sAsg (gName 3) (eIx (eIx (eFld (eVar 0) "routes") (eCall s_end_of (aCons (eFld (eVar 0) "routes") (aCons (eVar 1) aNil)))) (eCon (.int 2))))
def b_sure_limit_1 : SS :=
  (sSeq (sAsg (gName 6) (eCon (.int 0)))
  (sSeq (sAsg (gName 7) (eCon (.int 0)))
  (sSeq (sFor (gName 8) (iRng rng2 (aCons (eVar 2) (aCons (eBin .add (eVar 5) (eBin .mul (eCon (.int 2)) (eVar 4))) aNil)))
    (sIf (tVal (eCall s_is_muted (aCons (eVar 0) (aCons (eIx (bVar 3) (eCon (.int 4))) (aCons (eVar 8) aNil)))))
      (sAsg (gName 6) (eBin .add (eVar 6) (eCon (.int 1))))
      (sSeq (sAsg (gName 9) (eCall s_delay (aCons (eVar 0) (aCons (eIx (bVar 3) (eCon (.int 5))) (aCons (eVar 8) aNil)))))
      (sSeq (sIf (tCmp .is (eVar 9) (eCon .non))
        (sRet (eCon .non))
        sNext)
      (sSeq (sAsg (gName 7) (eBlt .max (aCons (eVar 7) (aCons (eBin .add (eVar 6) (eVar 9)) aNil))))
      (sAsg (gName 6) (eCon (.int 0))))))))
  (sSeq (sIf (tCmp .ge (eVar 6) (bVar 4))
    (sRet (eCon .non))
    sNext)
  (sRet (eBin .add (eBin .add (eBlt .max (aCons (eIx (bVar 3) (eCon (.int 1))) (aCons (eBin .sub (eIx (bVar 3) (eCon (.int 2))) (eCon (.int 1))) aNil))) (eCall s_slack (aCons (eVar 0) aNil))) (eVar 7)))))))
abbrev N__law_labels : List Str := ["_law_draws_here", "_law_names", "_law_worths_here", "_law_pairs", "_law_used", "_law_k", "_law_name"]
def b__law_labels_0 : SS :=
  (sSeq (sOwn 3 aNil)
  (sSeq (sOwn 4 aNil)
  (sFor (gName 5) (iRng rng3 (aCons (eCon (.int 0)) (aCons (eBin .sub (eBlt .len (aCons (bVar 0) aNil)) (eCon (.int 1))) (aCons (eCon (.int 2)) aNil))))
    (sSeq (sAsg (gName 6) (eIx (bVar 1) (eBin .mod (eBlt .int (aCons (eIx (bVar 0) (eVar 5)) aNil)) (eBlt .len (aCons (bVar 1) aNil)))))
    (sIf (tCmp .notIn (eVar 6) (bVar 4))
      (sSeq (sApp 4 (eVar 6))
      (sApp 3 (eTup (aCons (eVar 6) (aCons (eIx (bVar 2) (eBin .mod (eBlt .int (aCons (eIx (bVar 0) (eBin .add (eVar 5) (eCon (.int 1)))) aNil)) (eBlt .len (aCons (bVar 2) aNil)))) aNil)))))
      sNext)))))
abbrev N__law_world : List Str := ["_law_script", "_law_words_here", "_law_names", "_law_worths_here", "_law_draws_here", "_law_days", "_law_k", "_law_staff", "_law_crew", "_law_titles", "_law_rotas", "_law_steps", "_law_ladders", "_law_bars", "_law_shutters", "_law_tree", "_law_holds_here", "_law_numbers", "_law_made", "_law_person", "_law_shutter_here", "_law_ladder_here"]
def b__law_world_0 : SS :=
  (sSeq (sAsg (gName 1) (eCall s__law_words (aCons (eCall s__law_cell (aCons (eVar 0) (aCons (eCon (.int 0)) aNil))) (aCons (eCon (.int 8)) aNil))))
  (sSeq (sAsg (gName 2) (eCall s__law_words (aCons (eCall s__law_cell (aCons (eVar 0) (aCons (eCon (.int 1)) aNil))) (aCons (eCon (.int 3)) aNil))))
  (sSeq (sAsg (gName 3) (eCall s__law_worths (aCons (eCall s__law_cell (aCons (eVar 0) (aCons (eCon (.int 1)) aNil))) (aCons (eCon (.int 3)) aNil))))
  (sSeq (sAsg (gName 4) (eCall s__law_draws (aCons (eCall s__law_cell (aCons (eVar 0) (aCons (eCon (.int 2)) aNil))) (aCons (eCon (.int 16)) aNil))))
  (sSeq (sAsg (gName 5) (eBin .add (eCon (.int 2)) (eBin .mod (eBlt .int (aCons (eIx (bVar 4) (eCon (.int 0))) aNil)) (eCon (.int 23)))))
  (sSeq (sAsg (gName 7) (eComp [6] (gName 6) (iRng rng1 (aCons (eBin .add (eCon (.int 1)) (eBin .mod (eBlt .int (aCons (eIx (bVar 4) (eCon (.int 5))) aNil)) (eCon (.int 4)))) aNil)) tYes (eTup (aCons (eIx (bVar 1) (eVar 6)) (aCons (eBin .mod (eBlt .int (aCons (eIx (bVar 4) (eBin .add (eCon (.int 1)) (eVar 6))) aNil)) (eCon (.int 4))) aNil)))))
  (sSeq (sAsg (gName 8) (eComp [19] (gName 19) (iSeq (eVar 7)) tYes (eIx (bVar 19) (eCon (.int 0)))))
  (sSeq (sAsg (gName 9) (eSl (eVar 1) (oSome (eCon (.int 4))) (oSome (eBin .add (eCon (.int 5)) (eBin .mod (eBlt .int (aCons (eIx (bVar 4) (eCon (.int 6))) aNil)) (eCon (.int 2)))))))
  (sSeq (sAsg (gName 10) (eComp [6] (gName 6) (iRng rng1 (aCons (eBlt .len (aCons (bVar 9) aNil)) aNil)) tYes (eCall s__law_rota (aCons (eCall s__law_cell (aCons (eVar 0) (aCons (eBin .add (eCon (.int 3)) (eVar 6)) aNil))) (aCons (eIx (bVar 9) (eVar 6)) (aCons (eVar 8) (aCons (eVar 5) aNil)))))))
  (sSeq (sAsg (gName 11) (eCall s__law_draws (aCons (eCall s__law_cell (aCons (eVar 0) (aCons (eCon (.int 5)) aNil))) (aCons (eCon (.int 16)) aNil))))
  (sSeq (sAsg (gName 12) (eComp [6] (gName 6) (iRng rng1 (aCons (eBin .add (eCon (.int 1)) (eBin .mod (eBlt .int (aCons (eIx (bVar 4) (eCon (.int 7))) aNil)) (eCon (.int 2)))) aNil)) tYes (eCall s__law_ladder (aCons (eSl (eVar 11) (oSome (eBin .mul (eCon (.int 8)) (eVar 6))) (oSome (eBin .add (eBin .mul (eCon (.int 8)) (eVar 6)) (eCon (.int 8))))) (aCons (eIx (bVar 1) (eBin .add (eCon (.int 6)) (eVar 6))) (aCons (eVar 9) aNil))))))
  (sSeq (sAsg (gName 13) (eCall s__law_draws (aCons (eCall s__law_cell (aCons (eVar 0) (aCons (eCon (.int 6)) aNil))) (aCons (eCon (.int 12)) aNil))))
  (sSeq (sAsg (gName 14) (eComp [6] (gName 6) (iRng rng1 (aCons (eBin .mod (eBlt .int (aCons (eIx (bVar 4) (eCon (.int 8))) aNil)) (eCon (.int 3))) aNil)) tYes (eCall s__law_shutter (aCons (eSl (eVar 13) (oSome (eBin .mul (eCon (.int 6)) (eVar 6))) (oSome (eBin .add (eBin .mul (eCon (.int 6)) (eVar 6)) (eCon (.int 6))))) (aCons (eIx (bVar 1) (eVar 6)) (aCons (eVar 5) aNil))))))
  (sSeq (sOwn 15 aNil)
  (sSeq (sFor (gName 6) (iRng rng1 (aCons (eBin .add (eCon (.int 1)) (eBin .mod (eBlt .int (aCons (eIx (bVar 4) (eCon (.int 9))) aNil)) (eCon (.int 4)))) aNil))
    (sSeq (sAsg (gName 9) (eComp [20] (gName 20) (iSeq (eVar 14)) tYes (eIx (bVar 20) (eCon (.int 0)))))
    (sApp 15 (eCall s__law_route (aCons (eCall s__law_cell (aCons (eVar 0) (aCons (eBin .add (eCon (.int 7)) (eVar 6)) aNil))) (aCons (eVar 6) (aCons (eVar 2) (aCons (eVar 3) (aCons (eComp [21] (gName 21) (iSeq (eVar 12)) tYes (eIx (bVar 21) (eCon (.int 0)))) (aCons (eVar 9) aNil))))))))))
  (sSeq (sAsg (gName 16) (eCall s__law_holds (aCons (eCall s__law_cell (aCons (eVar 0) (aCons (eCon (.int 11)) aNil))) (aCons (eVar 2) (aCons (eVar 3) aNil)))))
  (sSeq (sAsg (gName 17) (eLst (aCons (eBin .add (eCon (.int 1)) (eBin .mod (eBlt .int (aCons (eIx (bVar 4) (eCon (.int 10))) aNil)) (eCon (.int 3)))) (aCons (eBin .mod (eBlt .int (aCons (eIx (bVar 4) (eCon (.int 11))) aNil)) (eCon (.int 4))) (aCons (eBin .mod (eBlt .int (aCons (eIx (bVar 4) (eCon (.int 12))) aNil)) (eCon (.int 3))) (aCons (eCon (.int 5)) aNil))))))
  (sFrz [15] (sAsg (gName 18) (eCall s__law_setup (aCons (eVar 5) (aCons (eVar 7) (aCons (eVar 10) (aCons (eVar 12) (aCons (eVar 14) (aCons (eVar 15) (aCons (eVar 16) (aCons (eLst aNil) (aCons (eVar 17) aNil)))))))))))))))))))))))))))))
abbrev N__law_rich : List Str := ["_law_script", "_law_world_here", "_law_made", "_law_staff", "_law_numbers", "_law_person"]
def b__law_rich_0 : SS :=
  (sAsg (gName 2) (eIx (bVar 1) (eCon (.int 0))))
def b__law_rich_1 : SS :=
  (sSeq (sAsg (gName 3) (eComp [5] (gName 5) (iSeq (eFld (eVar 2) "people")) tYes (eTup (aCons (eIx (bVar 5) (eCon (.int 0))) (aCons (eBin .add (eFld (eVar 2) "down") (eCon (.int 1))) aNil)))))
  (sAsg (gName 4) (eLst (aCons (eFld (eVar 2) "replicas") (aCons (eFld (eVar 2) "pause") (aCons (eFld (eVar 2) "down") (aCons (eCon (.int 5)) aNil)))))))
def b__law_rich_2 : SS :=
  (sFrz [1] (sRet (eVar 1)))
def t__law_rich : ST := (tCmp .eq (eBin .mod (eBlt .int (aCons (eCall s__law_cell (aCons (eVar 0) (aCons (eCon (.int 13)) aNil))) aNil)) (eCon (.int 2))) (eCon (.int 0)))
def e__law_rich : SE := (eCall s__law_setup (aCons (eFld (eVar 2) "week") (aCons (eVar 3) (aCons (eFld (eVar 2) "schedules") (aCons (eFld (eVar 2) "policies") (aCons (eFld (eVar 2) "windows") (aCons (eFld (eVar 2) "routes") (aCons (eLst aNil) (aCons (eLst aNil) (aCons (eVar 4) aNil))))))))))
abbrev N_law : List Str := ["_law_script", "_law_made", "_law_names", "_law_worths_here", "_law_draws_here", "_law_labels_here", "_law_more", "_law_begin", "_law_settings", "_law_common", "_law_settled_here", "_law_level", "_law_rota_here", "_law_many", "_law_told", "_law_always", "_law_time", "_law_start"]
def b_law_0 : SS :=
  (sAsg (gName 4) (eCall s__law_draws (aCons (eCall s__law_cell (aCons (eVar 0) (aCons (eCon (.int 12)) aNil))) (aCons (eCon (.int 8)) aNil))))
def b_law_1 : SS :=
  (sSeq (sAsg (gName 6) (eCall s__law_draws (aCons (eCall s__law_cell (aCons (eVar 0) (aCons (eCon (.int 13)) aNil))) (aCons (eCon (.int 6)) aNil))))
  (sSeq (sAsg (gName 7) (eBin .mod (eBlt .int (aCons (eIx (bVar 6) (eCon (.int 0))) aNil)) (eCon (.int 12))))
  (sSeq (sAsg (gName 8) (eIx (eIx (eFld (eVar 1) "routes") (eIx (eCall s__law_way (aCons (eFld (eVar 1) "routes") (aCons (eVar 5) aNil))) (eNeg (eCon (.int 1))))) (eCon (.int 2))))
  (sSeq (sAsg (gName 9) (eCon (.int 1)))
  (sSeq (sAsg (gName 10) (eVar 7))
  (sSeq (sFor (gName 11) (iSeq (eIx (eCall s__law_find (aCons (eFld (eVar 1) "policies") (aCons (eIx (bVar 8) (eCon (.int 5))) aNil))) (eCon (.int 1))))
    (sSeq (sAsg (gName 12) (eCall s__law_find (aCons (eFld (eVar 1) "schedules") (aCons (eIx (bVar 11) (eCon (.int 0))) aNil))))
    (sSeq (sAsg (gName 13) (eCall s__law_period (aCons (eFld (eVar 1) "week") (aCons (eVar 12) aNil))))
    (sSeq (sIf (tOr (tCmp .gt (eVar 9) (eCon (.int 2000))) (tCmp .gt (eVar 13) (eCon (.int 2000))))
      (sAsg (gName 9) (eCon (.int 2001)))
      (sAsg (gName 9) (eCall s__law_lcm (aCons (eVar 9) (aCons (eVar 13) aNil)))))
    (sAsg (gName 10) (eBlt .max (aCons (eVar 10) (aCons (eCall s__law_settled (aCons (eVar 12) aNil)) aNil))))))))
  (sIf (tAnd (tCmp .gt (eBlt .len (aCons (eIx (bVar 8) (eCon (.int 4))) aNil)) (eCon (.int 0))) (tCmp .le (eVar 9) (eCon (.int 2000))))
    (sAsg (gName 9) (eCall s__law_lcm (aCons (eVar 9) (aCons (eFld (eVar 1) "week") aNil))))
    sNext)))))))
def b_law_2 : SS :=
  (sSeq (sIf (tCmp .gt (eVar 9) (eCon (.int 2000)))
    (sRet (eCon (.bl false)))
    sNext)
  (sSeq (sIf (tCmp .is (eVar 14) (eCon .non))
    (sSeq (sIf (tCmp .gt (eVar 9) (eCon (.int 240)))
      (sRet (eCon (.bl true)))
      sNext)
    (sSeq (sAsg (gName 15) (eCon (.bl true)))
    (sSeq (sFor (gName 16) (iRng rng2 (aCons (eVar 10) (aCons (eBin .add (eVar 10) (eFld (eVar 1) "week")) aNil)))
      (sIf (tNot (tVal (eCall s__law_muted (aCons (eVar 1) (aCons (eIx (bVar 8) (eCon (.int 4))) (aCons (eVar 16) aNil))))))
        (sAsg (gName 15) (eCon (.bl false)))
        sNext))
    (sSeq (sFor (gName 16) (iRng rng2 (aCons (eVar 7) (aCons (eBin .add (eVar 10) (eVar 9)) aNil)))
      (sIf (tVal (eCall s__law_is_bad (aCons (eVar 1) (aCons (eVar 8) (aCons (eVar 16) aNil)))))
        (sAsg (gName 15) (eCon (.bl true)))
        sNext))
    (sRet (eVar 15))))))
    sNext)
  (sSeq (sIf (tOr (tNot (tVal (eBlt .isInt (aCons (eVar 14) aNil)))) (tOr (tVal (eBlt .isBool (aCons (eVar 14) aNil))) (tCmp .lt (eVar 14) (eCon (.int 0)))))
    (sRet (eCon (.bl false)))
    sNext)
  (sSeq (sIf (tCmp .le (eVar 14) (eCon (.int 26)))
    (sFor (gName 17) (iSeq (eLst (aCons (eVar 7) (aCons (eBin .add (eVar 7) (eBin .mod (eBlt .int (aCons (eIx (bVar 6) (eCon (.int 1))) aNil)) (eCon (.int 25)))) (aCons (eBin .add (eVar 7) (eBin .mod (eBlt .int (aCons (eIx (bVar 6) (eCon (.int 2))) aNil)) (eCon (.int 9)))) aNil)))))
      (sIf (tCmp .isNot (eCall s_gap (aCons (eVar 1) (aCons (eVar 5) (aCons (eVar 17) (aCons (eVar 14) aNil))))) (eCon .non))
        (sRet (eCon (.bl false)))
        sNext))
    sNext)
  (sRet (eCon (.bl true)))))))
def a_law_labels : SA := (aCons (eSl (eVar 4) oNone (oSome (eCon (.int 6)))) (aCons (eVar 2) (aCons (eVar 3) aNil)))
def a_law_sure : SA := (aCons (eVar 1) (aCons (eVar 5) (aCons (eVar 7) aNil)))
def e_law_except : SE := (eTest (tCmp .gt (eVar 9) (eCon (.int 2000))))
end WF
end
/-! text WQ -/
section
set_option linter.all false
/-! The hand-walked defs by plain data. -/
namespace WF
open PySem
def s__horizon (args : List D) : Option (Option D) := if args.length = 3 then (b__horizon_0 (entry 8 args)).bind fun o => (match o with
  | .rt d => some (some d)
  | .nx ρ => (tCmp .gt (eVar 3) (eCon (.int 2000)) ρ).bind fun c => if c = true then some none else ((eTup (aCons (eVar 3) (aCons (eVar 4) aNil))) ρ).map some) else none
def a_horizon : SA := aCons (eVar 0) (aCons (eVar 3) (aCons (eVar 2) aNil))
def s_sure_limit (args : List D) : Option (Option D) := if args.length = 3 then (b_sure_limit_0 (entry 10 args)).bind fun o => (match o with
  | .rt d => some (some d)
  | .nx ρ => (a_horizon ρ).bind fun ds => (s__horizon ds).bind fun r => (match r with
    | none => some none
    | some d => (gTup [4, 5] d ρ).bind fun ρ' => (finD (b_sure_limit_1 ρ')).map some)) else none
def pairD (p : Str × Str) : D := .tup [.str p.1, .str p.2]
def labD (ps : List (Str × Str)) : D := .tup (ps.map pairD)
/-- the pairs that it sorts -/
def r__law_labels (ds : List D) (ps : List (Str × Str)) : Prop := ∃ ρ, ds.length = 3 ∧ b__law_labels_0 (entry 7 ds) = some (.nx ρ) ∧ ρ[3]? = some (.own (ps.map pairD))
/-- own list at place i: its item 0 is e's value -/
@[simp] def sPut0 (i : Nat) (e : SE) : SS := fun ρ => (e ρ).bind fun d => match ρ[i]? with
  | some (.own ds) => if 0 < ds.length then some (.nx (ρ.set i (.own (ds.set 0 d)))) else none
  | _ => none
def a_world : SA := aCons (eVar 18) (aCons (eVar 2) (aCons (eVar 3) aNil))
/-- the items of the list that _law_world gives -/
def s__law_world (args : List D) : Option (List D) := if args.length = 1 then (b__law_world_0 (entry 22 args)).bind fun o => (match o with
  | .rt _ => none
  | .nx ρ => a_world ρ) else none
def b__law_rich_3 : SS := sSeq b__law_rich_0 (sSeq (sIf t__law_rich (sSeq b__law_rich_1 (sPut0 1 e__law_rich)) sNext) b__law_rich_2)
def s__law_rich (args : List D) : Option D := if args.length = 1 then (s__law_world args).bind fun es => finD (b__law_rich_3 ((entry 6 args).set 1 (.own es))) else none
/-- the law's text, read by plain data, gives True for the script ns -/
def LawOk (ns : List Int) : Prop := ∃ es ρ0 ρ1 as ps, s__law_rich [.scr ns] = some (.lst es) ∧ setAll [1, 2, 3] es (entry 18 [.scr ns]) = some ρ0 ∧ b_law_0 ρ0 = some (.nx ρ1) ∧ a_law_labels ρ1 = some as ∧ r__law_labels as ps ∧
  ∀ qs, ∃ ρ2 as2 r, b_law_1 (ρ1.set 5 (.val (labD qs))) = some (.nx ρ2) ∧ a_law_sure ρ2 = some as2 ∧ s_sure_limit as2 = some r ∧ (r = none → e_law_except ρ2 = some (.bl true)) ∧ ∀ d, r = some d → finD (b_law_2 (ρ2.set 14 (.val d))) = some (.bl true)
end WF
end
/-! text WC -/
section
set_option Elab.async false
set_option linter.all false
set_option maxRecDepth 100000
set_option maxHeartbeats 4000000
/-! The text is what the terms say: printed by gen.py. -/
namespace WF
open PySem L2
def ifBody : Stmt → List Stmt
  | .If _ b _ _ => b
  | _ => []
abbrev T_in_spans : Tx := ⟨N_in_spans, [], [], conG, fldG⟩
theorem c_in_spans : cBlock T_in_spans (defScope (topS 2)) (defBody (topS 2)) = some b_in_spans := by kernel_rfl
abbrev T_on_layer : Tx := ⟨N_on_layer, [], [("in_spans", 3, s_in_spans)], conG, fldG⟩
theorem c_on_layer : cBlock T_on_layer (defScope (topS 3)) (defBody (topS 3)) = some b_on_layer := by kernel_rfl
abbrev T_on_call : Tx := ⟨N_on_call, [], [("on_layer", 3, s_on_layer)], conG, fldG⟩
theorem c_on_call : cBlock T_on_call (defScope (topS 4)) (defBody (topS 4)) = some b_on_call := by kernel_rfl
abbrev T_settled : Tx := ⟨N_settled, [1], [], conG, fldG⟩
theorem c_settled : cBlock T_settled (defScope (topS 5)) (defBody (topS 5)) = some b_settled := by kernel_rfl
abbrev T_period : Tx := ⟨N_period, [], [], conG, fldG⟩
theorem c_period : cBlock T_period (defScope (topS 6)) (defBody (topS 6)) = some b_period := by kernel_rfl
abbrev T_is_value : Tx := ⟨N_is_value, [], [], conG, fldG⟩
theorem c_is_value : cBlock T_is_value (defScope (topS 22)) (defBody (topS 22)) = some b_is_value := by kernel_rfl
abbrev T_is_name : Tx := ⟨N_is_name, [], [("is_value", 1, s_is_value)], conG, fldG⟩
theorem c_is_name : cBlock T_is_name (defScope (topS 23)) (defBody (topS 23)) = some b_is_name := by kernel_rfl
abbrev T_value_of : Tx := ⟨N_value_of, [], [], conG, fldG⟩
theorem c_value_of : cBlock T_value_of (defScope (topS 24)) (defBody (topS 24)) = some b_value_of := by kernel_rfl
abbrev T_matches : Tx := ⟨N_matches, [], [("value_of", 2, s_value_of)], conG, fldG⟩
theorem c_matches : cBlock T_matches (defScope (topS 25)) (defBody (topS 25)) = some b_matches := by kernel_rfl
abbrev T_matches_all : Tx := ⟨N_matches_all, [], [("matches", 2, s_matches)], conG, fldG⟩
theorem c_matches_all : cBlock T_matches_all (defScope (topS 26)) (defBody (topS 26)) = some b_matches_all := by kernel_rfl
abbrev T_is_between : Tx := ⟨N_is_between, [], [], conG, fldG⟩
theorem c_is_between : cBlock T_is_between (defScope (topS 35)) (defBody (topS 35)) = some b_is_between := by kernel_rfl
abbrev T_all_true : Tx := ⟨N_all_true, [], [], conG, fldG⟩
theorem c_all_true : cBlock T_all_true (defScope (topS 36)) (defBody (topS 36)) = some b_all_true := by kernel_rfl
abbrev T_span_fits : Tx := ⟨N_span_fits, [], [], conG, fldG⟩
theorem c_span_fits : cBlock T_span_fits (defScope (topS 37)) (defBody (topS 37)) = some b_span_fits := by kernel_rfl
abbrev T_label_fits : Tx := ⟨N_label_fits, [], [("is_name", 1, s_is_name)], conG, fldG⟩
theorem c_label_fits : cBlock T_label_fits (defScope (topS 38)) (defBody (topS 38)) = some b_label_fits := by kernel_rfl
abbrev T_labels_fit : Tx := ⟨N_labels_fit, [], [("all_true", 1, s_all_true), ("label_fits", 1, s_label_fits)], conG, fldG⟩
theorem c_labels_fit : cBlock T_labels_fit (defScope (topS 39)) (defBody (topS 39)) = some b_labels_fit := by kernel_rfl
abbrev T_layer_fits : Tx := ⟨N_layer_fits, [], [("is_between", 3, s_is_between), ("all_true", 1, s_all_true), ("span_fits", 2, s_span_fits)], conG, fldG⟩
theorem c_layer_fits : cBlock T_layer_fits (defScope (topS 40)) (defBody (topS 40)) = some b_layer_fits := by kernel_rfl
abbrev T_standin_fits : Tx := ⟨N_standin_fits, [], [], conG, fldG⟩
theorem c_standin_fits : cBlock T_standin_fits (defScope (topS 41)) (defBody (topS 41)) = some b_standin_fits := by kernel_rfl
abbrev T_schedule_fits : Tx := ⟨N_schedule_fits, [], [("all_true", 1, s_all_true), ("layer_fits", 3, s_layer_fits), ("standin_fits", 2, s_standin_fits)], conG, fldG⟩
theorem c_schedule_fits : cBlock T_schedule_fits (defScope (topS 42)) (defBody (topS 42)) = some b_schedule_fits := by kernel_rfl
abbrev T_policy_fits : Tx := ⟨N_policy_fits, [], [("is_between", 3, s_is_between), ("all_true", 1, s_all_true)], conG, fldG⟩
theorem c_policy_fits : cBlock T_policy_fits (defScope (topS 43)) (defBody (topS 43)) = some b_policy_fits := by kernel_rfl
abbrev T_window_fits : Tx := ⟨N_window_fits, [], [("all_true", 1, s_all_true), ("span_fits", 2, s_span_fits), ("is_between", 3, s_is_between)], conG, fldG⟩
theorem c_window_fits : cBlock T_window_fits (defScope (topS 44)) (defBody (topS 44)) = some b_window_fits := by kernel_rfl
abbrev T_matcher_fits : Tx := ⟨N_matcher_fits, [], [("is_between", 3, s_is_between), ("label_fits", 1, s_label_fits), ("all_true", 1, s_all_true), ("is_value", 1, s_is_value)], conG, fldG⟩
theorem c_matcher_fits : cBlock T_matcher_fits (defScope (topS 45)) (defBody (topS 45)) = some b_matcher_fits := by kernel_rfl
abbrev T_matchers_fit : Tx := ⟨N_matchers_fit, [], [("all_true", 1, s_all_true), ("matcher_fits", 1, s_matcher_fits)], conG, fldG⟩
theorem c_matchers_fit : cBlock T_matchers_fit (defScope (topS 46)) (defBody (topS 46)) = some b_matchers_fit := by kernel_rfl
abbrev T_settings_fit : Tx := ⟨N_settings_fit, [], [("is_between", 3, s_is_between), ("labels_fit", 1, s_labels_fit), ("all_true", 1, s_all_true)], conG, fldG⟩
theorem c_settings_fit : cBlock T_settings_fit (defScope (topS 47)) (defBody (topS 47)) = some b_settings_fit := by kernel_rfl
abbrev T_route_fits : Tx := ⟨N_route_fits, [], [("is_between", 3, s_is_between), ("settings_fit", 3, s_settings_fit), ("matchers_fit", 1, s_matchers_fit)], conG, fldG⟩
theorem c_route_fits : cBlock T_route_fits (defScope (topS 48)) (defBody (topS 48)) = some b_route_fits := by kernel_rfl
abbrev T_holdback_fits : Tx := ⟨N_holdback_fits, [], [("labels_fit", 1, s_labels_fit), ("matchers_fit", 1, s_matchers_fit)], conG, fldG⟩
theorem c_holdback_fits : cBlock T_holdback_fits (defScope (topS 49)) (defBody (topS 49)) = some b_holdback_fits := by kernel_rfl
abbrev T_store_fits : Tx := ⟨N_store_fits, [], [("is_between", 3, s_is_between)], conG, fldG⟩
theorem c_store_fits : cBlock T_store_fits (defScope (topS 52)) (defBody (topS 52)) = some b_store_fits := by kernel_rfl
abbrev T_names_of : Tx := ⟨N_names_of, [], [], conG, fldG⟩
theorem c_names_of : cBlock T_names_of (defScope (topS 56)) (defBody (topS 56)) = some b_names_of := by kernel_rfl
abbrev T_is_new_name : Tx := ⟨N_is_new_name, [], [("names_of", 1, s_names_of), ("is_name", 1, s_is_name)], conG, fldG⟩
theorem c_is_new_name : cBlock T_is_new_name (defScope (topS 57)) (defBody (topS 57)) = some b_is_new_name := by kernel_rfl
abbrev T_require : Tx := ⟨N_require, [], [], conG, fldG⟩
theorem c_require : cBlock T_require (defScope (topS 58)) (defBody (topS 58)) = some b_require := by kernel_rfl
abbrev T_check_people : Tx := ⟨N_check_people, [1], [("require", 2, s_require), ("is_between", 3, s_is_between), ("is_new_name", 2, s_is_new_name), ("names_of", 1, s_names_of), ("schedule_fits", 3, s_schedule_fits)], conG, fldG⟩
theorem c_check_people : cBlock T_check_people (defScope (topS 59)) (defBody (topS 59)) = some b_check_people := by kernel_rfl
abbrev T_check_routes : Tx := ⟨N_check_routes, [2], [("names_of", 1, s_names_of), ("policy_fits", 2, s_policy_fits), ("is_new_name", 2, s_is_new_name), ("require", 2, s_require), ("window_fits", 2, s_window_fits), ("route_fits", 4, s_route_fits), ("holdback_fits", 1, s_holdback_fits)], conG, fldG⟩
theorem c_check_routes : cBlock T_check_routes (defScope (topS 60)) (defBody (topS 60)) = some b_check_routes := by kernel_rfl
abbrev T_check_rest : Tx := ⟨N_check_rest, [1], [("group_fits", 1, s_group_fits), ("is_new_name", 2, s_is_new_name), ("require", 2, s_require), ("is_between", 3, s_is_between), ("store_fits", 1, s_store_fits)], conG, fldG⟩
theorem c_check_rest : cBlock T_check_rest (defScope (topS 61)) (defBody (topS 61)) = some b_check_rest := by kernel_rfl
abbrev T_setup : Tx := ⟨N_setup, [], [("Setup", 9, s_Setup), ("check_people", 1, s_check_people), ("check_routes", 1, s_check_routes), ("check_rest", 1, s_check_rest)], conG, fldG⟩
theorem c_setup : cBlock T_setup (defScope (topS 62)) (defBody (topS 62)) = some b_setup := by kernel_rfl
abbrev T_entry_of : Tx := ⟨N_entry_of, [], [], conG, fldG⟩
theorem c_entry_of : cBlock T_entry_of (defScope (topS 63)) (defBody (topS 63)) = some b_entry_of := by kernel_rfl
abbrev T_channels_of : Tx := ⟨N_channels_of, [], [("entry_of", 3, s_entry_of)], conG, fldG⟩
theorem c_channels_of : cBlock T_channels_of (defScope (topS 64)) (defBody (topS 64)) = some b_channels_of := by kernel_rfl
abbrev T_schedule_of : Tx := ⟨N_schedule_of, [], [("entry_of", 3, s_entry_of)], conG, fldG⟩
theorem c_schedule_of : cBlock T_schedule_of (defScope (topS 65)) (defBody (topS 65)) = some b_schedule_of := by kernel_rfl
abbrev T_policy_of : Tx := ⟨N_policy_of, [], [("entry_of", 3, s_entry_of)], conG, fldG⟩
theorem c_policy_of : cBlock T_policy_of (defScope (topS 66)) (defBody (topS 66)) = some b_policy_of := by kernel_rfl
abbrev T_window_of : Tx := ⟨N_window_of, [], [("entry_of", 3, s_entry_of)], conG, fldG⟩
theorem c_window_of : cBlock T_window_of (defScope (topS 67)) (defBody (topS 67)) = some b_window_of := by kernel_rfl
abbrev T_is_muted : Tx := ⟨N_is_muted, [], [("in_spans", 3, s_in_spans), ("window_of", 2, s_window_of)], conG, fldG⟩
theorem c_is_muted : cBlock T_is_muted (defScope (topS 69)) (defBody (topS 69)) = some b_is_muted := by kernel_rfl
abbrev T_is_sure : Tx := ⟨N_is_sure, [], [("channels_of", 2, s_channels_of)], conG, fldG⟩
theorem c_is_sure : cBlock T_is_sure (defScope (topS 70)) (defBody (topS 70)) = some b_is_sure := by kernel_rfl
abbrev T_plan : Tx := ⟨N_plan, [3], [("policy_of", 2, s_policy_of), ("on_call", 3, s_on_call), ("schedule_of", 2, s_schedule_of), ("is_sure", 2, s_is_sure)], conG, fldG⟩
theorem c_plan : cBlock T_plan (defScope (topS 71)) (defBody (topS 71)) = some b_plan := by kernel_rfl
abbrev T_delay : Tx := ⟨N_delay, [], [("plan", 3, s_plan)], conG, fldG⟩
theorem c_delay : cBlock T_delay (defScope (topS 72)) (defBody (topS 72)) = some b_delay := by kernel_rfl
abbrev T_slack : Tx := ⟨N_slack, [], [], conG, fldG⟩
theorem c_slack : cBlock T_slack (defScope (topS 74)) (defBody (topS 74)) = some b_slack := by kernel_rfl
abbrev T_is_forced : Tx := ⟨N_is_forced, [], [("slack", 1, s_slack), ("is_muted", 3, s_is_muted)], conG, fldG⟩
theorem c_is_forced : cBlock T_is_forced (defScope (topS 75)) (defBody (topS 75)) = some b_is_forced := by kernel_rfl
abbrev T_can_fail : Tx := ⟨N_can_fail, [], [("policy_of", 2, s_policy_of), ("on_call", 3, s_on_call), ("schedule_of", 2, s_schedule_of), ("is_sure", 2, s_is_sure)], conG, fldG⟩
theorem c_can_fail : cBlock T_can_fail (defScope (topS 76)) (defBody (topS 76)) = some b_can_fail := by kernel_rfl
abbrev T_can_precede : Tx := ⟨N_can_precede, [], [("is_muted", 3, s_is_muted), ("is_forced", 5, s_is_forced)], conG, fldG⟩
theorem c_can_precede : cBlock T_can_precede (defScope (topS 77)) (defBody (topS 77)) = some b_can_precede := by kernel_rfl
abbrev T_first_due : Tx := ⟨N_first_due, [], [], conG, fldG⟩
theorem c_first_due : cBlock T_first_due (defScope (topS 78)) (defBody (topS 78)) = some b_first_due := by kernel_rfl
abbrev T_can_begin : Tx := ⟨N_can_begin, [], [("is_muted", 3, s_is_muted), ("is_forced", 5, s_is_forced), ("first_due", 3, s_first_due)], conG, fldG⟩
theorem c_can_begin : cBlock T_can_begin (defScope (topS 79)) (defBody (topS 79)) = some b_can_begin := by kernel_rfl
abbrev T_can_follow : Tx := ⟨N_can_follow, [], [("is_muted", 3, s_is_muted), ("is_forced", 5, s_is_forced)], conG, fldG⟩
theorem c_can_follow : cBlock T_can_follow (defScope (topS 80)) (defBody (topS 80)) = some b_can_follow := by kernel_rfl
abbrev T__later : Tx := ⟨N__later, [], [("matches_all", 2, s_matches_all)], conG, fldG⟩
theorem c__later : cBlock T__later (defScope (topS 82)) (defBody (topS 82)) = some b__later := by kernel_rfl
abbrev T_way : Tx := ⟨N_way, [2], [("_later", 3, s__later)], conG, fldG⟩
theorem c_way : cBlock T_way (defScope (topS 83)) (defBody (topS 83)) = some b_way := by kernel_rfl
abbrev T_end_of : Tx := ⟨N_end_of, [], [("way", 2, s_way)], conG, fldG⟩
theorem c_end_of : cBlock T_end_of (defScope (topS 84)) (defBody (topS 84)) = some b_end_of := by kernel_rfl
abbrev T__from_here : Tx := ⟨N__from_here, [], [("can_fail", 4, s_can_fail), ("is_forced", 5, s_is_forced), ("can_follow", 4, s_can_follow)], conG, fldG⟩
theorem c__from_here : cBlock T__from_here (defScope (topS 89)) (defBody (topS 89)) = some b__from_here := by kernel_rfl
abbrev T_failing : Tx := ⟨N_failing, [], [("_from_here", 5, s__from_here)], conG, fldG⟩
theorem c_failing : cBlock T_failing (defScope (topS 90)) (defBody (topS 90)) = some b_failing := by kernel_rfl
abbrev T__pages : Tx := ⟨N__pages, [3], [], conG, fldG⟩
theorem c__pages : cBlock T__pages (defScope (topS 91)) (defBody (topS 91)) = some b__pages := by kernel_rfl
abbrev T__script : Tx := ⟨N__script, [], [("is_forced", 5, s_is_forced), ("first_due", 3, s_first_due), ("can_begin", 5, s_can_begin), ("_pages", 3, s__pages)], conG, fldG⟩
theorem c__script : cBlock T__script (defScope (topS 92)) (defBody (topS 92)) = some b__script := by kernel_rfl
abbrev T_gap : Tx := ⟨N_gap, [], [("end_of", 2, s_end_of), ("failing", 4, s_failing), ("_script", 6, s__script), ("can_precede", 4, s_can_precede)], conG, fldG⟩
theorem c_gap : cBlock T_gap (defScope (topS 93)) (defBody (topS 93)) = some b_gap := by kernel_rfl
abbrev T__law_cell : Tx := ⟨N__law_cell, [], [], conG, fldG⟩
theorem c__law_cell : cBlock T__law_cell (defScope (topS 95)) (defBody (topS 95)) = some b__law_cell := by kernel_rfl
abbrev T__law_draws : Tx := ⟨N__law_draws, [2], [], conG, fldG⟩
theorem c__law_draws : cBlock T__law_draws (defScope (topS 96)) (defBody (topS 96)) = some b__law_draws := by kernel_rfl
abbrev T__law_words : Tx := ⟨N__law_words, [], [], conG, fldG⟩
theorem c__law_words : cBlock T__law_words (defScope (topS 98)) (defBody (topS 98)) = some b__law_words := by kernel_rfl
abbrev T__law_worths : Tx := ⟨N__law_worths, [], [], conG, fldG⟩
theorem c__law_worths : cBlock T__law_worths (defScope (topS 99)) (defBody (topS 99)) = some b__law_worths := by kernel_rfl
abbrev T__law_matcher : Tx := ⟨N__law_matcher, [5], [], conG, fldG⟩
theorem c__law_matcher : cBlock T__law_matcher (defScope (topS 101)) (defBody (topS 101)) = some b__law_matcher := by kernel_rfl
abbrev T__law_value : Tx := ⟨N__law_value, [], [], conG, fldG⟩
theorem c__law_value : cBlock T__law_value (defScope (topS 102)) (defBody (topS 102)) = some b__law_value := by kernel_rfl
abbrev T__law_matches : Tx := ⟨N__law_matches, [], [("_law_value", 2, s__law_value)], conG, fldG⟩
theorem c__law_matches : cBlock T__law_matches (defScope (topS 103)) (defBody (topS 103)) = some b__law_matches := by kernel_rfl
abbrev T__law_way : Tx := ⟨N__law_way, [2], [("_law_matches", 2, s__law_matches)], conG, fldG⟩
theorem c__law_way : cBlock T__law_way (defScope (topS 104)) (defBody (topS 104)) = some b__law_way := by kernel_rfl
abbrev T__law_route : Tx := ⟨N__law_route, [8], [("_law_draws", 2, s__law_draws), ("_law_matcher", 4, s__law_matcher)], conG, fldG⟩
theorem c__law_route : cBlock T__law_route (defScope (topS 105)) (defBody (topS 105)) = some b__law_route := by kernel_rfl
abbrev T__law_layer : Tx := ⟨N__law_layer, [4], [], conG, fldG⟩
theorem c__law_layer : cBlock T__law_layer (defScope (topS 106)) (defBody (topS 106)) = some b__law_layer := by kernel_rfl
abbrev T__law_rota : Tx := ⟨N__law_rota, [5, 7], [("_law_draws", 2, s__law_draws), ("_law_layer", 3, s__law_layer)], conG, fldG⟩
theorem c__law_rota : cBlock T__law_rota (defScope (topS 107)) (defBody (topS 107)) = some b__law_rota := by kernel_rfl
abbrev T__law_ladder : Tx := ⟨N__law_ladder, [3], [], conG, fldG⟩
theorem c__law_ladder : cBlock T__law_ladder (defScope (topS 109)) (defBody (topS 109)) = some b__law_ladder := by kernel_rfl
abbrev T__law_shutter : Tx := ⟨N__law_shutter, [3], [], conG, fldG⟩
theorem c__law_shutter : cBlock T__law_shutter (defScope (topS 110)) (defBody (topS 110)) = some b__law_shutter := by kernel_rfl
abbrev T__law_holds : Tx := ⟨N__law_holds, [4], [("_law_draws", 2, s__law_draws), ("_law_matcher", 4, s__law_matcher)], conG, fldG⟩
theorem c__law_holds : cBlock T__law_holds (defScope (topS 111)) (defBody (topS 111)) = some b__law_holds := by kernel_rfl
abbrev T__law_on : Tx := ⟨N__law_on, [], [], conG, fldG⟩
theorem c__law_on : cBlock T__law_on (defScope (topS 113)) (defBody (topS 113)) = some b__law_on := by kernel_rfl
abbrev T__law_lcm : Tx := ⟨N__law_lcm, [], [], conG, fldG⟩
theorem c__law_lcm : cBlock T__law_lcm (defScope (topS 114)) (defBody (topS 114)) = some b__law_lcm := by kernel_rfl
abbrev T__law_period : Tx := ⟨N__law_period, [], [("_law_lcm", 2, s__law_lcm)], conG, fldG⟩
theorem c__law_period : cBlock T__law_period (defScope (topS 115)) (defBody (topS 115)) = some b__law_period := by kernel_rfl
abbrev T__law_settled : Tx := ⟨N__law_settled, [], [], conG, fldG⟩
theorem c__law_settled : cBlock T__law_settled (defScope (topS 116)) (defBody (topS 116)) = some b__law_settled := by kernel_rfl
abbrev T__law_find : Tx := ⟨N__law_find, [], [], conG, fldG⟩
theorem c__law_find : cBlock T__law_find (defScope (topS 117)) (defBody (topS 117)) = some b__law_find := by kernel_rfl
abbrev T__law_muted : Tx := ⟨N__law_muted, [], [("_law_find", 2, s__law_find)], conG, fldG⟩
theorem c__law_muted : cBlock T__law_muted (defScope (topS 118)) (defBody (topS 118)) = some b__law_muted := by kernel_rfl
abbrev T__law_is_bad : Tx := ⟨N__law_is_bad, [], [("_law_muted", 3, s__law_muted), ("_law_find", 2, s__law_find), ("_law_on", 3, s__law_on)], conG, fldG⟩
theorem c__law_is_bad : cBlock T__law_is_bad (defScope (topS 120)) (defBody (topS 120)) = some b__law_is_bad := by kernel_rfl
abbrev T__law_setup : Tx := ⟨N__law_setup, [], [], conG, fldG⟩
abbrev T__horizon : Tx := ⟨N__horizon, [], [("policy_of", 2, s_policy_of), ("schedule_of", 2, s_schedule_of), ("period", 2, s_period), ("settled", 1, s_settled)], conG, fldG⟩
abbrev T_sure_limit : Tx := ⟨N_sure_limit, [], [("end_of", 2, s_end_of), ("is_muted", 3, s_is_muted), ("delay", 3, s_delay), ("slack", 1, s_slack)], conG, fldG⟩
abbrev T__law_labels : Tx := ⟨N__law_labels, [3, 4], [], conG, fldG⟩
abbrev T__law_world : Tx := ⟨N__law_world, [15], [("_law_words", 2, s__law_words), ("_law_cell", 2, s__law_cell), ("_law_worths", 2, s__law_worths), ("_law_draws", 2, s__law_draws), ("_law_rota", 4, s__law_rota), ("_law_ladder", 3, s__law_ladder), ("_law_shutter", 3, s__law_shutter), ("_law_route", 6, s__law_route), ("_law_holds", 3, s__law_holds), ("_law_setup", 9, s__law_setup)], conG, fldG⟩
abbrev T__law_rich : Tx := ⟨N__law_rich, [1], [("_law_cell", 2, s__law_cell), ("_law_setup", 9, s__law_setup)], conG, fldG⟩
abbrev T_law : Tx := ⟨N_law, [], [("_law_draws", 2, s__law_draws), ("_law_cell", 2, s__law_cell), ("_law_way", 2, s__law_way), ("_law_find", 2, s__law_find), ("_law_period", 2, s__law_period), ("_law_lcm", 2, s__law_lcm), ("_law_settled", 1, s__law_settled), ("_law_muted", 3, s__law_muted), ("_law_is_bad", 3, s__law_is_bad), ("gap", 4, s_gap)], conG, fldG⟩
theorem c__horizon_0 : cBlock T__horizon (defScope (topS 86)) ((defBody (topS 86)).take 4) = some b__horizon_0 := by kernel_rfl
theorem c_sure_limit_0 : cBlock T_sure_limit (defScope (topS 87)) ((defBody (topS 87)).take 1) = some b_sure_limit_0 := by kernel_rfl
theorem c_sure_limit_1 : cBlock T_sure_limit (defScope (topS 87)) ((defBody (topS 87)).drop 2) = some b_sure_limit_1 := by kernel_rfl
theorem c__law_labels_0 : cBlock T__law_labels (defScope (topS 100)) ((defBody (topS 100)).take 3) = some b__law_labels_0 := by kernel_rfl
theorem c__law_world_0 : cBlock T__law_world (defScope (topS 112)) ((defBody (topS 112)).take 18) = some b__law_world_0 := by kernel_rfl
theorem c__law_rich_0 : cBlock T__law_rich (defScope (topS 119)) (((defBody (topS 119)).drop 1).take 1) = some b__law_rich_0 := by kernel_rfl
theorem c__law_rich_1 : cBlock T__law_rich (defScope (topS 119)) ((ifBody ((defBody (topS 119)).getD 2 (.Pass ⟨0, 0, 0, 0⟩))).take 2) = some b__law_rich_1 := by kernel_rfl
theorem c__law_rich_2 : cBlock T__law_rich (defScope (topS 119)) ((defBody (topS 119)).drop 3) = some b__law_rich_2 := by kernel_rfl
theorem c_law_0 : cBlock T_law (defScope (topS 121)) (((defBody (topS 121)).drop 1).take 1) = some b_law_0 := by kernel_rfl
theorem c_law_1 : cBlock T_law (defScope (topS 121)) (((defBody (topS 121)).drop 3).take 7) = some b_law_1 := by kernel_rfl
theorem c_law_2 : cBlock T_law (defScope (topS 121)) ((defBody (topS 121)).drop 11) = some b_law_2 := by kernel_rfl
end WF
end
/-! text WH1 -/
section
set_option Elab.async false
set_option linter.all false
set_option maxRecDepth 100000
set_option maxHeartbeats 4000000
/-! Hand-walked: the class Setup. -/
namespace WF
open PySem PySem.Spec PyProof.Rows L2
section
variable {X : Cx} {o : Expr} {f : Str} {pos : Pos} {ta : TE}
/-- o.f as a target -/
def gFld (K : PySem.W.Frag) (ta : TE) (f : Str) : TG := fun v σ H Q => ta σ H fun x H1 => ∃ a C dx fs, x = .ref a ∧ H1 a = some (.ins C dx fs) ∧ Cls K C ∧ NoAttr K C f ∧ fs.length < 1000 ∧ Q σ (upd H1 a (.ins C dx (putF f v fs)))
theorem pg_fld (ha : PE X o ta) (hs : ∀ v, assign (.Attribute o f pos) X.env v = (do
      let ov ← holding [v] (eval o X.env)
      standAt pos.atName
      holding [v, ov] (setAttr ov f v)
      release [v, ov] []) := by intro _; rfl) : PG X (.Attribute o f pos) (gFld X.K ta f) := by
  refine ⟨fun pins s σ H v u Q I r h => ?_⟩
  rw [hs]
  refine wpAny_bind (wpAny_holding (thn (ha.run pins s σ H _ I h) fun ov s1 ⟨x, H1, I1, r1, a, C, dx, fs, ex, ea, c, n, l, q⟩ => ?_))
  subst ex
  obtain rfl : ov = Value.ref a := r1
  refine wpAny_bind (wpAny_standAt (wpAny_bind (wpAny_holding (setattr_ok I1 ea c n l r fun s3 I3 => ?_))))
  exact wpAny_release ⟨σ, _, I3, q⟩
end
/-- the object at p is being filled: what its attributes hold so far -/
structure Fill (K : PySem.W.Frag) (C p dx : Addr) (H0 Hs0 : Hp) (σ : L2.St) (ρ : Env) (Hs : Hp) (names : List Str) (ds : List D) (H : Hp) : Prop where
  s0 : Same Hs0 Hs
  sub : Same Hs H
  np : Hs p = none
  at_ : ∃ fs, H p = some (.ins C dx fs) ∧ fs.map (·.1) = names ∧ Reps K C Hs (fs.map (·.2)) ds
  kept : ∀ b o, b ≠ p → H0 b = some o → H b = some o
  fresh : ∀ b, H0 b ≠ none → Hs b = Hs0 b
  st : StOk K C H0 σ Hs H ρ
  noOwn : ∀ (i : Nat) (es : List D), ρ[i]? ≠ some (Slot.own es)
  self : σ[0]? = some (some (V.ref p))
theorem putF_new {f : Str} {v : V} : ∀ {fs : List (Str × V)}, f ∉ fs.map (·.1) → putF f v fs = fs ++ [(f, v)]
  | [], _ => rfl
  | (g, x) :: r, h => by
    show (if g = f then (g, v) :: r else (g, x) :: putF f v r) = _
    rw [if_neg fun e => h (by rw [← e]; exact List.mem_cons_self), putF_new fun z => h (List.mem_cons_of_mem _ z)]
    rfl
section
variable {K : PySem.W.Frag} {C p dx : Addr} {H0 Hs0 Hs H : Hp} {σ : L2.St} {ρ : Env} {names : List Str} {ds : List D}
/-- one attribute more -/
theorem Fill.put (F : Fill K C p dx H0 Hs0 σ ρ Hs names ds H) {fs : List (Str × V)} {f : Str} {v : V} {d : D} (h4 : H p = some (.ins C dx fs)) (hf : f ∉ names) (r : Rep K C Hs v d) :
    Fill K C p dx H0 Hs0 σ ρ Hs (names ++ [f]) (ds ++ [d]) (upd H p (.ins C dx (putF f v fs))) := by
  obtain ⟨fs', h4', h5, h6⟩ := F.at_
  rw [h4] at h4'
  cases h4'
  have sub : Same Hs (upd H p (.ins C dx (putF f v fs))) := fun b o q => by
    rw [upd_ne (ne_of_none q F.np)]
    exact F.sub _ _ q
  refine ⟨F.s0, sub, F.np, ⟨putF f v fs, upd_same, ?_, ?_⟩, fun b o hb q => ?_, F.fresh, ⟨sub, F.st.len, F.st.val, fun i es q => absurd q (F.noOwn i es), F.st.dist⟩, F.noOwn, F.self⟩
  · rw [putF_new (by rw [h5]; exact hf), List.map_append, h5]
    rfl
  · rw [putF_new (by rw [h5]; exact hf), List.map_append]
    exact h6.append (.cons r .nil)
  · rw [upd_ne hb]
    exact F.kept b o hb q
theorem Fill.grow (F : Fill K C p dx H0 Hs0 σ ρ Hs names ds H) {Hs1 H1 : Hp} (g : Grow Hs H Hs1 H1) : Fill K C p dx H0 Hs0 σ ρ Hs1 names ds H1 := by
  obtain ⟨fs, h4, h5, h6⟩ := F.at_
  refine ⟨F.s0.trans g.s, g.sub, ?_, ⟨fs, g.h _ _ h4, h5, h6.mono g.s⟩, fun b o hb q => g.h _ _ (F.kept b o hb q), fun b hb => ?_, F.st.grow g, F.noOwn, F.self⟩
  · rw [g.fresh p (by rw [h4]; intro z; cases z)]
    exact F.np
  · by_cases hb2 : b = p
    · subst hb2
      rw [g.fresh b (by rw [h4]; intro z; cases z), F.fresh b hb]
    · have hHb : H b ≠ none := by
        cases q : H0 b with
        | none => exact absurd q hb
        | some o =>
          rw [F.kept b o hb2 q]
          intro z
          cases z
      rw [g.fresh b hHb, F.fresh b hb]
end
/-- self.f = e -/
theorem fill_step {X : Cx} {C : Addr} {pos pos' sp : Pos} {f self : Str} {e : Expr} {g : SE} (cl : Cls X.K C) (na : NoAttr X.K C f) (hs : PE X (.Name self sp) (tVar 0)) (he : OkE X C e g) (hn : noComp e = true) :
    PS X (.Assign [.Attribute (.Name self sp) f pos'] e pos) (fun D σ H => ∃ p dx H0 Hs0 ρ Hs names ds d, Fill X.K C p dx H0 Hs0 σ ρ Hs names ds H ∧ g ρ = some d ∧ f ∉ names ∧ names.length < 1000 ∧
      ∀ Hs' H', Fill X.K C p dx H0 Hs0 σ ρ Hs' (names ++ [f]) (ds ++ [d]) H' → D.nx σ H') := by
  refine PS.imp (ps_fld (f := f) hs he (swaps_no hn)) fun D σ H q => ?_
  obtain ⟨p, dx, H0, Hs0, ρ, Hs, names, ds, d, F, ed, hf, hl, k⟩ := q
  refine ⟨H0, Hs, ρ, d, F.st, ed, fun v Hs1 H1 g1 r1 => ?_⟩
  have F1 := F.grow g1
  obtain ⟨fs, h4, h5, h6⟩ := F1.at_
  refine ⟨.ref p, F.self, p, C, dx, fs, rfl, h4, cl, na, ?_, k Hs1 _ (F1.put h4 hf r1)⟩
  have : fs.length = names.length := by rw [← h5, List.length_map]
  omega
/-- self.f, self.g, .. = e: the targets one after another -/
def rFlds (K : PySem.W.Frag) : List Str → TGs
  | [] => gNil
  | f :: fs => gCons (gFld K (tVar 0) f) (rFlds K fs)
theorem fill_all {K : PySem.W.Frag} {C p dx : Addr} {H0 Hs0 Hs : Hp} {σ : L2.St} {ρ : Env} (cl : Cls K C) {Q : L2.St → Hp → Prop} : ∀ {fl : List Str} {vs : List V} {es : List D} {names : List Str} {ds : List D} {H : Hp}, (∀ f ∈ fl, NoAttr K C f) → Fill K C p dx H0 Hs0 σ ρ Hs names ds H → Reps K C Hs vs es → vs.length = fl.length →
    (names ++ fl).Nodup → names.length + fl.length < 1000 → (∀ H', Fill K C p dx H0 Hs0 σ ρ Hs (names ++ fl) (ds ++ es) H' → Q σ H') → rFlds K fl vs σ H Q
  | [], vs, es, names, ds, H, na, F, r, hl, nd, hz, k => by
    cases r with
    | nil =>
      refine ⟨rfl, k H ?_⟩
      rw [List.append_nil, List.append_nil]
      exact F
    | cons _ _ => cases hl
  | f :: fl, vs, es, names, ds, H, na, F, r, hl, nd, hz, k => by
    cases r with
    | nil => cases hl
    | @cons v d vs es h t =>
      obtain ⟨fs, h4, h5, h6⟩ := F.at_
      have hf : f ∉ names := fun z => (List.nodup_append.mp nd).2.2 f z f List.mem_cons_self rfl
      have hlen : fs.length = names.length := by rw [← h5, List.length_map]
      rw [List.length_cons] at hz
      refine ⟨v, vs, rfl, .ref p, F.self, p, C, dx, fs, rfl, h4, cl, na f List.mem_cons_self, by omega, ?_⟩
      refine fill_all cl (names := names ++ [f]) (ds := ds ++ [d]) (fun g hg => na g (List.mem_cons_of_mem _ hg)) (F.put h4 hf h) t (by simpa using hl) (by simpa using nd) (by rw [List.length_append, List.length_singleton]; omega) fun H' F' => k H' ?_
      simpa using F'
theorem flds_ok {X : Cx} (hs : ∀ sp, PE X (.Name "self" sp) (tVar 0)) : ∀ {es : List Expr} {fl : List Str}, (∀ i : Nat, ∀ e, es[i]? = some e → ∃ sp pos f, e = .Attribute (.Name "self" sp) f pos ∧ fl[i]? = some f) → es.length = fl.length → PGs X es (rFlds X.K fl)
  | [], [], _, _ => pgs_nil
  | [], _ :: _, _, h => by cases h
  | _ :: _, [], _, h => by cases h
  | e :: es, f :: fl, h, hl => by
    obtain ⟨sp, pos, f', rfl, hf⟩ := h 0 e rfl
    cases hf
    exact pgs_cons (pg_fld (hs sp)) (flds_ok hs (fun i e q => h (i + 1) e q) (by simpa using hl)) rfl
/-! ### the class Setup -/
abbrev N_init : List Str := ["self", "week", "people", "schedules", "policies", "windows", "routes", "holdbacks", "groups", "numbers"]
def T_init : Tx := ⟨N_init, [], [], [], []⟩
theorem scInit : FnScope N_init N_init (defScope sInit) := ⟨rfl, rfl, rfl, by decide +kernel, rfl, by decide +kernel, by decide +kernel⟩
/-- what __init__ does to the new object -/
def spInit (K : PySem.W.Frag) (C : Addr) : Sp := fun vs H Q _ => ∃ (p dx : Addr) (ws : List V) (H0 Hs : Hp) (ds : List D) (d : D), vs = .ref p :: ws ∧ H p = some (.ins C dx []) ∧ Same Hs H ∧ Hs p = none ∧ H0 p = none ∧ (∀ b o, b ≠ p → H0 b = some o → H b = some o) ∧ Reps K C Hs ws ds ∧ s_Setup ds = some d ∧
  ∀ Hs' H', Grow Hs H0 Hs' H' → Rep K C Hs' (.ref p) d → Q .non H'
end WF
end
/-! text WH2 -/
section
set_option Elab.async false
set_option linter.all false
set_option maxRecDepth 100000
set_option maxHeartbeats 4000000
/-! Hand-walked: Setup.__init__, and the class called. -/
namespace WF
open PySem PySem.Spec PyProof.Rows L2
theorem setup_shape {ds : List D} {d : D} (h : s_Setup ds = some d) : ∃ wk pe sc po wi ro ho gr r pa dn st lb, ds = [.int wk, .lst pe, .lst sc, .lst po, .lst wi, .lst ro, .lst ho, .lst gr, .tup [r, pa, dn, st, lb]] ∧ d = .obj fldG [.int wk, .lst pe, .lst sc, .lst po, .lst wi, .lst ro, .lst ho, .lst gr, r, pa, dn, st, lb] := by
  unfold s_Setup at h
  split at h
  · cases h
    exact ⟨_, _, _, _, _, _, _, _, _, _, _, _, _, rfl, rfl⟩
  · cases h
section
variable {P : Program} {w : World} {K : PySem.W.Frag} {mg : Str → Option Value} {base : Heap} {C : Addr}
theorem ok_init {f : Addr} {fd : FuncData} (F : FunD K "__init__" "Setup.__init__" (defArgs sInit) (defBody sInit) (defScope sInit) [] [] f fd) (B : Base1 P w K mg base C fldG conG) : FnOk P w K mg base CX0 1 f fd N_init (spInit K C) := by
  refine F.ok scInit (fun vs H Q E q => ?_) (fun cdv A outer s0 H vs Q E hr q => ?_)
  · obtain ⟨p, dx, ws, H0, Hs, ds, d, rfl, _, _, _, _, _, r, e, _⟩ := q
    obtain ⟨_, _, _, _, _, _, _, _, _, _, _, _, _, rfl, _⟩ := setup_shape e
    rw [List.length_cons, r.length]
    rfl
  · obtain ⟨p, dx, ws, H0, Hs, ds, d, rfl, hp, sub, np, np0, kept, r, e, k⟩ := q
    obtain ⟨wk, pe, sc, po, wi, ro, ho, gr, rr, pa, dn, st, lb, rfl, rfl⟩ := setup_shape e
    -- the place
    have B' : Base1 P w K mg base C T_init.flds T_init.con := ⟨B.blt, B.lcm, fun x d h => (by cases h), B.cls, fun f h => (by cases h)⟩
    have G := good_of (CX := CX0) (T := T_init) (N := N_init) (A := A) (outer := outer) (s := s0) (H := H) (E := E) B' Table.nil rfl scInit.nd hr
    have se := fun {e f} (q : (rdN T_init 5).e (defScope sInit) e = some f) => (rdN_ok (T := T_init) (Cl := C) (k := 0) 5 true _ _ G).1 e f q
    have sv : ∀ sp, PE (cxOf CX0 P w K mg base N_init "Setup.__init__" (defScope sInit) f cdv A outer s0 H E).nox (.Name "self" sp) (tVar 0) := fun sp => slot_var G (show slotOf T_init (defScope sInit) "self" = some 0 by decide +kernel)
    refine ⟨_, PSs.nox (pss_cons (fill_step B.cls (B.flds "week" (by decide +kernel)) (sv _) (se (f := eVar 1) (by kernel_rfl)) rfl)
      (pss_cons (fill_step B.cls (B.flds "people" (by decide +kernel)) (sv _) (se (f := eBlt .list (aCons (eVar 2) aNil)) (by kernel_rfl)) rfl)
      (pss_cons (fill_step B.cls (B.flds "schedules" (by decide +kernel)) (sv _) (se (f := eBlt .list (aCons (eVar 3) aNil)) (by kernel_rfl)) rfl)
      (pss_cons (fill_step B.cls (B.flds "policies" (by decide +kernel)) (sv _) (se (f := eBlt .list (aCons (eVar 4) aNil)) (by kernel_rfl)) rfl)
      (pss_cons (fill_step B.cls (B.flds "windows" (by decide +kernel)) (sv _) (se (f := eBlt .list (aCons (eVar 5) aNil)) (by kernel_rfl)) rfl)
      (pss_cons (fill_step B.cls (B.flds "routes" (by decide +kernel)) (sv _) (se (f := eBlt .list (aCons (eVar 6) aNil)) (by kernel_rfl)) rfl)
      (pss_cons (fill_step B.cls (B.flds "holdbacks" (by decide +kernel)) (sv _) (se (f := eBlt .list (aCons (eVar 7) aNil)) (by kernel_rfl)) rfl)
      (pss_cons (fill_step B.cls (B.flds "groups" (by decide +kernel)) (sv _) (se (f := eBlt .list (aCons (eVar 8) aNil)) (by kernel_rfl)) rfl)
      (pss_one (ps_asg (se (f := eVar 9) (by kernel_rfl)) (pg_tup (n := 5) rfl (pgs_cons (pg_fld (sv _)) (pgs_cons (pg_fld (sv _)) (pgs_cons (pg_fld (sv _)) (pgs_cons (pg_fld (sv _)) (pgs_cons (pg_fld (sv _)) pgs_nil)))))))))))))))), ?_⟩
    have st0 : StOk K C H0 (L2.start N_init (V.ref p :: ws)) Hs H (Slot.no :: ([.int wk, .lst pe, .lst sc, .lst po, .lst wi, .lst ro, .lst ho, .lst gr, .tup [rr, pa, dn, st, lb]] : List D).map Slot.val) := by
      have hl := r.length
      refine ⟨sub, by simp [L2.start, hl], fun i d q => ?_, fun i es q => ?_, fun i j es fs a q => ?_⟩
      · cases i with
        | zero => cases q
        | succ i =>
          rw [List.getElem?_cons_succ, List.getElem?_map] at q
          obtain ⟨d', h1, h2⟩ := Option.map_eq_some_iff.mp q
          cases h2
          obtain ⟨v, h3, h4⟩ := r.get h1
          refine ⟨v, ?_, h4⟩
          unfold L2.start
          rw [List.getElem?_append_left (by
            have := (List.getElem?_eq_some_iff.mp h3).1
            simpa using this), List.getElem?_map, List.getElem?_cons_succ, h3]
          rfl
      · cases i with
        | zero => cases q
        | succ i =>
          rw [List.getElem?_cons_succ, List.getElem?_map] at q
          obtain ⟨d', h1, h2⟩ := Option.map_eq_some_iff.mp q
          cases h2
      · cases i with
        | zero => cases q
        | succ i =>
          rw [List.getElem?_cons_succ, List.getElem?_map] at q
          obtain ⟨d', h1, h2⟩ := Option.map_eq_some_iff.mp q
          cases h2
    have F0 : Fill K C p dx H0 Hs (L2.start N_init (V.ref p :: ws)) (Slot.no :: ([.int wk, .lst pe, .lst sc, .lst po, .lst wi, .lst ro, .lst ho, .lst gr, .tup [rr, pa, dn, st, lb]] : List D).map Slot.val) Hs [] [] H :=
      ⟨.refl _, sub, np, ⟨[], hp, rfl, .nil⟩, kept, fun _ _ => rfl, st0, (fun i es q => by
        cases i with
        | zero => cases q
        | succ i =>
          rw [List.getElem?_cons_succ, List.getElem?_map] at q
          obtain ⟨d', h1, h2⟩ := Option.map_eq_some_iff.mp q
          cases h2), rfl⟩
    refine ⟨p, dx, H0, Hs, _, Hs, _, _, _, F0, rfl, by decide +kernel, by decide, fun Hs1 H1 F1 => ?_⟩
    refine ⟨p, dx, H0, Hs, _, Hs1, _, _, _, F1, rfl, by decide +kernel, by decide, fun Hs2 H2 F2 => ?_⟩
    refine ⟨p, dx, H0, Hs, _, Hs2, _, _, _, F2, rfl, by decide +kernel, by decide, fun Hs3 H3 F3 => ?_⟩
    refine ⟨p, dx, H0, Hs, _, Hs3, _, _, _, F3, rfl, by decide +kernel, by decide, fun Hs4 H4 F4 => ?_⟩
    refine ⟨p, dx, H0, Hs, _, Hs4, _, _, _, F4, rfl, by decide +kernel, by decide, fun Hs5 H5 F5 => ?_⟩
    refine ⟨p, dx, H0, Hs, _, Hs5, _, _, _, F5, rfl, by decide +kernel, by decide, fun Hs6 H6 F6 => ?_⟩
    refine ⟨p, dx, H0, Hs, _, Hs6, _, _, _, F6, rfl, by decide +kernel, by decide, fun Hs7 H7 F7 => ?_⟩
    refine ⟨p, dx, H0, Hs, _, Hs7, _, _, _, F7, rfl, by decide +kernel, by decide, fun Hs8 H8 F8 => ?_⟩
    refine ⟨H0, Hs8, _, _, F8.st, rfl, fun v Hs9 H9 g9 r9 => ?_⟩
    have F9 := F8.grow g9
    cases r9 with
    | @tup a xs _ ha ra =>
      refine ⟨a, xs, rfl, sqt_mono g9.sub ha, by rw [ra.length]; rfl, ?_⟩
      refine fill_all (fl := ["replicas", "pause", "down", "store", "lookback"]) B.cls (fun f hf => B.flds f ?_) F9 ra (by rw [ra.length]; rfl) (by decide +kernel) (by decide) fun H' F' => ?_
      · revert hf
        revert f
        decide +kernel
      · obtain ⟨fs, h4, h5, h6⟩ := F'.at_
        have h5' : fs.map (·.1) = fldG := h5
        have sub' : Same (upd Hs9 p (.ins C dx fs)) H' := fun b o q => by
          rcases upd_cases q with ⟨z, q2⟩ | ⟨ne, q2⟩
          · rw [z, h4]
            exact q2.symm
          · exact F'.sub _ _ q2
        have nn : Same Hs9 (upd Hs9 p (.ins C dx fs)) := same_new F'.np
        refine k _ H' ⟨F'.s0.trans nn, fun b o q => F'.kept b o (fun z => by rw [z, np0] at q; cases q) q, sub', fun b hb => ?_⟩ ?_
        · rw [upd_ne fun z => hb (by rw [z]; exact np0)]
          exact F'.fresh b hb
        · rw [← h5']
          exact .obj upd_same (h6.mono nn)
end
end WF
end
/-! text WH3 -/
section
set_option Elab.async false
set_option linter.all false
set_option maxRecDepth 100000
set_option maxHeartbeats 4000000
/-! The class Setup called; blocks with a tail of one's own; setup and _law_setup. -/
namespace WF
open PySem PySem.Spec PyProof.Rows L2
section
variable {P : Program} {w : World} {K : PySem.W.Frag} {mg : Str → Option Value} {base : Heap} {C : Addr}
theorem cal_Setup {f : Addr} {fd : FuncData} (M : Mk K C f) (hm : mg "Setup" = some (.ref C)) (F : FnOk P w K mg base CX0 1 f fd N_init (spInit K C)) (b : Binds K fd N_init []) : CalAt P w K mg base C 2 "Setup" 9 s_Setup := by
  intro X h1 h2 h3 h4 h5 _ hr e es fs p pos hg ha hp hn hd
  subst h1 h2 h3 h4 h5
  rw [List.all_cons, Bool.and_eq_true] at hp
  refine PE.imp (pe_make M F hr hg hm b .nil pass0 ha hd (starEach_cons hp.1) (plain_any hp.2)) fun σ H Q q => ?_
  obtain ⟨H0, Hs, ρ, d, st, e, k⟩ := q
  obtain ⟨ds, hds, e2⟩ := bind_some e
  refine ⟨H0, Hs, ρ, ds, st, hds, fun vs Hs1 H1 g1 r1 x dx hx hdx ne => ?_⟩
  have s1 : Same H1 (upd H1 dx (.own x)) := same_new hdx
  have hx2 : upd H1 dx (.own x) x = none := by
    rw [upd_ne (Ne.symm ne)]
    exact hx
  have s2 : Same (upd H1 dx (.own x)) (upd (upd H1 dx (.own x)) x (.ins C dx [])) := same_new hx2
  refine ⟨x, dx, vs, upd H1 dx (.own x), Hs1, ds, d, by rw [List.append_nil], upd_same, (g1.sub.trans s1).trans s2, same_back g1.sub hx, hx2, fun b o hb q => by rw [upd_ne hb]; exact q, r1, e2, fun Hs' H' g r => ⟨rfl, ?_⟩⟩
  refine k (.ref x) Hs' H' (g1.trans ⟨g.s, s1.trans g.h, g.sub, fun a ha => g.fresh a fun z => ha ?_⟩) r
  exact same_back s1 z
end
/-! ### blocks with a tail -/
def tThen (K : PySem.W.Frag) (C : Addr) (s : SS) (t : TS) : TS := fun D σ H => tS K C s { D with nx := t D } σ H
section
variable {T : Tx} {Cl : Addr} {k : Nat} {sc : Scope} {X : Cx} {r : Rd2}
theorem cStmts_then (S : Sound T Cl k r) (G : Good T Cl k true sc X) {tail : List Stmt} {t : TS} (ht : PSs X tail t) : ∀ (n : Nat) (sts : List Stmt) (s : SS), cStmts T r sc n sts = some s → PSs X (sts ++ tail) (tThen X.K Cl s t)
  | 0, sts, s, h => by
    unfold cStmts at h
    cases h
  | n + 1, [], s, h => by
    cases h
    refine PSs.imp ht fun D σ H q => ?_
    obtain ⟨H0, Hs0, Hs, ρ, o, g0, st, e, kk⟩ := q
    cases e
    exact kk σ Hs H g0 st
  | n + 1, [st], s, h => pss_cons (cStmt_ok S G (fun sts s q => cStmts_ok S G n sts s q) (show cStmt T r sc (cStmts T r sc n) st = some s from h)) ht
  | n + 1, st :: st2 :: rest, s, h => by
    have h2 : (match cStmt T r sc (cStmts T r sc n) st, cStmts T r sc n (st2 :: rest) with
      | some s, some t => some (sSeq s t)
      | _, _ => none) = some s := h
    split at h2
    · rename_i s1 t1 h3 h4
      cases h2
      have a1 := cStmt_ok S G (fun sts s q => cStmts_ok S G n sts s q) h3
      have a2 := cStmts_then S G ht n _ _ h4
      refine PSs.imp (pss_cons a1 a2) fun D σ H q => ?_
      obtain ⟨H0, Hs0, Hs, ρ, o, g0, st', e, kk⟩ := q
      obtain ⟨o1, e1, e2⟩ := bind_some e
      refine ⟨H0, Hs0, Hs, ρ, o1, g0, st', e1, ?_⟩
      cases o1 with
      | nx ρ1 => exact fun σ' Hs' H' g1 st1 => ⟨H0, Hs0, Hs', ρ1, o, g1, st1, e2, kk⟩
      | rt d =>
        cases e2
        exact kk
    · cases h2
theorem cBlock_then (G : Good T Cl k true sc X) {sts tail : List Stmt} {s : SS} {t : TS} (h : cBlock T sc sts = some s) (ht : PSs X tail t) : PSs X (sts ++ tail) (tThen X.K Cl s t) := cStmts_then (rdN_ok 30) G ht 30 sts s h
/-- an expression of the text, translated -/
theorem cE_ok (G : Good T Cl k true sc X) (n : Nat) {e : Expr} {f : SE} (h : (rdN T n).e sc e = some f) : OkE X Cl e f := (rdN_ok n true sc X G).1 e f h
theorem cT_ok (G : Good T Cl k true sc X) (n : Nat) {e : Expr} {t : ST} (h : (rdN T n).t sc e = some t) : OkT X Cl e t := (rdN_ok n true sc X G).2 e t h
end
end WF
end
/-! text KW -/
section
set_option Elab.async false
set_option linter.all false
set_option maxRecDepth 100000
set_option maxHeartbeats 4000000
/-! How setup's keywords bind. -/
namespace WF
open PySem PySem.Spec PyProof.Rows L2
theorem seq_none : seqItems? Value.none = pure none := rfl
/-- keyword-only parameters, all given but one -/
theorem kw_all {n0 n1 n2 n3 n4 n5 n6 n7 n8 n9 n10 n11 n12 x q : Str} (hne : [n0, n1, n2, n3, n4, n5, n6, n7, n8, n9, n10, n11, n12].Pairwise (fun a b => (a == b) = false ∧ (b == a) = false)) (b : List Stmt) (sc : Scope) (p0 p1 p2 p3 p4 p5 p6 p7 p8 p9 p10 p11 p12 : Pos) (kd : List (Option Expr)) (D : Addr) (doc pm : Value) (an : Option Addr) (cdv ct m a0 a1 a2 a3 a4 a5 a6 a7 a8 a9 a10 a12 : Value) :
    KwChain D [(n11, m)] (bindArgs (PySem.W.fnOf x q ⟨[], [], none, [⟨n0, none, p0⟩, ⟨n1, none, p1⟩, ⟨n2, none, p2⟩, ⟨n3, none, p3⟩, ⟨n4, none, p4⟩, ⟨n5, none, p5⟩, ⟨n6, none, p6⟩, ⟨n7, none, p7⟩, ⟨n8, none, p8⟩, ⟨n9, none, p9⟩, ⟨n10, none, p10⟩, ⟨n11, none, p11⟩, ⟨n12, none, p12⟩], kd, none, []⟩ b sc .none (.ref D) doc pm an cdv ct) ⟨[], [(n0, a0), (n1, a1), (n2, a2), (n3, a3), (n4, a4), (n5, a5), (n6, a6), (n7, a7), (n8, a8), (n9, a9), (n10, a10), (n12, a12)]⟩)
      [(n0, a0), (n1, a1), (n2, a2), (n3, a3), (n4, a4), (n5, a5), (n6, a6), (n7, a7), (n8, a8), (n9, a9), (n10, a10), (n11, m), (n12, a12)] := by
  simp only [List.pairwise_cons, List.mem_cons, List.not_mem_nil, or_false, forall_eq_or_imp, forall_eq] at hne
  unfold bindArgs
  simp only [hne, PySem.W.fnOf, List.map_cons, List.map_nil, List.nil_append, List.zip_nil_left, List.length_nil, List.forIn_cons, List.forIn_nil, pure_bind, List.contains_cons, List.contains_nil, List.lookup_nil, List.lookup_cons, Bool.false_or, Bool.or_false, beq_self_eq_true, Bool.or_true, Bool.true_or, if_true, Option.isSome_none, Bool.false_eq_true, if_false, List.cons_append, seq_none, Option.getD_none, List.drop_nil, List.take_nil, List.filter_nil, List.isEmpty_nil, Bool.not_true, Option.isNone_some, Option.isNone_none, List.zip_nil_right, List.length_nil, Nat.sub_zero, Nat.zero_sub, List.filterMap_cons, List.filterMap_nil, Option.map_some]
  refine ⟨_, _, _, _, _, _, rfl, rfl, ?_⟩
  simp only [hne, PySem.W.fnOf, List.map_cons, List.map_nil, List.nil_append, List.zip_nil_left, List.length_nil, List.forIn_cons, List.forIn_nil, pure_bind, List.contains_cons, List.contains_nil, List.lookup_nil, List.lookup_cons, Bool.false_or, Bool.or_false, beq_self_eq_true, Bool.or_true, Bool.true_or, if_true, Option.isSome_none, Bool.false_eq_true, if_false, List.cons_append, seq_none, Option.getD_none, List.drop_nil, List.take_nil, List.filter_nil, List.isEmpty_nil, Bool.not_true, Option.isNone_some, Option.isNone_none, List.zip_nil_right, List.length_nil, Nat.sub_zero, Nat.zero_sub, List.filterMap_cons, List.filterMap_nil, Option.map_some]
  exact rfl
end WF
end
/-! text WH4 -/
section
set_option Elab.async false
set_option linter.all false
set_option maxRecDepth 100000
set_option maxHeartbeats 4000000
/-! A block with a tail of one's own, wherever exceptions pass; calls by keywords alone; setup, _law_setup. -/
namespace WF
open PySem PySem.Spec PyProof.Rows L2
theorem PSn {X : Cx} {st : Stmt} {t : TS} (h : PS X.nox st t) : PS X st t := ⟨fun pins s σ H D I hw =>
  wpAny_mono (h.run pins s σ H D (I.wish _) hw) (fun _ _ q => SP.unwish q) fun _ _ z => False.elim z⟩
section
variable {T : Tx} {Cl : Addr} {k : Nat} {sc : Scope} {X : Cx} {r : Rd2}
theorem cStmts_thenX (S : Sound T Cl k r) (G : Good T Cl k true sc X.nox) {tail : List Stmt} {t : TS} (ht : PSs X tail t) : ∀ (n : Nat) (sts : List Stmt) (s : SS), cStmts T r sc n sts = some s → PSs X (sts ++ tail) (tThen X.K Cl s t)
  | 0, sts, s, h => by
    unfold cStmts at h
    cases h
  | n + 1, [], s, h => by
    cases h
    refine PSs.imp ht fun D σ H q => ?_
    obtain ⟨H0, Hs0, Hs, ρ, o, g0, st, e, kk⟩ := q
    cases e
    exact kk σ Hs H g0 st
  | n + 1, [st], s, h => pss_cons (PSn (cStmt_ok S G (fun sts s q => cStmts_ok S G n sts s q) (show cStmt T r sc (cStmts T r sc n) st = some s from h))) ht
  | n + 1, st :: st2 :: rest, s, h => by
    have h2 : (match cStmt T r sc (cStmts T r sc n) st, cStmts T r sc n (st2 :: rest) with
      | some s, some t => some (sSeq s t)
      | _, _ => none) = some s := h
    split at h2
    · rename_i s1 t1 h3 h4
      cases h2
      have a1 := PSn (cStmt_ok S G (fun sts s q => cStmts_ok S G n sts s q) h3)
      have a2 := cStmts_thenX S G ht n _ _ h4
      refine PSs.imp (pss_cons a1 a2) fun D σ H q => ?_
      obtain ⟨H0, Hs0, Hs, ρ, o, g0, st', e, kk⟩ := q
      obtain ⟨o1, e1, e2⟩ := bind_some e
      refine ⟨H0, Hs0, Hs, ρ, o1, g0, st', e1, ?_⟩
      cases o1 with
      | nx ρ1 => exact fun σ' Hs' H' g1 st1 => ⟨H0, Hs0, Hs', ρ1, o, g1, st1, e2, kk⟩
      | rt d =>
        cases e2
        exact kk
    · cases h2
theorem cBlock_thenX (G : Good T Cl k true sc X.nox) {sts tail : List Stmt} {s : SS} {t : TS} (h : cBlock T sc sts = some s) (ht : PSs X tail t) : PSs X (sts ++ tail) (tThen X.K Cl s t) := cStmts_thenX (rdN_ok 30) G ht 30 sts s h
theorem cEx (G : Good T Cl k true sc X.nox) (n : Nat) {e : Expr} {f : SE} (h : (rdN T n).e sc e = some f) : OkE X Cl e f := PE.nox ((rdN_ok n true sc X.nox G).1 e f h)
theorem cTx (G : Good T Cl k true sc X.nox) (n : Nat) {e : Expr} {t : ST} (h : (rdN T n).t sc e = some t) : OkT X Cl e t := PT.nox ((rdN_ok n true sc X.nox G).2 e t h)
end
/-! ### keywords -/
section
variable {X : Cx} {CX : CXT} {k : Nat} {f : Addr} {fd : FuncData} {ps ks : List Str} {sp : Sp} {E : XK} {x : Str} {p pos : Pos} {kws : List Keyword} {tk : TA} {g : List Value → List Value → List Value} {gV : List V → List V → List V} {C : Addr}
/-- f(k = v, ..) -/
theorem pe_callN0 (F : FnOk X.prog X.w X.K X.mg X.base CX k f fd ps sp) (hr : Room k X.A) (hg : Gl X x) (hm : X.mg x = some (.ref f)) (hk : PySem.W.keepIn X.K (.ref f) = true) (hb : KBn X.K fd ps 0 ks g gV) (hx : Passes CX X E)
    (hkw : PK X kws tk) (hall : (backToKw pos (keywordEach kws X.env)).all (·.1.isSome) = true := by rfl) (hks : (backToKw pos (keywordEach kws X.env)).filterMap (·.1) = ks := by rfl)
    (hdb : (x == ("__debug__" : Str)) = false := by decide) (hpl : ((backTo pos (starEach [] X.env)).any (·.1) || (backToKw pos (keywordEach kws X.env)).any (·.1.isNone)) = false := by rfl) :
    PE X (.Call (.Name x p) [] kws pos) (tCallN 0 ks.length sp gV E tNil tk) := by
  refine ⟨fun pins s σ H Q I h => ?_⟩
  refine wpAny_Call_Name_kw (ld_glob I hg hm ?_ hdb)
  refine PySem.W.callWith_KW0 (h₀ := X.base) I.ok.mod.kin hk hall ?_ hpl
  refine thn (hkw.run pos pins s σ H _ I h) fun ws s2 ⟨zs, H2, I2, rz, l1, l2, q2⟩ => ⟨I2.kIn, ?_⟩
  rw [hks]
  exact run_fnN (us := []) (vs := []) F hr hb hx I2 .nil rz rfl l2 q2
theorem k_nil : PK X [] (tA X.K C aNil) := ⟨fun pos pins s σ H Q I h => (pk_nil (X := X)).run pos pins s σ H Q I (by
  obtain ⟨H0, Hs, ρ, ds, st, e, kk⟩ := h
  cases e
  exact kk [] Hs H (.refl st.sub) .nil)⟩
theorem k_cons {nm : Option Str} {e : Expr} {kpos : Pos} {fe : SE} {fs : SA} (he : OkE X C e fe) (hr : PK X kws (tA X.K C fs)) : PK X (⟨nm, e, kpos⟩ :: kws) (tA X.K C (aCons fe fs)) := ⟨fun pos pins s σ H Q I h => (pk_cons he hr).run pos pins s σ H Q I (by
  obtain ⟨H0, Hs, ρ, ds, st, e, k⟩ := h
  obtain ⟨d, hd, e2⟩ := bind_some e
  obtain ⟨r, hr, e3⟩ := Option.map_eq_some_iff.mp e2
  subst e3
  exact ⟨H0, Hs, ρ, d, st, hd, fun v Hs1 H1 g1 r1 => ⟨H0, Hs1, ρ, r, st.grow g1, hr, fun vs Hs2 H2 g2 r2 => k _ Hs2 H2 (g1.trans g2) (.cons (r1.mono g2.s) r2)⟩⟩)⟩
end
/-! ### setup -/
abbrev ps_setup : List Str := ["week", "people", "schedules", "policies", "windows", "routes", "holdbacks", "groups", "replicas", "pause", "down", "store", "lookback"]
abbrev ks_setup : List Str := ["week", "people", "schedules", "policies", "windows", "routes", "holdbacks", "groups", "replicas", "pause", "down", "lookback"]
theorem args_setup : ∃ p0 p1 p2 p3 p4 p5 p6 p7 p8 p9 p10 p11 p12 kd, defArgs (topS 62) = ⟨[], [], none, [⟨"week", none, p0⟩, ⟨"people", none, p1⟩, ⟨"schedules", none, p2⟩, ⟨"policies", none, p3⟩, ⟨"windows", none, p4⟩, ⟨"routes", none, p5⟩, ⟨"holdbacks", none, p6⟩, ⟨"groups", none, p7⟩, ⟨"replicas", none, p8⟩, ⟨"pause", none, p9⟩, ⟨"down", none, p10⟩, ⟨"store", none, p11⟩, ⟨"lookback", none, p12⟩], kd, none, []⟩ :=
  ⟨_, _, _, _, _, _, _, _, _, _, _, _, _, _, rfl⟩
/-- the default of store put in its place -/
def putS {α : Type} (_ mz zs : List α) : List α := zs.take 11 ++ (mz ++ zs.drop 11)
theorem names_ne : (["week", "people", "schedules", "policies", "windows", "routes", "holdbacks", "groups", "replicas", "pause", "down", "store", "lookback"] : List Str).Pairwise (fun a b => (a == b) = false ∧ (b == a) = false) := by decide +kernel
section
variable {P : Program} {w : World} {K : PySem.W.Frag} {mg : Str → Option Value} {base : Heap} {C : Addr} {k : Nat}
theorem binds_setup {f aT : Addr} {fd : FuncData} (F : FunD K "setup" "setup" (defArgs (topS 62)) (defBody (topS 62)) (defScope (topS 62)) [] [("store", .ref aT)] f fd) :
    ∃ mv : List Value, KBn K fd ps_setup 0 ks_setup (fun us ws => putS us mv ws) (fun vs zs => putS vs [.ref aT] zs) := by
  refine F.kbinds0 0 ks_setup [("store", .ref aT)] putS (by simp) (fun q h => h) ?_ ?_
  · exact fun _ r2 r3 => (r3.take 11).append (r2.append (r3.drop 11))
  · intro D doc pm an cdv ct us mv ws h1 h2 h3
    obtain ⟨p0, p1, p2, p3, p4, p5, p6, p7, p8, p9, p10, p11, p12, kd, e⟩ := args_setup
    rw [e]
    match us, mv, ws, h1, h2, h3 with
    | [], [m], [a0, a1, a2, a3, a4, a5, a6, a7, a8, a9, a10, a11], _, _, _ =>
      exact kw_all names_ne _ _ _ _ _ _ _ _ _ _ _ _ _ _ _ _ _ _ _ _ _ _ _ _ _ _ _ _ _ _ _ _ _ _ _
theorem scSetup : FnScope N_setup ps_setup (defScope (topS 62)) := ⟨rfl, rfl, rfl, by decide +kernel, rfl, by decide +kernel, by decide +kernel⟩
theorem ok_setup {f aT : Addr} {fd : FuncData} (F : FunD K "setup" "setup" (defArgs (topS 62)) (defBody (topS 62)) (defScope (topS 62)) [] [("store", .ref aT)] f fd) (B : Base1 P w K mg base C fldG conG) (Tb : Table P w K mg base C k T_setup.fns) : FnOk P w K mg base CX0 (k + 1) f fd ps_setup (spF K C 13 s_setup) :=
  def_ok F scSetup B Tb rfl c_setup
theorem scLSetup : FnScope N__law_setup N__law_setup (defScope (topS 108)) := ⟨rfl, rfl, rfl, by decide +kernel, rfl, by decide +kernel, by decide +kernel⟩
theorem put_is {ds : List D} (h : ds.length = 12) : put_store ds = putS [] [.tup [.int 0, .int 10, .int 2, .int 0]] ds := by
  match ds, h with
  | [a0, a1, a2, a3, a4, a5, a6, a7, a8, a9, a10, a11], _ => rfl
theorem putS_reps {Hs : Hp} {m : V} {dm : D} {zs : List V} {ds : List D} (hm : Rep K C Hs m dm) (r : Reps K C Hs zs ds) : Reps K C Hs (putS [] [m] zs) (putS [] [dm] ds) := (r.take 11).append (.append (.cons hm .nil) (r.drop 11))
theorem acons_len {f : SE} {fs : SA} {n : Nat} (h : ∀ ρ ds, fs ρ = some ds → ds.length = n) : ∀ ρ ds, aCons f fs ρ = some ds → ds.length = n + 1 := fun ρ ds q => by
  obtain ⟨d, hd, e2⟩ := bind_some q
  obtain ⟨r, hr, e3⟩ := Option.map_eq_some_iff.mp e2
  subst e3
  rw [List.length_cons, h ρ r hr]
theorem anil_len : ∀ ρ ds, aNil ρ = some ds → ds.length = 0 := fun ρ ds q => by
  cases q
  rfl
theorem a_setup_len {ρ : Env} {ds : List D} (h : a__law_setup ρ = some ds) : ds.length = 12 :=
  acons_len (acons_len (acons_len (acons_len (acons_len (acons_len (acons_len (acons_len (acons_len (acons_len (acons_len (acons_len anil_len))))))))))) ρ ds h
theorem ok_lsetup {f fS aT : Addr} {fd fdS : FuncData} (F : FunD K "_law_setup" "_law_setup" (defArgs (topS 108)) (defBody (topS 108)) (defScope (topS 108)) [] [] f fd) (B : Base1 P w K mg base C fldG conG)
    (FS : FunD K "setup" "setup" (defArgs (topS 62)) (defBody (topS 62)) (defScope (topS 62)) [] [("store", .ref aT)] fS fdS) (gS : mg "setup" = some (.ref fS)) (hT : ∀ H, SqT K H aT [.int 0, .int 10, .int 2, .int 0]) (GS : FnOk P w K mg base CX0 k fS fdS ps_setup (spF K C 13 s_setup)) :
    FnOk P w K mg base CX0 (k + 1) f fd N__law_setup (spF K C 9 s__law_setup) := by
  obtain ⟨mv, hb⟩ := binds_setup FS
  refine F.ok scLSetup (fun vs H Q E q => ?_) (fun cdv A outer s0 H vs Q E hr q => ?_)
  · obtain ⟨Hs, ds, d, sub, r, hl, _⟩ := q
    rw [r.length, hl]
    rfl
  · have G := good_of (CX := CX0) (T := T__law_setup) (N := N__law_setup) (A := A) (outer := outer) (s := s0) (H := H) (E := E) (k := k) B Table.nil rfl scLSetup.nd hr
    have se := fun {e f} (q : (rdN T__law_setup 5).e (defScope (topS 108)) e = some f) => (rdN_ok (T := T__law_setup) (Cl := C) (k := k) 5 true _ _ G).1 e f q
    refine ⟨tRet (tCallN 0 12 (spF K C 13 s_setup) (fun vs zs => putS vs [.ref aT] zs) E (tNil) (tA K C a__law_setup)), PSs.nox (pss_one (ps_ret (pe_callN0 (ks := ks_setup) GS hr rfl gS FS.kp hb pass0 ?_))), ?_⟩
    · exact k_cons (se (by kernel_rfl)) (k_cons (se (by kernel_rfl)) (k_cons (se (by kernel_rfl)) (k_cons (se (by kernel_rfl)) (k_cons (se (by kernel_rfl)) (k_cons (se (by kernel_rfl)) (k_cons (se (by kernel_rfl)) (k_cons (se (by kernel_rfl)) (k_cons (se (by kernel_rfl)) (k_cons (se (by kernel_rfl)) (k_cons (se (by kernel_rfl)) (k_cons (se (by kernel_rfl)) k_nil)))))))))))
    · obtain ⟨Hs, ds, d, sub, r, hl, e, kk⟩ := q
      have e1 : finD (((a__law_setup (entry 9 ds)).bind fun ds => s_setup (put_store ds)).map Out.rt) = some d := by
        have e0 : (if ds.length = 9 then finD (((a__law_setup (entry 9 ds)).bind fun ds => s_setup (put_store ds)).map Out.rt) else none) = some d := e
        rw [if_pos hl] at e0
        exact e0
      cases ha : a__law_setup (entry 9 ds) with
      | none =>
        rw [ha] at e1
        cases e1
      | some as =>
        rw [ha] at e1
        have e2 : finD ((s_setup (put_store as)).map Out.rt) = some d := e1
        cases hs : s_setup (put_store as) with
        | none =>
          rw [hs] at e2
          cases e2
        | some d' =>
          rw [hs] at e2
          cases e2
          have hl2 := a_setup_len ha
          refine ⟨H, Hs, _, as, start_ok (N := N__law_setup) sub r, ha, fun zs Hs1 H1 g1 r1 => ⟨rfl, by rw [r1.length, hl2], Hs1, _, d, g1.sub, putS_reps (.tup (hT _) (.cons (.int 0) (.cons (.int 10) (.cons (.int 2) (.cons (.int 0) .nil))))) r1, ?_, ?_, fun v Hs' H' g2 r2 => kk v Hs' H' (g1.trans g2) r2⟩⟩
          · match as, hl2 with
            | [a0, a1, a2, a3, a4, a5, a6, a7, a8, a9, a10, a11], _ => rfl
          · rw [← put_is hl2]
            exact hs
end
end WF
end
/-! text WH5 -/
section
set_option Elab.async false
set_option linter.all false
set_option maxRecDepth 100000
set_option maxHeartbeats 4000000
/-! Defs that may raise PeriodTooLong: _horizon, sure_limit. -/
namespace WF
open PySem PySem.Spec PyProof.Rows L2
/-- PeriodTooLong, of the class at CE -/
structure ExT (K : PySem.W.Frag) (mg : Str → Option Value) (CE : Addr) : Prop where
  g : mg "PeriodTooLong" = some (.ref CE)
  kp : PySem.W.keepIn K (.ref CE) = true
  ex : PySem.W.excIn K CE [.type "ValueError", .type "Exception", .type "BaseException", .type "object"] "ValueError.__new__" = true
  sub : PySem.W.subIn K (.ref CE) (.type "BaseException") = some true
  ty : PySem.W.typeIn K (.ref CE) = some (.type "type")
  exm : PySem.W.exmOne K (.ref CE) (.ref CE) = some true
/-- X() of an own exception class without own __init__ -/
theorem pmk_own0 {X : Cx} {C : Addr} {bmB : List Value} {B newId initId : String} {x : Str} {p pos : Pos} (F : ExcBaseFacts B newId initId bmB) (q : PySem.W.excIn X.K C bmB newId = true) (gC : X.mg x = some (.ref C)) (kC : PySem.W.keepIn X.K (.ref C) = true) (r : Raises X (.ref C)) (hg : Gl X x)
    (hdb : (x == ("__debug__" : Str)) = false := by decide) : PMk X (.Call (.Name x p) [] [] pos) (fun _ H Q => Q (.ref C) none H) := by
  intro pins s σ H Q I h
  refine wpAny_Call_Name_kw (ld_glob I hg gC ?_ hdb)
  refine PySem.W.callWith_K0 I.kIn kC ?_
  show wpAny _ _ (call (.ref C) []) _ _ _
  obtain ⟨bm, N, nm, qn, bs, hdct, sn, sub, ab, col, dd, k0, k1, k2, k3, k5, mN, hC, hN, hni, T⟩ := exc_obj I.kIn q
  refine wpAny_call_exc_subT F T hC hN hni (fun h' e hm => ?_) (Nat.zero_le _)
  exact mk_of I hm r h (I.hok.gone hm.new)
/-- a def that gives a value (some d), or raises PeriodTooLong (none) -/
def spX (K : PySem.W.Frag) (C CE : Addr) (n : Nat) (s : List D → Option (Option D)) : Sp := fun vs H Q E => ∃ Hs ds o, Same Hs H ∧ Reps K C Hs vs ds ∧ ds.length = n ∧ s ds = some o ∧
  (∀ d, o = some d → ∀ v Hs' H', Grow Hs H Hs' H' → Rep K C Hs' v d → Q v H') ∧ (o = none → ∀ Hs' H', Grow Hs H Hs' H' → E (.ref CE) none H')
section
variable {P : Program} {w : World} {K : PySem.W.Frag} {mg : Str → Option Value} {base : Heap} {C CE : Addr} {k : Nat}
theorem scHor : FnScope N__horizon ["setup", "settings", "time"] (defScope (topS 86)) := ⟨rfl, rfl, rfl, by decide +kernel, rfl, by decide +kernel, by decide +kernel⟩
/-- if c: raise PeriodTooLong(); return e -/
def tHor (K : PySem.W.Frag) (C CE : Addr) (E : XK) : TS := tSeq (tIfS (tT K C (tCmp .gt (eVar 3) (eCon (.int 2000)))) (fun _ σ H => E (.ref CE) none H) tNext) (tRet (tE K C (eTup (aCons (eVar 3) (aCons (eVar 4) aNil)))))
theorem ok_horizon {f : Addr} {fd : FuncData} (F : FunD K "_horizon" "_horizon" (defArgs (topS 86)) (defBody (topS 86)) (defScope (topS 86)) [] [] f fd) (B : Base1 P w K mg base C fldG conG) (Tb : Table P w K mg base C k T__horizon.fns) (X : ExT K mg CE) :
    FnOk P w K mg base (L2.CX P w) (k + 1) f fd ["setup", "settings", "time"] (spX K C CE 3 s__horizon) := by
  refine F.ok scHor (fun vs H Q E q => ?_) (fun cdv A outer s0 H vs Q E hr q => ?_)
  · obtain ⟨Hs, ds, d, sub, r, hl, _⟩ := q
    rw [r.length, hl]
    rfl
  · have G := good_of (CX := L2.CX P w) (T := T__horizon) (N := N__horizon) (A := A) (outer := outer) (s := s0) (H := H) (E := E) (k := k) B Tb rfl scHor.nd hr
    refine ⟨tThen K C b__horizon_0 (tHor K C CE E), ?_, ?_⟩
    · have e : defBody (topS 86) = (defBody (topS 86)).take 4 ++ (defBody (topS 86)).drop 4 := (List.take_append_drop 4 _).symm
      rw [e]
      refine cBlock_thenX G c__horizon_0 ?_
      refine pss_cons (ps_if (cTx G 6 (by kernel_rfl)) (pss_one (ps_raise rfl (takes_of rfl rfl rfl rfl) (pmk_own0 PySem.F.excBase_ValueError X.ex X.g X.kp (raises_own X.sub X.ty) (by exact rfl)))) pss_nil)
        (pss_one (ps_ret (cEx G 6 (by kernel_rfl))))
    · obtain ⟨Hs, ds, o, sub, r, hl, e, k1, k2⟩ := q
      unfold s__horizon at e
      rw [if_pos hl] at e
      obtain ⟨o1, e1, e2⟩ := bind_some e
      refine ⟨H, Hs, Hs, _, o1, .refl sub, start_ok (N := N__horizon) sub r, e1, ?_⟩
      cases o1 with
      | rt d =>
        cases e2
        exact k1 d rfl
      | nx ρ =>
        obtain ⟨c, e3, e4⟩ := bind_some e2
        intro σ' Hs' H' g st
        refine ⟨H, Hs', ρ, c, st, e3, fun Hs1 H1 g1 => ?_⟩
        cases c with
        | true =>
          cases e4
          exact iteT (k2 rfl Hs1 H1 (g.trans g1))
        | false =>
          obtain ⟨d, e5, e6⟩ := Option.map_eq_some_iff.mp e4
          subst e6
          exact iteF ⟨H, Hs1, ρ, d, st.grow g1, e5, fun v Hs2 H2 g2 r2 => k1 d rfl v Hs2 H2 ((g.trans g1).trans g2) r2⟩
theorem scSure : FnScope N_sure_limit ["setup", "labels", "time"] (defScope (topS 87)) := ⟨rfl, rfl, rfl, by decide +kernel, rfl, by decide +kernel, by decide +kernel⟩
theorem ok_sure {f fH : Addr} {fd fdH : FuncData} (F : FunD K "sure_limit" "sure_limit" (defArgs (topS 87)) (defBody (topS 87)) (defScope (topS 87)) [] [] f fd) (B : Base1 P w K mg base C fldG conG) (Tb : Table P w K mg base C k T_sure_limit.fns) (X : ExT K mg CE)
    (GH : FnOk P w K mg base (L2.CX P w) k fH fdH ["setup", "settings", "time"] (spX K C CE 3 s__horizon)) (gH : mg "_horizon" = some (.ref fH)) (kH : PySem.W.keepIn K (.ref fH) = true) (bH : Binds K fdH ["setup", "settings", "time"] []) :
    FnOk P w K mg base (L2.CX P w) (k + 1) f fd ["setup", "labels", "time"] (spX K C CE 3 s_sure_limit) := by
  refine F.ok scSure (fun vs H Q E q => ?_) (fun cdv A outer s0 H vs Q E hr q => ?_)
  · obtain ⟨Hs, ds, d, sub, r, hl, _⟩ := q
    rw [r.length, hl]
    rfl
  · have G := good_of (CX := L2.CX P w) (T := T_sure_limit) (N := N_sure_limit) (A := A) (outer := outer) (s := s0) (H := H) (E := E) (k := k) B Tb rfl scSure.nd hr
    have se := fun {e f} (q : (rdN T_sure_limit 5).e (defScope (topS 87)) e = some f) => cEx G 5 q
    refine ⟨tThen K C b_sure_limit_0 (tSeq (tAsg (tCallS (spX K C CE 3 s__horizon) (WE fun cls d _ H => E cls d H) (tA K C a_horizon)) (L2.gTup K 2 (rNames [4, 5]))) (tS K C b_sure_limit_1)), ?_, ?_⟩
    · have e : defBody (topS 87) = (defBody (topS 87)).take 1 ++ ((defBody (topS 87)).getD 1 (.Pass ⟨0, 0, 0, 0⟩) :: (defBody (topS 87)).drop 2) := rfl
      rw [e]
      refine cBlock_thenX G c_sure_limit_0 (pss_cons ?_ (PSs.nox (cBlock_ok G c_sure_limit_1)))
      refine ps_asg (pe_callS GH hr (by exact rfl) gH kH bH (fun σ => passAt (takes_of rfl rfl rfl rfl) σ) ?_) (pg_tup rfl (gs_cons rfl (pg_name scSure.nd rfl (Or.inl rfl)) (gs_cons rfl (pg_name scSure.nd rfl (Or.inl rfl)) pgs_nil)))
      exact a_cons rfl (se (by kernel_rfl)) (a_cons rfl (se (by kernel_rfl)) (a_cons rfl (se (by kernel_rfl)) a_nil))
    · obtain ⟨Hs, ds, o, sub, r, hl, e, k1, k2⟩ := q
      unfold s_sure_limit at e
      rw [if_pos hl] at e
      obtain ⟨o1, e1, e2⟩ := bind_some e
      refine ⟨H, Hs, Hs, _, o1, .refl sub, start_ok (N := N_sure_limit) sub r, e1, ?_⟩
      cases o1 with
      | rt d =>
        cases e2
        exact k1 d rfl
      | nx ρ =>
        obtain ⟨as, e3, e4⟩ := bind_some e2
        obtain ⟨rr, e5, e6⟩ := bind_some e4
        intro σ' Hs' H' g st
        refine ⟨H, Hs', ρ, as, st, e3, fun vs2 Hs1 H1 g1 r1 => ⟨Hs1, as, rr, g1.sub, r1, acons_len (acons_len (acons_len anil_len)) ρ as e3, e5, fun d hd v Hs2 H2 g2 r2 => ?_, fun hn Hs2 H2 g2 => ?_⟩⟩
        · subst hd
          obtain ⟨ρ', e7, e8⟩ := bind_some e6
          obtain ⟨d2, e9, e10⟩ := Option.map_eq_some_iff.mp e8
          subst e10
          refine tup_tG (is := [4, 5]) rfl v σ' H2 _ ⟨H, Hs2, ρ, ρ', d, (st.grow g1).grow g2, r2, e7, fun σ3 st3 => ?_⟩
          cases ho : b_sure_limit_1 ρ' with
          | none =>
            rw [ho] at e9
            cases e9
          | some o2 =>
            rw [ho] at e9
            refine ⟨H, Hs, Hs2, ρ', o2, (g.trans g1).trans g2, st3, ho, ?_⟩
            cases o2 with
            | nx ρ2 =>
              cases e9
              exact fun σ4 Hs4 H4 g4 st4 => k1 .non rfl .non Hs4 H4 g4 .non
            | rt d3 =>
              cases e9
              exact fun v Hs4 H4 g4 r4 => k1 d2 rfl v Hs4 H4 g4 r4
        · subst hn
          cases e6
          exact k2 rfl Hs2 H2 ((g.trans g1).trans g2)
end
end WF
end
/-! text WH6 -/
section
set_option Elab.async false
set_option linter.all false
set_option maxRecDepth 100000
set_option maxHeartbeats 4000000
/-! sorted(..) of pairs of texts: a new list of the same pairs, in some order. -/
namespace WSrt
open PySem PyProof.Rows Srt
section
variable {prog : Program} {w : World} {A : Around} {E : Value → Shared → Prop} {s : Shared}
/-- v is a tuple of two texts in the heap -/
def IsPairT (h : Heap) (v : Value) (x y : Str) : Prop := ∃ a o t u n, v = .ref a ∧ h.get? a = some o ∧ o.cls = .type "tuple" ∧ o.data = .seq #[.str x t, .str y u] n
theorem IsPairT.keeps {h h' : Heap} {v : Value} {x y : Str} (p : IsPairT h v x y) (k : ∀ b o, h.get? b = some o → o.cls = .type "tuple" → h'.get? b = some o) : IsPairT h' v x y := by
  obtain ⟨a, o, t, u, n, e, ho, hc, hd⟩ := p
  exact ⟨a, o, t, u, n, e, k _ _ ho hc, hc, hd⟩
theorem pairT_tot {vs : List Value} (hp : ∀ v ∈ vs, ∃ x y, IsPairT s.heap v x y) : Tot prog w A s (tuples' true) (fun p => p.1 ∈ vs) := by
  intro p q hm hm'
  obtain ⟨x, y, a, o, t, u, n, e, ho, hc, hd⟩ := hp _ hm
  obtain ⟨x', y', a', o', t', u', n', e', ho', hc', hd'⟩ := hp _ hm'
  rw [e, e']
  refine ⟨if (x == x') = true then (if (y == y') = true then false else decide (y.cps.toList < y'.cps.toList)) else decide (x.cps.toList < x'.cps.toList), ?_⟩
  refine PySem.W.kat_lt ho hd ho' hd' ?_
  show PySem.W.KatLex prog w A true (decide (2 < 2)) _ [(.str x t, .str x' t'), (.str y u, .str y' u')] 0 s
  refine PySem.W.kat_cons (SeqAt.EqAt.str_str x t x' t' prog w _ _ ?_)
  refine PySem.W.kat_go (fun e1 => ?_) (fun e1 => ?_)
  · refine PySem.W.kat_yes (PySem.W.kat_cons (SeqAt.EqAt.str_str y u y' u' prog w _ _ ?_))
    refine PySem.W.kat_go (fun e2 => ?_) (fun e2 => ?_)
    · refine PySem.W.kat_yes (PySem.W.kat_nil ⟨rfl, ?_⟩)
      rw [if_pos e1, if_pos e2]
      rfl
    · refine PySem.W.kat_no (oneLt_any_str ⟨rfl, ?_⟩)
      rw [if_pos e1, e2, if_neg Bool.false_ne_true]
  · refine PySem.W.kat_no (oneLt_any_str ⟨rfl, ?_⟩)
    rw [e1, if_neg Bool.false_ne_true]
theorem firstsT_of {h : Heap} : ∀ {vs : List Value}, (∀ v ∈ vs, ∃ x y, IsPairT h v x y) → ∃ fs : List Value, PySem.W.KatTups h vs fs ∧ fs.length = vs.length ∧ ∀ f ∈ fs, ∃ x t, f = Value.str x t
  | [], _ => ⟨[], PySem.W.KatTups.nil, rfl, fun _ hm => by simp at hm⟩
  | v :: vs, hp => by
    obtain ⟨fs, h1, h2, h3⟩ := firstsT_of (vs := vs) fun v' hm => hp v' (List.mem_cons_of_mem _ hm)
    obtain ⟨x, y, a, o, t, u, n, e, ho, hc, hd⟩ := hp v (List.mem_cons_self ..)
    subst e
    refine ⟨.str x t :: fs, PySem.W.KatTups.cons ho hc hd rfl h1, by rw [List.length_cons, List.length_cons, h2], fun f hm => ?_⟩
    rcases List.mem_cons.mp hm with rfl | hm
    · exact ⟨x, t, rfl⟩
    · exact h3 f hm
theorem pairsT_sortable {a : Addr} {vs : List Value} (h0 : 0 < vs.length) (hp : ∀ v ∈ vs, ∃ x y, IsPairT s.heap v x y) (ha : ∀ o, s.heap.get? a = some o → o.cls ≠ .type "tuple") : Sortable prog w A s a vs := by
  intro h' keep
  have hp' : ∀ v ∈ vs, ∃ x y, IsPairT h' v x y := fun v hm => by
    obtain ⟨x, y, p⟩ := hp v hm
    exact ⟨x, y, p.keeps fun b o e c => keep b o (fun z => by subst z; exact ha o e c) e⟩
  obtain ⟨fs, h1, h2, h3⟩ := firstsT_of hp'
  refine ⟨tuples' true, fun Q E hq => ?_, pairT_tot hp'⟩
  refine PySem.W.kat_kind (T := .type "str") h1 (by omega) (fun f hm => ?_) (by rfl) ?_
  · obtain ⟨x, t, rfl⟩ := h3 f hm
    exact PySem.W.Looks.now
  · have e : (Value.type "str" != Value.type "tuple") = true := by first | decide +kernel | rfl | decide
    rw [e]
    exact hq
theorem sorted_pairsT {l : Addr} {vs : List Value} {Q : Value → Shared → Prop} (hl : s.heap.IsList l vs.toArray) (hz : vs.length ≤ sizeLine) (hp : ∀ v ∈ vs, ∃ x y, IsPairT s.heap v x y)
    (h : ∀ (h' : Heap) (d : Addr) (out : List Value), out.Perm vs → (∀ b o, s.heap.get? b = some o → h'.get? b = some o) → s.heap.objs.size ≤ d → (∃ n, h'.get? d = some (seqObj "list" out.toArray n)) → Q (.ref d) { s with heap := h' }) :
    wpAny (model prog w) A (call (.builtin "sorted") [.ref l]) Q E s := by
  refine sorted_any hl hz (fun h2 h₁ a ha k => ?_) fun out ho => ?_
  · refine pairsT_sortable (s := { s with heap := h₁ }) (by omega) (fun v hm => ?_) fun o e => ?_
    · obtain ⟨x, y, p⟩ := hp v hm
      exact ⟨x, y, p.keeps fun b o e _ => (k b o e).2⟩
    · have e' : some o = some (seqObj "list" vs.toArray 0) := e.symm.trans ha
      cases e'
      intro c
      exact absurd (Value.type.inj c) (by decide)
  · exact h _ _ out ho (fun b o e => sortedAll_old e) (Nat.le_succ _) (sortedAll_at s.heap vs out.toArray)
end
end WSrt
namespace WF
open PySem PySem.Spec PyProof.Rows L2
section
variable {X : Cx}
/-- sorted(xs), xs a list of pairs of texts -/
def rSortT (K : PySem.W.Frag) : List V → Hp → VK → Prop := fun vs H Q => ∃ a xs, vs = [V.ref a] ∧ SqL K H a xs ∧ (∀ x ∈ xs, ∃ t i j, x = V.ref t ∧ SqT K H t [.str i, .str j]) ∧
  ∀ ys p, ys.Perm xs → H p = none → Q (.ref p) (upd H p (.lst ys))
theorem cr_sortT : CallR X (.builtin "sorted") (rSortT X.K) := by
  intro pins s σ H vs us Q I r h
  obtain ⟨a, xs, rfl, hs, hx, q⟩ := h
  obtain ⟨its, rv, hl, hz⟩ := I.list hs
  obtain ⟨u, rfl, ru⟩ := vals1 r
  obtain rfl : u = Value.ref a := ru
  obtain ⟨e1, e2⟩ := refs_back rv fun x m => by
    obtain ⟨t, _, _, e, _⟩ := hx x m
    exact ⟨t, e⟩
  refine WSrt.sorted_pairsT hl.isList (by rw [← rv.length]; exact hz) (fun v hv => ?_) fun h' d out hp k hd hn => ?_
  · obtain ⟨t, rfl⟩ := e2 v hv
    have hm : V.ref t ∈ xs := by rw [e1]; exact List.mem_map.mpr ⟨_, hv, rfl⟩
    obtain ⟨t', i, j, e, ht⟩ := hx _ hm
    cases e
    obtain ⟨its2, r2, hT, _⟩ := I.tuple ht
    obtain ⟨o, ho, hc, n, hd⟩ := hT
    obtain ⟨u1, u2, rfl, ri, rj⟩ := vals2 r2
    obtain ⟨t1, rfl⟩ := ri
    obtain ⟨t2, rfl⟩ := rj
    exact ⟨i, j, t, o, t1, t2, n, rfl, ho, hc, hd⟩
  · have h3 : ∀ u ∈ out, ∃ a, u = Value.ref a := fun u hu => e2 u (hp.mem_iff.mp hu)
    obtain ⟨n, hn⟩ := hn
    have hp2 : (out.map backV).Perm xs := by
      rw [e1]
      exact hp.map backV
    refine ⟨.ref d, upd H d (.lst (out.map backV)), I.laid (t' := s.toks) k hd ⟨?_, out, n, vals_back h3, hn⟩, rfl, q _ d hp2 (I.hok.fresh hd)⟩
    rw [List.length_map, hp.length_eq, ← rv.length]
    exact hz
end
end WF
end
/-! text WH7 -/
section
set_option Elab.async false
set_option linter.all false
set_option maxRecDepth 100000
set_option maxHeartbeats 4000000
/-! _law_labels by hand. -/
namespace WF
open PySem PySem.Spec PyProof.Rows L2
section
variable {P : Program} {w : World} {K : PySem.W.Frag} {mg : Str → Option Value} {base : Heap} {C : Addr} {k : Nat}
/-- labels: some pairs of texts -/
def spLab (K : PySem.W.Frag) (C : Addr) : Sp := fun vs H Q _ => ∃ Hs ds ps, Same Hs H ∧ Reps K C Hs vs ds ∧ r__law_labels ds ps ∧ ∀ qs v Hs' H', Grow Hs H Hs' H' → Rep K C Hs' v (labD qs) → Q v H'
theorem scLab : FnScope N__law_labels ["_law_draws_here", "_law_names", "_law_worths_here"] (defScope (topS 100)) := ⟨rfl, rfl, rfl, by decide +kernel, rfl, by decide +kernel, by decide +kernel⟩
theorem reps_pairs {Hs : Hp} : ∀ {xs : List V} {ps : List (Str × Str)}, Reps K C Hs xs (ps.map pairD) → ∀ x ∈ xs, ∃ t i j, x = V.ref t ∧ SqT K Hs t [.str i, .str j]
  | [], _, _, x, hx => by cases hx
  | y :: xs, [], r, x, hx => by cases r
  | y :: xs, p :: ps, r, x, hx => by
    cases r with
    | cons h t =>
      rcases List.mem_cons.mp hx with rfl | hx
      · cases h with
        | tup hs rr =>
          cases rr with
          | cons h1 r2 =>
            cases h1
            cases r2 with
            | cons h3 r3 =>
              cases h3
              cases r3
              exact ⟨_, _, _, rfl, hs⟩
      · exact reps_pairs t x hx
theorem pairs_reps {Hs : Hp} : ∀ {xs : List V}, (∀ x ∈ xs, ∃ t i j, x = V.ref t ∧ SqT K Hs t [.str i, .str j]) → ∃ qs : List (Str × Str), Reps K C Hs xs (qs.map pairD)
  | [], _ => ⟨[], .nil⟩
  | y :: xs, h => by
    obtain ⟨qs, r⟩ := pairs_reps (xs := xs) fun x hx => h x (List.mem_cons_of_mem _ hx)
    obtain ⟨t, i, j, rfl, hs⟩ := h y (List.mem_cons_self ..)
    exact ⟨(i, j) :: qs, .cons (.tup hs (.cons (.str i) (.cons (.str j) .nil))) r⟩
theorem ok_labels {f : Addr} {fd : FuncData} (F : FunD K "_law_labels" "_law_labels" (defArgs (topS 100)) (defBody (topS 100)) (defScope (topS 100)) [] [] f fd) (B : Base1 P w K mg base C fldG conG) (hs : mg "sorted" = none) :
    FnOk P w K mg base CX0 (k + 1) f fd ["_law_draws_here", "_law_names", "_law_worths_here"] (spLab K C) := by
  refine F.ok scLab (fun vs H Q E q => ?_) (fun cdv A outer s0 H vs Q E hr q => ?_)
  · obtain ⟨Hs, ds, ps, sub, r, ⟨ρ, hl, _⟩, _⟩ := q
    rw [r.length, hl]
    rfl
  · have G := good_of (CX := CX0) (T := T__law_labels) (N := N__law_labels) (A := A) (outer := outer) (s := s0) (H := H) (E := E) (k := k) B Table.nil rfl scLab.nd hr
    refine ⟨tThen K C b__law_labels_0 (tRet (tCB (rDB C K (bltD .tuple)) (tCons (tCB (rSortT K) (tCons (tVar 3) tNil)) tNil))), ?_, ?_⟩
    · have e : defBody (topS 100) = (defBody (topS 100)).take 3 ++ (defBody (topS 100)).drop 3 := (List.take_append_drop 3 _).symm
      rw [e]
      refine cBlock_thenX G c__law_labels_0 (PSs.nox (pss_one (ps_ret (pe_callTy (crd_tuple C) (gl_ok G (by kernel_rfl)).1 (G.blt "tuple" (by decide +kernel)) boot_tuple (pa_cons (pe_callB cr_sortT (gl_ok G (by kernel_rfl)).1 hs boot_sorted (pa_cons (slot_var G (by kernel_rfl)) pa_nil)) pa_nil)))))
    · obtain ⟨Hs, ds, ps, sub, r, ⟨ρ, hl, e, h3⟩, kk⟩ := q
      refine ⟨H, Hs, Hs, _, .nx ρ, .refl sub, start_ok (N := N__law_labels) sub r, e, fun σ' Hs' H' g st => ?_⟩
      obtain ⟨a, xs, h1, h2, h3', h4, h5⟩ := st.own 3 _ h3
      refine ⟨.ref a, h1, a, xs, rfl, SqL.of h4, fun x hx => ?_, fun ys p pm hp => ?_⟩
      · obtain ⟨t, i, j, ex, ht⟩ := reps_pairs h5 x hx
        exact ⟨t, i, j, ex, sqt_mono st.sub ht⟩
      · obtain ⟨qs, rq⟩ := pairs_reps (C := C) (Hs := Hs') (xs := ys) fun x hx => reps_pairs h5 x (pm.mem_iff.mp hx)
        have g2 := Grow.new (o := .lst ys) st.sub hp
        exact ⟨upd Hs' p (.lst ys), [.lst (qs.map pairD)], _, g2.sub, .cons (.lst upd_same (rq.mono g2.s)) .nil, rfl, fun v Hs3 H3 g3 r3 => kk qs v Hs3 H3 ((g.trans g2).trans g3) r3⟩
end
end WF
end
/-! text WH8 -/
section
set_option Elab.async false
set_option linter.all false
set_option maxRecDepth 100000
set_option maxHeartbeats 4000000
/-! _law_world, _law_rich by hand. -/
namespace WF
open PySem PySem.Spec PyProof.Rows L2
theorem Reps.set0 {K : PySem.W.Frag} {C : Addr} {H : Hp} {v : V} {d : D} {vs : List V} {ds : List D} (h : Rep K C H v d) (r : Reps K C H vs ds) : Reps K C H (vs.set 0 v) (ds.set 0 d) := by
  cases r with
  | nil => exact .nil
  | cons a t => exact .cons h t
section
variable {K : PySem.W.Frag} {C : Addr} {H0 Hs H Hs' H' : Hp} {σ : L2.St} {ρ : Env}
theorem StOk.put0 (st : StOk K C H0 σ Hs H ρ) {i : Nat} {ds : List D} {v : V} {d : D} (h : ρ[i]? = some (Slot.own ds)) (r : Rep K C Hs v d) :
    ∃ a xs, σ[i]? = some (some (V.ref a)) ∧ H0 a = none ∧ Hs a = none ∧ H a = some (.lst xs) ∧ xs.length = ds.length ∧ StOk K C H0 σ Hs (upd H a (.lst (xs.set 0 v))) (ρ.set i (.own (ds.set 0 d))) := by
  obtain ⟨a, xs, h1, h2, h3, h4, h5⟩ := st.own i ds h
  have other : ∀ j es b, i ≠ j → ρ[j]? = some (Slot.own es) → σ[j]? = some (some (V.ref b)) → b ≠ a := fun j es b ne h6 h7 z => by
    subst z
    exact ne (st.dist i j ds es b h h6 h1 h7)
  refine ⟨a, xs, h1, h2, h3, h4, h5.length, ⟨fun b o q => ?_, by rw [List.length_set]; exact st.len, fun j e q => ?_, fun j es q => ?_, fun j k ds' es b q1 q2 q3 q4 => ?_⟩⟩
  · rw [upd_ne (ne_of_none q h3)]
    exact st.sub _ _ q
  · rcases set_got q with ⟨rfl, q, hl⟩ | ⟨ne, q⟩
    · cases q
    · exact st.val j e q
  · rcases set_got q with ⟨rfl, q, hl⟩ | ⟨ne, q⟩
    · cases q
      exact ⟨a, _, h1, h2, h3, upd_same, h5.set0 r⟩
    · obtain ⟨b, ys, k1, k2, k3, k4, k5⟩ := st.own j es q
      exact ⟨b, ys, k1, k2, k3, by rw [upd_ne (other j es b ne q k1)]; exact k4, k5⟩
  · rcases set_got q1 with ⟨rfl, q1, hl⟩ | ⟨ne, q1⟩
    · rcases set_got q2 with ⟨rfl, q2, hl⟩ | ⟨ne', q2⟩
      · rfl
      · rw [h1] at q3
        cases q3
        exact absurd rfl (other k es a ne' q2 q4)
    · rcases set_got q2 with ⟨rfl, q2, hl⟩ | ⟨ne', q2⟩
      · rw [h1] at q4
        cases q4
        exact absurd rfl (other j ds' a ne q1 q3)
      · exact st.dist j k ds' es b q1 q2 q3 q4
/-- a new list that a call gave becomes one's own -/
theorem StOk.take_own (st : StOk K C H0 σ Hs H ρ) (g : Grow Hs H Hs' H') (e0 : Same H0 H) {i : Nat} {p : Addr} {xs : List V} {ds : List D} (hp : H p = none) (hs : Hs' p = none) (hx : H' p = some (.lst xs)) (r : Reps K C Hs' xs ds) :
    StOk K C H0 (σ.set i (some (V.ref p))) Hs' H' (ρ.set i (.own ds)) := by
  have st2 := st.grow g
  have other : ∀ j es a, ρ[j]? = some (Slot.own es) → σ[j]? = some (some (V.ref a)) → a ≠ p := fun j es a h1 h2 z => by
    obtain ⟨b, ys, h3, _, _, h4, _⟩ := st.own j es h1
    rw [h2] at h3
    cases h3
    rw [z, hp] at h4
    cases h4
  refine ⟨st2.sub, by rw [List.length_set, List.length_set]; exact st.len, fun j e h => ?_, fun j es h => ?_, fun j k ds' es a h1 h2 h3 h4 => ?_⟩
  · rcases set_got h with ⟨rfl, q, hl⟩ | ⟨ne, q⟩
    · cases q
    · obtain ⟨w, h1, h2⟩ := st2.val j e q
      exact ⟨w, by rw [List.getElem?_set_ne ne]; exact h1, h2⟩
  · rcases set_got h with ⟨rfl, q, hl⟩ | ⟨ne, q⟩
    · cases q
      exact ⟨p, xs, by rw [List.getElem?_set_self (by rw [st.len]; exact hl)], same_back e0 hp, hs, hx, r⟩
    · obtain ⟨a, ys, h1, h2⟩ := st2.own j es q
      exact ⟨a, ys, by rw [List.getElem?_set_ne ne]; exact h1, h2⟩
  · rcases set_got h1 with ⟨rfl, q, hl⟩ | ⟨ne, q⟩
    · rcases set_got h2 with ⟨rfl, q', hl⟩ | ⟨ne', q'⟩
      · rfl
      · rw [List.getElem?_set_self (by rw [st.len]; exact hl)] at h3
        cases h3
        rw [List.getElem?_set_ne ne'] at h4
        exact absurd rfl (other k es p q' h4)
    · rw [List.getElem?_set_ne ne] at h3
      rcases set_got h2 with ⟨rfl, q', hl⟩ | ⟨ne', q'⟩
      · rw [List.getElem?_set_self (by rw [st.len]; exact hl)] at h4
        cases h4
        exact absurd rfl (other j ds' p q h3)
      · rw [List.getElem?_set_ne ne'] at h4
        exact st.dist j k ds' es a q q' h3 h4
end
section
variable {X : Cx} {C : Addr} {e : Expr} {f : SE} {pos spos p2 p3 : Pos}
/-- x[0] = e, x a list of one's own -/
theorem s_put0 {i n : Nat} {x : Str} (hv : PE X (.Name x p2) (tVar i)) (hn : noComp e = true) (ht : noTup e = true) (he : OkE X C e f) : OkS X C (.Assign [.Subscript (.Name x p2) (.Constant (.int 0) n p3) spos] e pos) (sPut0 i f) := by
  have sw : swapsWithSole [.Subscript (.Name x p2) (.Constant (.int 0) n p3) spos] e pos.line X.env = pure false := by
    unfold swapsWithSole
    exact swaps_no hn
  have ss : swappedStores [.Subscript (.Name x p2) (.Constant (.int 0) n p3) spos] e X.env = pure none := by cases e <;> first | rfl | cases ht
  refine PS.imp (ps_asg he (pg_sub hv pe_int set_list) sw ss rfl) fun D σ H q => ?_
  obtain ⟨H0, Hs0, Hs, ρ, o, g0, st, e, k⟩ := q
  obtain ⟨d, hd, e2⟩ := bind_some e
  cases hs : ρ[i]? with
  | none =>
    rw [hs] at e2
    cases e2
  | some sl =>
    rw [hs] at e2
    cases sl with
    | no => cases e2
    | val d => cases e2
    | own ds =>
      have e3 : (if 0 < ds.length then some (Out.nx (ρ.set i (.own (ds.set 0 d)))) else none) = some o := e2
      by_cases cb : 0 < ds.length
      · rw [if_pos cb] at e3
        cases e3
        refine ⟨H0, Hs, ρ, d, st, hd, fun v Hs1 H1 g1 r1 => ?_⟩
        obtain ⟨a, xs, k1, k2, k3, k4, k5, st'⟩ := (st.grow g1).put0 hs r1
        have g2 := g0.trans g1
        refine ⟨.ref a, k1, a, xs, 0, 0, rfl, rfl, k4, ?_, ?_⟩
        · unfold ixN
          have : 0 < xs.length := by omega
          simp [this]
        · exact k σ Hs1 _ ⟨g2.s, fun b u q => by rw [upd_ne (ne_of_none q k2)]; exact g2.h _ _ q, fun b u q => by rw [upd_ne (ne_of_none q k3)]; exact g2.sub _ _ q, g2.fresh⟩ st'
      · rw [if_neg cb] at e3
        cases e3
end
end WF
end
/-! text WH9 -/
section
set_option Elab.async false
set_option linter.all false
set_option maxRecDepth 100000
set_option maxHeartbeats 4000000
/-! _law_world, _law_rich by hand. -/
namespace WF
open PySem PySem.Spec PyProof.Rows L2
/-- a new list of three -/
def spW (K : PySem.W.Frag) (C : Addr) : Sp := fun vs H Q _ => ∃ Hs ds es, Same Hs H ∧ Reps K C Hs vs ds ∧ s__law_world ds = some es ∧
  ∀ p xs Hs' H', Grow Hs H Hs' H' → H p = none → Hs' p = none → H' p = some (.lst xs) → Reps K C Hs' xs es → Q (.ref p) H'
section
variable {P : Program} {w : World} {K : PySem.W.Frag} {mg : Str → Option Value} {base : Heap} {C : Addr} {k : Nat}
theorem ss_then {X : Cx} {T : Tx} {k : Nat} {sc : Scope} {sts tail : List Stmt} {s t : SS} (G : Good T C k true sc X) (h : cBlock T sc sts = some s) (ht : OkSs X C tail t) : OkSs X C (sts ++ tail) (sSeq s t) :=
  PSs.imp (cBlock_then G h ht) fun D σ H q => by
    obtain ⟨H0, Hs0, Hs, ρ, o, g0, st', e, kk⟩ := q
    obtain ⟨o1, e1, e2⟩ := bind_some e
    refine ⟨H0, Hs0, Hs, ρ, o1, g0, st', e1, ?_⟩
    cases o1 with
    | nx ρ1 => exact fun σ' Hs' H' g1 st1 => ⟨H0, Hs0, Hs', ρ1, o, g1, st1, e2, kk⟩
    | rt d =>
      cases e2
      exact kk
theorem world_len {ds : List D} {es : List D} (h : s__law_world ds = some es) : ds.length = 1 := by
  unfold s__law_world at h
  by_cases c : ds.length = 1
  · exact c
  · rw [if_neg c] at h
    cases h
theorem scWorld : FnScope N__law_world ["_law_script"] (defScope (topS 112)) := ⟨rfl, rfl, rfl, by decide +kernel, rfl, by decide +kernel, by decide +kernel⟩
theorem ok_world {f : Addr} {fd : FuncData} (F : FunD K "_law_world" "_law_world" (defArgs (topS 112)) (defBody (topS 112)) (defScope (topS 112)) [] [] f fd) (B : Base1 P w K mg base C fldG conG) (Tb : Table P w K mg base C k T__law_world.fns) :
    FnOk P w K mg base CX0 (k + 1) f fd ["_law_script"] (spW K C) := by
  refine F.ok scWorld (fun vs H Q E q => ?_) (fun cdv A outer s0 H vs Q E hr q => ?_)
  · obtain ⟨Hs, ds, es, sub, r, e, _⟩ := q
    rw [r.length, world_len e]
    rfl
  · have G := good_of (CX := CX0) (T := T__law_world) (N := N__law_world) (A := A) (outer := outer) (s := s0) (H := H) (E := E) (k := k) B Tb rfl scWorld.nd hr
    have se := fun {e f} (q : (rdN T__law_world 5).e (defScope (topS 112)) e = some f) => (rdN_ok (T := T__law_world) (Cl := C) (k := k) 5 true _ _ G).1 e f q
    refine ⟨tThen K C b__law_world_0 (tRet (tLst (tA K C a_world))), ?_, ?_⟩
    · have e : defBody (topS 112) = (defBody (topS 112)).take 18 ++ (defBody (topS 112)).drop 18 := (List.take_append_drop 18 _).symm
      rw [e]
      refine cBlock_thenX G c__law_world_0 (PSs.nox (pss_one (ps_ret (pe_lst ?_))))
      exact a_cons rfl (se (by kernel_rfl)) (a_cons rfl (se (by kernel_rfl)) (a_cons rfl (se (by kernel_rfl)) a_nil))
    · obtain ⟨Hs, ds, es, sub, r, e, kk⟩ := q
      unfold s__law_world at e
      by_cases hl : ds.length = 1
      · rw [if_pos hl] at e
        obtain ⟨o, e1, e2⟩ := bind_some e
        refine ⟨H, Hs, Hs, _, o, .refl sub, start_ok (N := N__law_world) sub r, e1, ?_⟩
        cases o with
        | rt d => cases e2
        | nx ρ =>
          intro σ' Hs' H' g st
          have hle : es.length = 3 := acons_len (acons_len (acons_len anil_len)) ρ es e2
          refine ⟨H, Hs', ρ, es, st, e2, fun vs1 Hs1 H1 g1 r1 => ⟨by rw [r1.length, hle]; decide, fun p hp => ?_⟩⟩
          have g2 := g.trans g1
          refine kk p vs1 Hs1 _ ⟨g2.s, g2.h.trans (same_new hp), g2.sub.trans (same_new hp), g2.fresh⟩ (same_back g2.h hp) (same_back g2.sub hp) upd_same r1
      · rw [if_neg hl] at e
        cases e
theorem scRich : FnScope N__law_rich ["_law_script"] (defScope (topS 119)) := ⟨rfl, rfl, rfl, by decide +kernel, rfl, by decide +kernel, by decide +kernel⟩
theorem ok_rich {f fW : Addr} {fd fdW : FuncData} (F : FunD K "_law_rich" "_law_rich" (defArgs (topS 119)) (defBody (topS 119)) (defScope (topS 119)) [] [] f fd) (B : Base1 P w K mg base C fldG conG) (Tb : Table P w K mg base C k T__law_rich.fns)
    (GW : FnOk P w K mg base CX0 k fW fdW ["_law_script"] (spW K C)) (gW : mg "_law_world" = some (.ref fW)) (kW : PySem.W.keepIn K (.ref fW) = true) (bW : Binds K fdW ["_law_script"] []) :
    FnOk P w K mg base CX0 (k + 1) f fd ["_law_script"] (spF K C 1 s__law_rich) := by
  refine F.ok scRich (fun vs H Q E q => ?_) (fun cdv A outer s0 H vs Q E hr q => ?_)
  · obtain ⟨Hs, ds, d, sub, r, hl, _⟩ := q
    rw [r.length, hl]
    rfl
  · have G := good_of (CX := CX0) (T := T__law_rich) (N := N__law_rich) (A := A) (outer := outer) (s := s0) (H := H) (E := E) (k := k) B Tb rfl scRich.nd hr
    have se := fun {e f} (q : (rdN T__law_rich 8).e (defScope (topS 119)) e = some f) => (rdN_ok (T := T__law_rich) (Cl := C) (k := k) 8 true _ _ G).1 e f q
    have ste := fun {e f} (q : (rdN T__law_rich 8).t (defScope (topS 119)) e = some f) => (rdN_ok (T := T__law_rich) (Cl := C) (k := k) 8 true _ _ G).2 e f q
    have sv : ∀ sp, PE (cxOf CX0 P w K mg base N__law_rich "_law_rich" (defScope (topS 119)) f cdv A outer s0 H E).nox (.Name "_law_world_here" sp) (tVar 1) := fun sp => slot_var G (show slotOf T__law_rich (defScope (topS 119)) "_law_world_here" = some 1 by decide +kernel)
    refine ⟨tSeq (tAsg (tCall (spW K C) [] E (tA K C (aCons (eVar 0) aNil))) (L2.gName 1)) (tS K C b__law_rich_3), PSs.nox ?_, ?_⟩
    · refine pss_cons (rest := (defBody (topS 119)).drop 1) (ps_set (i := 1) scRich.nd rfl (Or.inl rfl) (pe_call GW hr (by exact rfl) gW kW bW .nil pass0 (a_cons rfl (se (by kernel_rfl)) a_nil))) ?_
      have h2 := cBlock_ok G c__law_rich_2
      have h1 : OkSs (cxOf CX0 P w K mg base N__law_rich "_law_rich" (defScope (topS 119)) f cdv A outer s0 H E).nox C (ifBody ((defBody (topS 119)).getD 2 (.Pass ⟨0, 0, 0, 0⟩))) (sSeq b__law_rich_1 (sPut0 1 e__law_rich)) := by
        have e3 : ifBody ((defBody (topS 119)).getD 2 (.Pass ⟨0, 0, 0, 0⟩)) = (ifBody ((defBody (topS 119)).getD 2 (.Pass ⟨0, 0, 0, 0⟩))).take 2 ++ (ifBody ((defBody (topS 119)).getD 2 (.Pass ⟨0, 0, 0, 0⟩))).drop 2 := (List.take_append_drop 2 _).symm
        rw [e3]
        exact ss_then G c__law_rich_1 (pss_one (s_put0 (sv _) rfl rfl (se (f := e__law_rich) (by kernel_rfl))))
      exact ss_then G c__law_rich_0 (ss_cons (s_if (ste (f := t__law_rich) (by kernel_rfl)) h1 ss_nil) h2)
    · obtain ⟨Hs, ds, d, sub, r, hl, e, kk⟩ := q
      unfold s__law_rich at e
      rw [if_pos hl] at e
      obtain ⟨es, e1, e2⟩ := bind_some e
      obtain ⟨d0, rfl⟩ : ∃ d0, ds = [d0] := by
        match ds, hl with
        | [d0], _ => exact ⟨d0, rfl⟩
      have st := start_ok (N := N__law_rich) sub r
      refine ⟨H, Hs, _, [d0], st, rfl, fun vs1 Hs1 H1 g1 r1 => ⟨Hs1, [d0], es, g1.sub, by rw [List.append_nil]; exact r1, e1, fun p xs Hs2 H2 g2 hp hs hx r2 => ?_⟩⟩
      have st2 := (st.grow g1).take_own g2 g1.h (i := 1) hp hs hx r2
      cases ho : b__law_rich_3 ((entry 6 [d0]).set 1 (.own es)) with
      | none =>
        rw [ho] at e2
        cases e2
      | some o =>
        rw [ho] at e2
        refine ⟨H, Hs, Hs2, _, o, g1.trans g2, st2, ho, ?_⟩
        cases o with
        | nx ρ =>
          cases e2
          exact fun σ' Hs' H' g st => kk .non Hs' H' g .non
        | rt d' =>
          cases e2
          exact kk
end
end WF
end
/-! text WH10 -/
section
set_option Elab.async false
set_option linter.all false
set_option maxRecDepth 100000
set_option maxHeartbeats 4000000
/-! law by hand. -/
namespace WF
open PySem PySem.Spec PyProof.Rows L2
theorem Good.tr {T : Tx} {Cl : Addr} {k : Nat} {top : Bool} {sc : Scope} {X : Cx} (G : Good T Cl k top sc X.nox) (pn : List (Addr × Obj)) (xe : Value → Shared → Prop) : Good T Cl k top sc (X.tr pn xe).nox :=
  ⟨G.N, G.nd, G.sc, G.calm, rfl, G.blt, G.lcm, G.con, G.fns, G.room, G.cls, G.flds, G.top⟩
theorem unl_tG {K : PySem.W.Frag} {C : Addr} {is : List Nat} {n : Nat} {H0 Hs H : Hp} {σ : L2.St} {ρ ρ' : Env} {ds : List D} {v : V} {Q : L2.St → Hp → Prop} (hl : n = is.length) (st : StOk K C H0 σ Hs H ρ) (r : Rep K C Hs v (.lst ds)) (e : setAll is ds ρ = some ρ')
    (k : ∀ σ', StOk K C H0 σ' Hs H ρ' → Q σ' H) : gUnl K n (rNames is) v σ H Q := by
  cases r with
  | @lst a xs ds h1 r => exact ⟨a, xs, rfl, SqL.of (st.sub _ _ h1), by rw [r.length, setAll_len e, hl], set_names st r e k⟩
section
variable {P : Program} {w : World} {K : PySem.W.Frag} {mg : Str → Option Value} {base : Heap} {C CE : Addr} {k : Nat}
def spLaw (K : PySem.W.Frag) : Sp := fun vs H Q _ => ∃ (a : Addr) (ns : List Int), vs = [.ref a] ∧ SqL K H a (ns.map V.int) ∧ LawOk ns ∧ ∀ H', Q (.bl true) H'
theorem scLaw : FnScope N_law ["_law_script"] (defScope (topS 121)) := ⟨rfl, rfl, rfl, by decide +kernel, rfl, by decide +kernel, by decide +kernel⟩
/-- told = sure_limit(..), an exception on its way to W -/
def tbLaw (K : PySem.W.Frag) (C CE : Addr) (W : WX) : TS := tAsg (tCallS (spX K C CE 3 s_sure_limit) (WE W) (tA K C a_law_sure)) (L2.gName 14)
def tLawRest (K : PySem.W.Frag) (C CE : Addr) (E : XK) : TS := tSeq (fun D σ H => tbLaw K C CE (wOnly K (.ref CE) (fun _ _ _ => tRet (tE K C e_law_except)) (fun _ _ _ _ => False) D) D σ H) (tS K C b_law_2)
def tLaw (K : PySem.W.Frag) (C CE : Addr) (E : XK) : TS := tSeq (tAsg (tE K C (eCall s__law_rich (aCons (eVar 0) aNil))) (gUnl K 3 (rNames [1, 2, 3])))
  (tThen K C b_law_0 (tSeq (tAsg (tCall (spLab K C) [] E (tA K C a_law_labels)) (L2.gName 5)) (tThen K C b_law_1 (tLawRest K C CE E))))
theorem ok_law {f fL fS : Addr} {fd fdL fdS : FuncData} (F : FunD K "law" "law" (defArgs (topS 121)) (defBody (topS 121)) (defScope (topS 121)) [] [] f fd) (B : Base1 P w K mg base C fldG conG) (Tb : Table P w K mg base C k T_law.fns) (hR : CalAt P w K mg base C k "_law_rich" 1 s__law_rich)
    (GL : FnOk P w K mg base CX0 k fL fdL ["_law_draws_here", "_law_names", "_law_worths_here"] (spLab K C)) (gL : mg "_law_labels" = some (.ref fL)) (kL : PySem.W.keepIn K (.ref fL) = true) (bL : Binds K fdL ["_law_draws_here", "_law_names", "_law_worths_here"] [])
    (GS : FnOk P w K mg base (L2.CX P w) k fS fdS ["setup", "labels", "time"] (spX K C CE 3 s_sure_limit)) (gS : mg "sure_limit" = some (.ref fS)) (kS : PySem.W.keepIn K (.ref fS) = true) (bS : Binds K fdS ["setup", "labels", "time"] []) (X : ExT K mg CE) :
    FnOk P w K mg base CX0 (k + 1) f fd ["_law_script"] (spLaw K) := by
  refine F.ok scLaw (fun vs H Q E q => ?_) (fun cdv A outer s0 H vs Q E hr q => ?_)
  · obtain ⟨a, ns, rfl, _⟩ := q
    rfl
  · have G := good_of (CX := CX0) (T := T_law) (N := N_law) (A := A) (outer := outer) (s := s0) (H := H) (E := E) (k := k) B Tb rfl scLaw.nd hr
    have se := fun {e f} (q : (rdN T_law 8).e (defScope (topS 121)) e = some f) => (rdN_ok (T := T_law) (Cl := C) (k := k) 8 true _ _ G).1 e f q
    refine ⟨tLaw K C CE E, PSs.nox ?_, ?_⟩
    · have e1 : (defBody (topS 121)).drop 1 = ((defBody (topS 121)).drop 1).take 1 ++ ((defBody (topS 121)).getD 2 (.Pass ⟨0, 0, 0, 0⟩) :: (((defBody (topS 121)).drop 3).take 7 ++ ((defBody (topS 121)).getD 10 (.Pass ⟨0, 0, 0, 0⟩) :: (defBody (topS 121)).drop 11))) := rfl
      refine pss_cons (rest := (defBody (topS 121)).drop 1) (ps_asg (hR _ rfl rfl rfl rfl rfl rfl hr _ _ _ _ _ (by exact rfl) (a_cons rfl (se (by kernel_rfl)) a_nil) rfl (acons_len anil_len) rfl) (pg_unl rfl (gs_cons rfl (pg_name scLaw.nd rfl (Or.inl rfl)) (gs_cons rfl (pg_name scLaw.nd rfl (Or.inl rfl)) (gs_cons rfl (pg_name scLaw.nd rfl (Or.inl rfl)) pgs_nil))))) ?_
      rw [e1]
      refine cBlock_then G c_law_0 (pss_cons ?_ (cBlock_then G c_law_1 (pss_cons ?_ (cBlock_ok G c_law_2))))
      · exact ps_set (i := 5) scLaw.nd rfl (Or.inl rfl) (pe_call GL hr (by exact rfl) gL kL bL .nil pass0 (a_cons rfl (se (by kernel_rfl)) (a_cons rfl (se (by kernel_rfl)) (a_cons rfl (se (by kernel_rfl)) a_nil))))
      · refine ps_try_only (tb := tbLaw K C CE) (ts := fun _ _ _ => tRet (tE K C e_law_except)) (Wout := fun _ _ _ _ => False) rfl rfl ⟨by exact rfl, by decide, Or.inl X.g⟩ takes0
          (fun W pn xe tk _ => pss_one (ps_set (i := 14) scLaw.nd rfl (Or.inl rfl) (pe_callS GS hr (by exact rfl) gS kS bS (fun σ => passAt tk σ) ?_)))
          (fun a oe cls d pn hz hf => pss_one (ps_ret ?_))
        · have se2 := fun {e g} (q : (rdN T_law 8).e (defScope (topS 121)) e = some g) => cEx (Good.tr (X := (cxOf CX0 P w K mg base N_law "law" (defScope (topS 121)) f cdv A outer s0 H E).nox) G pn xe) 8 q
          exact a_cons rfl (se2 (by kernel_rfl)) (a_cons rfl (se2 (by kernel_rfl)) (a_cons rfl (se2 (by kernel_rfl)) a_nil))
        · exact ok_cmpE rfl (ok_var (pe_var (i := 9) rfl (.inl rfl) rfl rfl)) (ok_con pe_int fun H => .int 2000).bo
    · obtain ⟨a, ns, rfl, hS, ⟨es, ρ0, ρ1, as, ps, e1, e2, e3, e4, e5, kk⟩, kQ⟩ := q
      have st0 : StOk K C H (L2.start N_law [.ref a]) H H (entry 18 [.scr ns]) := start_ok (N := N_law) (.refl _) (.cons (.scr hS) .nil)
      refine ⟨H, H, _, _, st0, show (some [D.scr ns]).bind s__law_rich = _ from e1, fun v Hs1 H1 g1 r1 => ?_⟩
      refine unl_tG (is := [1, 2, 3]) rfl (st0.grow g1) r1 e2 fun σ1 st1 => ?_
      refine ⟨H, H, Hs1, ρ0, .nx ρ1, g1, st1, e3, fun σ2 Hs2 H2 g2 st2 => ?_⟩
      refine ⟨H, Hs2, ρ1, as, st2, e4, fun vs3 Hs3 H3 g3 r3 => ⟨Hs3, as, ps, g3.sub, by rw [List.append_nil]; exact r3, e5, fun qs v Hs4 H4 g4 r4 => ?_⟩⟩
      obtain ⟨ρ2, as2, r, f1, f2, f3, f4, f5⟩ := kk qs
      refine ⟨H, H, Hs4, _, .nx ρ2, (g2.trans g3).trans g4, ((st2.grow g3).grow g4).set_val r4, f1, fun σ5 Hs5 H5 g5 st5 => ?_⟩
      refine ⟨H, Hs5, ρ2, as2, st5, f2, fun vs6 Hs6 H6 g6 r6 => ⟨Hs6, as2, r, g6.sub, r6, acons_len (acons_len (acons_len anil_len)) ρ2 as2 f2, f3, fun d hd v Hs7 H7 g7 r7 => ?_, fun hn Hs7 H7 g7 => ?_⟩⟩
      · have st7 := ((st5.grow g6).grow g7).set_val (i := 14) r7
        have f6 := f5 d hd
        cases ho : b_law_2 (ρ2.set 14 (.val d)) with
        | none =>
          rw [ho] at f6
          cases f6
        | some o =>
          rw [ho] at f6
          refine ⟨H, H, Hs7, _, o, (g5.trans g6).trans g7, st7, ho, ?_⟩
          cases o with
          | nx ρ => cases f6
          | rt d' =>
            cases f6
            intro v Hs8 H8 g8 r8
            cases r8
            exact kQ H8
      · refine ⟨true, X.exm, fun _ a0 _ => ⟨H, Hs7, ρ2, _, (st5.grow g6).grow g7, f4 hn, fun v Hs8 H8 g8 r8 => ?_⟩, fun z => by cases z⟩
        cases r8
        exact kQ H8
end
end WF
end
/-! text WA -/
section
set_option Elab.async false
set_option linter.all false
set_option maxRecDepth 100000
set_option maxHeartbeats 4000000
/-! Every def keeps its promise: printed by gen.py. -/
namespace WF
open PySem PySem.Spec PyProof.Rows L2
/-- the def x of the module's top, statement i -/
def DefAt (K : PySem.W.Frag) (mg : Str → Option Value) (x : Str) (i : Nat) : Prop := ∃ f fd, FunD K x x (defArgs (topS i)) (defBody (topS i)) (defScope (topS i)) [] [] f fd ∧ mg x = some (.ref f)
theorem DefAt.cal {P : Program} {w : World} {K : PySem.W.Frag} {mg : Str → Option Value} {base : Heap} {C : Addr} {k i : Nat} {x : Str} {T : Tx} {N ps : List Str} {s : SS} (h : DefAt K mg x i) (S : FnScope N ps (defScope (topS i))) (B : Base1 P w K mg base C T.flds T.con)
    (Tb : Table P w K mg base C k T.fns) (hN : T.N = N) (hc : cBlock T (defScope (topS i)) (defBody (topS i)) = some s) (hb : ∀ {f : Addr} {fd : FuncData}, FunD K x x (defArgs (topS i)) (defBody (topS i)) (defScope (topS i)) [] [] f fd → Binds K fd ps []) : CalAt P w K mg base C (k + 1) x ps.length (runD N.length ps.length s) := by
  obtain ⟨f, fd, F, g⟩ := h
  exact FnAt.cal ⟨f, fd, ps, def_ok F S B Tb hN hc, g, F.kp, hb F⟩
theorem cal_never {P : Program} {w : World} {K : PySem.W.Frag} {mg : Str → Option Value} {base : Heap} {C : Addr} {k n : Nat} {x : Str} : CalAt P w K mg base C k x n fun _ => none :=
  fun X _ _ _ _ _ _ _ e es fs p pos _ _ _ _ _ => ⟨fun pins s σ H Q I q => by
    obtain ⟨_, _, _, _, _, e, _⟩ := q
    obtain ⟨_, _, e2⟩ := bind_some e
    cases e2⟩
theorem b_require_ {K : PySem.W.Frag} {f : Addr} {fd : FuncData} (F : FunD K "require" "require" (defArgs (topS 58)) (defBody (topS 58)) (defScope (topS 58)) [] [] f fd) : Binds K fd ["part", "flags"] [] := F.bindsN fun _ _ _ _ _ _ us hl => match us, hl with | [_, _], _ => by kernel_rfl
theorem b_is_between_ {K : PySem.W.Frag} {f : Addr} {fd : FuncData} (F : FunD K "is_between" "is_between" (defArgs (topS 35)) (defBody (topS 35)) (defScope (topS 35)) [] [] f fd) : Binds K fd ["low", "n", "high"] [] := F.bindsN fun _ _ _ _ _ _ us hl => match us, hl with | [_, _, _], _ => by kernel_rfl
theorem b_names_of_ {K : PySem.W.Frag} {f : Addr} {fd : FuncData} (F : FunD K "names_of" "names_of" (defArgs (topS 56)) (defBody (topS 56)) (defScope (topS 56)) [] [] f fd) : Binds K fd ["entries"] [] := F.bindsN fun _ _ _ _ _ _ us hl => match us, hl with | [_], _ => by kernel_rfl
theorem b_is_value_ {K : PySem.W.Frag} {f : Addr} {fd : FuncData} (F : FunD K "is_value" "is_value" (defArgs (topS 22)) (defBody (topS 22)) (defScope (topS 22)) [] [] f fd) : Binds K fd ["text"] [] := F.bindsN fun _ _ _ _ _ _ us hl => match us, hl with | [_], _ => by kernel_rfl
theorem b_is_name_ {K : PySem.W.Frag} {f : Addr} {fd : FuncData} (F : FunD K "is_name" "is_name" (defArgs (topS 23)) (defBody (topS 23)) (defScope (topS 23)) [] [] f fd) : Binds K fd ["text"] [] := F.bindsN fun _ _ _ _ _ _ us hl => match us, hl with | [_], _ => by kernel_rfl
theorem b_is_new_name_ {K : PySem.W.Frag} {f : Addr} {fd : FuncData} (F : FunD K "is_new_name" "is_new_name" (defArgs (topS 57)) (defBody (topS 57)) (defScope (topS 57)) [] [] f fd) : Binds K fd ["entries", "place"] [] := F.bindsN fun _ _ _ _ _ _ us hl => match us, hl with | [_, _], _ => by kernel_rfl
theorem b_all_true_ {K : PySem.W.Frag} {f : Addr} {fd : FuncData} (F : FunD K "all_true" "all_true" (defArgs (topS 36)) (defBody (topS 36)) (defScope (topS 36)) [] [] f fd) : Binds K fd ["flags"] [] := F.bindsN fun _ _ _ _ _ _ us hl => match us, hl with | [_], _ => by kernel_rfl
theorem b_span_fits_ {K : PySem.W.Frag} {f : Addr} {fd : FuncData} (F : FunD K "span_fits" "span_fits" (defArgs (topS 37)) (defBody (topS 37)) (defScope (topS 37)) [] [] f fd) : Binds K fd ["week", "span"] [] := F.bindsN fun _ _ _ _ _ _ us hl => match us, hl with | [_, _], _ => by kernel_rfl
theorem b_layer_fits_ {K : PySem.W.Frag} {f : Addr} {fd : FuncData} (F : FunD K "layer_fits" "layer_fits" (defArgs (topS 40)) (defBody (topS 40)) (defScope (topS 40)) [] [] f fd) : Binds K fd ["week", "people", "layer"] [] := F.bindsN fun _ _ _ _ _ _ us hl => match us, hl with | [_, _, _], _ => by kernel_rfl
theorem b_standin_fits_ {K : PySem.W.Frag} {f : Addr} {fd : FuncData} (F : FunD K "standin_fits" "standin_fits" (defArgs (topS 41)) (defBody (topS 41)) (defScope (topS 41)) [] [] f fd) : Binds K fd ["people", "standin"] [] := F.bindsN fun _ _ _ _ _ _ us hl => match us, hl with | [_, _], _ => by kernel_rfl
theorem b_schedule_fits_ {K : PySem.W.Frag} {f : Addr} {fd : FuncData} (F : FunD K "schedule_fits" "schedule_fits" (defArgs (topS 42)) (defBody (topS 42)) (defScope (topS 42)) [] [] f fd) : Binds K fd ["week", "people", "schedule"] [] := F.bindsN fun _ _ _ _ _ _ us hl => match us, hl with | [_, _, _], _ => by kernel_rfl
theorem b_check_people_ {K : PySem.W.Frag} {f : Addr} {fd : FuncData} (F : FunD K "check_people" "check_people" (defArgs (topS 59)) (defBody (topS 59)) (defScope (topS 59)) [] [] f fd) : Binds K fd ["made"] [] := F.bindsN fun _ _ _ _ _ _ us hl => match us, hl with | [_], _ => by kernel_rfl
theorem b_policy_fits_ {K : PySem.W.Frag} {f : Addr} {fd : FuncData} (F : FunD K "policy_fits" "policy_fits" (defArgs (topS 43)) (defBody (topS 43)) (defScope (topS 43)) [] [] f fd) : Binds K fd ["schedules", "policy"] [] := F.bindsN fun _ _ _ _ _ _ us hl => match us, hl with | [_, _], _ => by kernel_rfl
theorem b_window_fits_ {K : PySem.W.Frag} {f : Addr} {fd : FuncData} (F : FunD K "window_fits" "window_fits" (defArgs (topS 44)) (defBody (topS 44)) (defScope (topS 44)) [] [] f fd) : Binds K fd ["week", "window"] [] := F.bindsN fun _ _ _ _ _ _ us hl => match us, hl with | [_, _], _ => by kernel_rfl
theorem b_label_fits_ {K : PySem.W.Frag} {f : Addr} {fd : FuncData} (F : FunD K "label_fits" "label_fits" (defArgs (topS 38)) (defBody (topS 38)) (defScope (topS 38)) [] [] f fd) : Binds K fd ["name"] [] := F.bindsN fun _ _ _ _ _ _ us hl => match us, hl with | [_], _ => by kernel_rfl
theorem b_labels_fit_ {K : PySem.W.Frag} {f : Addr} {fd : FuncData} (F : FunD K "labels_fit" "labels_fit" (defArgs (topS 39)) (defBody (topS 39)) (defScope (topS 39)) [] [] f fd) : Binds K fd ["names"] [] := F.bindsN fun _ _ _ _ _ _ us hl => match us, hl with | [_], _ => by kernel_rfl
theorem b_settings_fit_ {K : PySem.W.Frag} {f : Addr} {fd : FuncData} (F : FunD K "settings_fit" "settings_fit" (defArgs (topS 47)) (defBody (topS 47)) (defScope (topS 47)) [] [] f fd) : Binds K fd ["windows", "policies", "settings"] [] := F.bindsN fun _ _ _ _ _ _ us hl => match us, hl with | [_, _, _], _ => by kernel_rfl
theorem b_matcher_fits_ {K : PySem.W.Frag} {f : Addr} {fd : FuncData} (F : FunD K "matcher_fits" "matcher_fits" (defArgs (topS 45)) (defBody (topS 45)) (defScope (topS 45)) [] [] f fd) : Binds K fd ["matcher"] [] := F.bindsN fun _ _ _ _ _ _ us hl => match us, hl with | [_], _ => by kernel_rfl
theorem b_matchers_fit_ {K : PySem.W.Frag} {f : Addr} {fd : FuncData} (F : FunD K "matchers_fit" "matchers_fit" (defArgs (topS 46)) (defBody (topS 46)) (defScope (topS 46)) [] [] f fd) : Binds K fd ["matchers"] [] := F.bindsN fun _ _ _ _ _ _ us hl => match us, hl with | [_], _ => by kernel_rfl
theorem b_route_fits_ {K : PySem.W.Frag} {f : Addr} {fd : FuncData} (F : FunD K "route_fits" "route_fits" (defArgs (topS 48)) (defBody (topS 48)) (defScope (topS 48)) [] [] f fd) : Binds K fd ["windows", "policies", "place", "route"] [] := F.bindsN fun _ _ _ _ _ _ us hl => match us, hl with | [_, _, _, _], _ => by kernel_rfl
theorem b_holdback_fits_ {K : PySem.W.Frag} {f : Addr} {fd : FuncData} (F : FunD K "holdback_fits" "holdback_fits" (defArgs (topS 49)) (defBody (topS 49)) (defScope (topS 49)) [] [] f fd) : Binds K fd ["holdback"] [] := F.bindsN fun _ _ _ _ _ _ us hl => match us, hl with | [_], _ => by kernel_rfl
theorem b_check_routes_ {K : PySem.W.Frag} {f : Addr} {fd : FuncData} (F : FunD K "check_routes" "check_routes" (defArgs (topS 60)) (defBody (topS 60)) (defScope (topS 60)) [] [] f fd) : Binds K fd ["made"] [] := F.bindsN fun _ _ _ _ _ _ us hl => match us, hl with | [_], _ => by kernel_rfl
theorem b_store_fits_ {K : PySem.W.Frag} {f : Addr} {fd : FuncData} (F : FunD K "store_fits" "store_fits" (defArgs (topS 52)) (defBody (topS 52)) (defScope (topS 52)) [] [] f fd) : Binds K fd ["store"] [] := F.bindsN fun _ _ _ _ _ _ us hl => match us, hl with | [_], _ => by kernel_rfl
theorem b_check_rest_ {K : PySem.W.Frag} {f : Addr} {fd : FuncData} (F : FunD K "check_rest" "check_rest" (defArgs (topS 61)) (defBody (topS 61)) (defScope (topS 61)) [] [] f fd) : Binds K fd ["made"] [] := F.bindsN fun _ _ _ _ _ _ us hl => match us, hl with | [_], _ => by kernel_rfl
theorem b__law_setup_ {K : PySem.W.Frag} {f : Addr} {fd : FuncData} (F : FunD K "_law_setup" "_law_setup" (defArgs (topS 108)) (defBody (topS 108)) (defScope (topS 108)) [] [] f fd) : Binds K fd ["_law_days", "_law_staff", "_law_rotas", "_law_ladders", "_law_shutters", "_law_tree", "_law_holds_here", "_law_books", "_law_numbers"] [] := F.bindsN fun _ _ _ _ _ _ us hl => match us, hl with | [_, _, _, _, _, _, _, _, _], _ => by kernel_rfl
theorem b_entry_of_ {K : PySem.W.Frag} {f : Addr} {fd : FuncData} (F : FunD K "entry_of" "entry_of" (defArgs (topS 63)) (defBody (topS 63)) (defScope (topS 63)) [] [] f fd) : Binds K fd ["entries", "name", "word"] [] := F.bindsN fun _ _ _ _ _ _ us hl => match us, hl with | [_, _, _], _ => by kernel_rfl
theorem b_policy_of_ {K : PySem.W.Frag} {f : Addr} {fd : FuncData} (F : FunD K "policy_of" "policy_of" (defArgs (topS 66)) (defBody (topS 66)) (defScope (topS 66)) [] [] f fd) : Binds K fd ["made", "name"] [] := F.bindsN fun _ _ _ _ _ _ us hl => match us, hl with | [_, _], _ => by kernel_rfl
theorem b_schedule_of_ {K : PySem.W.Frag} {f : Addr} {fd : FuncData} (F : FunD K "schedule_of" "schedule_of" (defArgs (topS 65)) (defBody (topS 65)) (defScope (topS 65)) [] [] f fd) : Binds K fd ["made", "name"] [] := F.bindsN fun _ _ _ _ _ _ us hl => match us, hl with | [_, _], _ => by kernel_rfl
theorem b_period_ {K : PySem.W.Frag} {f : Addr} {fd : FuncData} (F : FunD K "period" "period" (defArgs (topS 6)) (defBody (topS 6)) (defScope (topS 6)) [] [] f fd) : Binds K fd ["week", "schedule"] [] := F.bindsN fun _ _ _ _ _ _ us hl => match us, hl with | [_, _], _ => by kernel_rfl
theorem b_settled_ {K : PySem.W.Frag} {f : Addr} {fd : FuncData} (F : FunD K "settled" "settled" (defArgs (topS 5)) (defBody (topS 5)) (defScope (topS 5)) [] [] f fd) : Binds K fd ["schedule"] [] := F.bindsN fun _ _ _ _ _ _ us hl => match us, hl with | [_], _ => by kernel_rfl
theorem b__horizon_ {K : PySem.W.Frag} {f : Addr} {fd : FuncData} (F : FunD K "_horizon" "_horizon" (defArgs (topS 86)) (defBody (topS 86)) (defScope (topS 86)) [] [] f fd) : Binds K fd ["setup", "settings", "time"] [] := F.bindsN fun _ _ _ _ _ _ us hl => match us, hl with | [_, _, _], _ => by kernel_rfl
theorem b_value_of_ {K : PySem.W.Frag} {f : Addr} {fd : FuncData} (F : FunD K "value_of" "value_of" (defArgs (topS 24)) (defBody (topS 24)) (defScope (topS 24)) [] [] f fd) : Binds K fd ["labels", "name"] [] := F.bindsN fun _ _ _ _ _ _ us hl => match us, hl with | [_, _], _ => by kernel_rfl
theorem b_matches_ {K : PySem.W.Frag} {f : Addr} {fd : FuncData} (F : FunD K "matches" "matches" (defArgs (topS 25)) (defBody (topS 25)) (defScope (topS 25)) [] [] f fd) : Binds K fd ["matcher", "labels"] [] := F.bindsN fun _ _ _ _ _ _ us hl => match us, hl with | [_, _], _ => by kernel_rfl
theorem b_matches_all_ {K : PySem.W.Frag} {f : Addr} {fd : FuncData} (F : FunD K "matches_all" "matches_all" (defArgs (topS 26)) (defBody (topS 26)) (defScope (topS 26)) [] [] f fd) : Binds K fd ["matchers", "labels"] [] := F.bindsN fun _ _ _ _ _ _ us hl => match us, hl with | [_, _], _ => by kernel_rfl
theorem b__later_ {K : PySem.W.Frag} {f : Addr} {fd : FuncData} (F : FunD K "_later" "_later" (defArgs (topS 82)) (defBody (topS 82)) (defScope (topS 82)) [] [] f fd) : Binds K fd ["routes", "at", "labels"] [] := F.bindsN fun _ _ _ _ _ _ us hl => match us, hl with | [_, _, _], _ => by kernel_rfl
theorem b_way_ {K : PySem.W.Frag} {f : Addr} {fd : FuncData} (F : FunD K "way" "way" (defArgs (topS 83)) (defBody (topS 83)) (defScope (topS 83)) [] [] f fd) : Binds K fd ["routes", "labels"] [] := F.bindsN fun _ _ _ _ _ _ us hl => match us, hl with | [_, _], _ => by kernel_rfl
theorem b_end_of_ {K : PySem.W.Frag} {f : Addr} {fd : FuncData} (F : FunD K "end_of" "end_of" (defArgs (topS 84)) (defBody (topS 84)) (defScope (topS 84)) [] [] f fd) : Binds K fd ["routes", "labels"] [] := F.bindsN fun _ _ _ _ _ _ us hl => match us, hl with | [_, _], _ => by kernel_rfl
theorem b_in_spans_ {K : PySem.W.Frag} {f : Addr} {fd : FuncData} (F : FunD K "in_spans" "in_spans" (defArgs (topS 2)) (defBody (topS 2)) (defScope (topS 2)) [] [] f fd) : Binds K fd ["week", "spans", "time"] [] := F.bindsN fun _ _ _ _ _ _ us hl => match us, hl with | [_, _, _], _ => by kernel_rfl
theorem b_window_of_ {K : PySem.W.Frag} {f : Addr} {fd : FuncData} (F : FunD K "window_of" "window_of" (defArgs (topS 67)) (defBody (topS 67)) (defScope (topS 67)) [] [] f fd) : Binds K fd ["made", "name"] [] := F.bindsN fun _ _ _ _ _ _ us hl => match us, hl with | [_, _], _ => by kernel_rfl
theorem b_is_muted_ {K : PySem.W.Frag} {f : Addr} {fd : FuncData} (F : FunD K "is_muted" "is_muted" (defArgs (topS 69)) (defBody (topS 69)) (defScope (topS 69)) [] [] f fd) : Binds K fd ["setup", "mutes", "time"] [] := F.bindsN fun _ _ _ _ _ _ us hl => match us, hl with | [_, _, _], _ => by kernel_rfl
theorem b_on_layer_ {K : PySem.W.Frag} {f : Addr} {fd : FuncData} (F : FunD K "on_layer" "on_layer" (defArgs (topS 3)) (defBody (topS 3)) (defScope (topS 3)) [] [] f fd) : Binds K fd ["week", "layer", "time"] [] := F.bindsN fun _ _ _ _ _ _ us hl => match us, hl with | [_, _, _], _ => by kernel_rfl
theorem b_on_call_ {K : PySem.W.Frag} {f : Addr} {fd : FuncData} (F : FunD K "on_call" "on_call" (defArgs (topS 4)) (defBody (topS 4)) (defScope (topS 4)) [] [] f fd) : Binds K fd ["week", "schedule", "time"] [] := F.bindsN fun _ _ _ _ _ _ us hl => match us, hl with | [_, _, _], _ => by kernel_rfl
theorem b_channels_of_ {K : PySem.W.Frag} {f : Addr} {fd : FuncData} (F : FunD K "channels_of" "channels_of" (defArgs (topS 64)) (defBody (topS 64)) (defScope (topS 64)) [] [] f fd) : Binds K fd ["made", "person"] [] := F.bindsN fun _ _ _ _ _ _ us hl => match us, hl with | [_, _], _ => by kernel_rfl
theorem b_is_sure_ {K : PySem.W.Frag} {f : Addr} {fd : FuncData} (F : FunD K "is_sure" "is_sure" (defArgs (topS 70)) (defBody (topS 70)) (defScope (topS 70)) [] [] f fd) : Binds K fd ["setup", "person"] [] := F.bindsN fun _ _ _ _ _ _ us hl => match us, hl with | [_, _], _ => by kernel_rfl
theorem b_plan_ {K : PySem.W.Frag} {f : Addr} {fd : FuncData} (F : FunD K "plan" "plan" (defArgs (topS 71)) (defBody (topS 71)) (defScope (topS 71)) [] [] f fd) : Binds K fd ["setup", "policy", "begun"] [] := F.bindsN fun _ _ _ _ _ _ us hl => match us, hl with | [_, _, _], _ => by kernel_rfl
theorem b_delay_ {K : PySem.W.Frag} {f : Addr} {fd : FuncData} (F : FunD K "delay" "delay" (defArgs (topS 72)) (defBody (topS 72)) (defScope (topS 72)) [] [] f fd) : Binds K fd ["setup", "policy", "begun"] [] := F.bindsN fun _ _ _ _ _ _ us hl => match us, hl with | [_, _, _], _ => by kernel_rfl
theorem b_slack_ {K : PySem.W.Frag} {f : Addr} {fd : FuncData} (F : FunD K "slack" "slack" (defArgs (topS 74)) (defBody (topS 74)) (defScope (topS 74)) [] [] f fd) : Binds K fd ["setup"] [] := F.bindsN fun _ _ _ _ _ _ us hl => match us, hl with | [_], _ => by kernel_rfl
theorem b_sure_limit_ {K : PySem.W.Frag} {f : Addr} {fd : FuncData} (F : FunD K "sure_limit" "sure_limit" (defArgs (topS 87)) (defBody (topS 87)) (defScope (topS 87)) [] [] f fd) : Binds K fd ["setup", "labels", "time"] [] := F.bindsN fun _ _ _ _ _ _ us hl => match us, hl with | [_, _, _], _ => by kernel_rfl
theorem b__law_labels_ {K : PySem.W.Frag} {f : Addr} {fd : FuncData} (F : FunD K "_law_labels" "_law_labels" (defArgs (topS 100)) (defBody (topS 100)) (defScope (topS 100)) [] [] f fd) : Binds K fd ["_law_draws_here", "_law_names", "_law_worths_here"] [] := F.bindsN fun _ _ _ _ _ _ us hl => match us, hl with | [_, _, _], _ => by kernel_rfl
theorem b__law_words_ {K : PySem.W.Frag} {f : Addr} {fd : FuncData} (F : FunD K "_law_words" "_law_words" (defArgs (topS 98)) (defBody (topS 98)) (defScope (topS 98)) [] [] f fd) : Binds K fd ["_law_cell_here", "_law_many"] [] := F.bindsN fun _ _ _ _ _ _ us hl => match us, hl with | [_, _], _ => by kernel_rfl
theorem b__law_cell_ {K : PySem.W.Frag} {f : Addr} {fd : FuncData} (F : FunD K "_law_cell" "_law_cell" (defArgs (topS 95)) (defBody (topS 95)) (defScope (topS 95)) [] [] f fd) : Binds K fd ["_law_script", "_law_k"] [] := F.bindsN fun _ _ _ _ _ _ us hl => match us, hl with | [_, _], _ => by kernel_rfl
theorem b__law_worths_ {K : PySem.W.Frag} {f : Addr} {fd : FuncData} (F : FunD K "_law_worths" "_law_worths" (defArgs (topS 99)) (defBody (topS 99)) (defScope (topS 99)) [] [] f fd) : Binds K fd ["_law_cell_here", "_law_many"] [] := F.bindsN fun _ _ _ _ _ _ us hl => match us, hl with | [_, _], _ => by kernel_rfl
theorem b__law_draws_ {K : PySem.W.Frag} {f : Addr} {fd : FuncData} (F : FunD K "_law_draws" "_law_draws" (defArgs (topS 96)) (defBody (topS 96)) (defScope (topS 96)) [] [] f fd) : Binds K fd ["_law_cell_here", "_law_many"] [] := F.bindsN fun _ _ _ _ _ _ us hl => match us, hl with | [_, _], _ => by kernel_rfl
theorem b__law_layer_ {K : PySem.W.Frag} {f : Addr} {fd : FuncData} (F : FunD K "_law_layer" "_law_layer" (defArgs (topS 106)) (defBody (topS 106)) (defScope (topS 106)) [] [] f fd) : Binds K fd ["_law_part", "_law_crew", "_law_days"] [] := F.bindsN fun _ _ _ _ _ _ us hl => match us, hl with | [_, _, _], _ => by kernel_rfl
theorem b__law_rota_ {K : PySem.W.Frag} {f : Addr} {fd : FuncData} (F : FunD K "_law_rota" "_law_rota" (defArgs (topS 107)) (defBody (topS 107)) (defScope (topS 107)) [] [] f fd) : Binds K fd ["_law_cell_here", "_law_name", "_law_crew", "_law_days"] [] := F.bindsN fun _ _ _ _ _ _ us hl => match us, hl with | [_, _, _, _], _ => by kernel_rfl
theorem b__law_ladder_ {K : PySem.W.Frag} {f : Addr} {fd : FuncData} (F : FunD K "_law_ladder" "_law_ladder" (defArgs (topS 109)) (defBody (topS 109)) (defScope (topS 109)) [] [] f fd) : Binds K fd ["_law_draws_here", "_law_name", "_law_titles"] [] := F.bindsN fun _ _ _ _ _ _ us hl => match us, hl with | [_, _, _], _ => by kernel_rfl
theorem b__law_shutter_ {K : PySem.W.Frag} {f : Addr} {fd : FuncData} (F : FunD K "_law_shutter" "_law_shutter" (defArgs (topS 110)) (defBody (topS 110)) (defScope (topS 110)) [] [] f fd) : Binds K fd ["_law_draws_here", "_law_name", "_law_days"] [] := F.bindsN fun _ _ _ _ _ _ us hl => match us, hl with | [_, _, _], _ => by kernel_rfl
theorem b__law_matcher_ {K : PySem.W.Frag} {f : Addr} {fd : FuncData} (F : FunD K "_law_matcher" "_law_matcher" (defArgs (topS 101)) (defBody (topS 101)) (defScope (topS 101)) [] [] f fd) : Binds K fd ["_law_first", "_law_second", "_law_names", "_law_worths_here"] [] := F.bindsN fun _ _ _ _ _ _ us hl => match us, hl with | [_, _, _, _], _ => by kernel_rfl
theorem b__law_route_ {K : PySem.W.Frag} {f : Addr} {fd : FuncData} (F : FunD K "_law_route" "_law_route" (defArgs (topS 105)) (defBody (topS 105)) (defScope (topS 105)) [] [] f fd) : Binds K fd ["_law_cell_here", "_law_place", "_law_names", "_law_worths_here", "_law_ladders", "_law_shutters"] [] := F.bindsN fun _ _ _ _ _ _ us hl => match us, hl with | [_, _, _, _, _, _], _ => by kernel_rfl
theorem b__law_holds_ {K : PySem.W.Frag} {f : Addr} {fd : FuncData} (F : FunD K "_law_holds" "_law_holds" (defArgs (topS 111)) (defBody (topS 111)) (defScope (topS 111)) [] [] f fd) : Binds K fd ["_law_cell_here", "_law_names", "_law_worths_here"] [] := F.bindsN fun _ _ _ _ _ _ us hl => match us, hl with | [_, _, _], _ => by kernel_rfl
theorem b__law_world_ {K : PySem.W.Frag} {f : Addr} {fd : FuncData} (F : FunD K "_law_world" "_law_world" (defArgs (topS 112)) (defBody (topS 112)) (defScope (topS 112)) [] [] f fd) : Binds K fd ["_law_script"] [] := F.bindsN fun _ _ _ _ _ _ us hl => match us, hl with | [_], _ => by kernel_rfl
theorem b__law_rich_ {K : PySem.W.Frag} {f : Addr} {fd : FuncData} (F : FunD K "_law_rich" "_law_rich" (defArgs (topS 119)) (defBody (topS 119)) (defScope (topS 119)) [] [] f fd) : Binds K fd ["_law_script"] [] := F.bindsN fun _ _ _ _ _ _ us hl => match us, hl with | [_], _ => by kernel_rfl
theorem b__law_value_ {K : PySem.W.Frag} {f : Addr} {fd : FuncData} (F : FunD K "_law_value" "_law_value" (defArgs (topS 102)) (defBody (topS 102)) (defScope (topS 102)) [] [] f fd) : Binds K fd ["_law_labels_here", "_law_name"] [] := F.bindsN fun _ _ _ _ _ _ us hl => match us, hl with | [_, _], _ => by kernel_rfl
theorem b__law_matches_ {K : PySem.W.Frag} {f : Addr} {fd : FuncData} (F : FunD K "_law_matches" "_law_matches" (defArgs (topS 103)) (defBody (topS 103)) (defScope (topS 103)) [] [] f fd) : Binds K fd ["_law_matchers", "_law_labels_here"] [] := F.bindsN fun _ _ _ _ _ _ us hl => match us, hl with | [_, _], _ => by kernel_rfl
theorem b__law_way_ {K : PySem.W.Frag} {f : Addr} {fd : FuncData} (F : FunD K "_law_way" "_law_way" (defArgs (topS 104)) (defBody (topS 104)) (defScope (topS 104)) [] [] f fd) : Binds K fd ["_law_tree", "_law_labels_here"] [] := F.bindsN fun _ _ _ _ _ _ us hl => match us, hl with | [_, _], _ => by kernel_rfl
theorem b__law_find_ {K : PySem.W.Frag} {f : Addr} {fd : FuncData} (F : FunD K "_law_find" "_law_find" (defArgs (topS 117)) (defBody (topS 117)) (defScope (topS 117)) [] [] f fd) : Binds K fd ["_law_rows", "_law_name"] [] := F.bindsN fun _ _ _ _ _ _ us hl => match us, hl with | [_, _], _ => by kernel_rfl
theorem b__law_lcm_ {K : PySem.W.Frag} {f : Addr} {fd : FuncData} (F : FunD K "_law_lcm" "_law_lcm" (defArgs (topS 114)) (defBody (topS 114)) (defScope (topS 114)) [] [] f fd) : Binds K fd ["_law_a", "_law_b"] [] := F.bindsN fun _ _ _ _ _ _ us hl => match us, hl with | [_, _], _ => by kernel_rfl
theorem b__law_period_ {K : PySem.W.Frag} {f : Addr} {fd : FuncData} (F : FunD K "_law_period" "_law_period" (defArgs (topS 115)) (defBody (topS 115)) (defScope (topS 115)) [] [] f fd) : Binds K fd ["_law_days", "_law_rota_here"] [] := F.bindsN fun _ _ _ _ _ _ us hl => match us, hl with | [_, _], _ => by kernel_rfl
theorem b__law_settled_ {K : PySem.W.Frag} {f : Addr} {fd : FuncData} (F : FunD K "_law_settled" "_law_settled" (defArgs (topS 116)) (defBody (topS 116)) (defScope (topS 116)) [] [] f fd) : Binds K fd ["_law_rota_here"] [] := F.bindsN fun _ _ _ _ _ _ us hl => match us, hl with | [_], _ => by kernel_rfl
theorem b__law_muted_ {K : PySem.W.Frag} {f : Addr} {fd : FuncData} (F : FunD K "_law_muted" "_law_muted" (defArgs (topS 118)) (defBody (topS 118)) (defScope (topS 118)) [] [] f fd) : Binds K fd ["_law_made", "_law_mutes", "_law_time"] [] := F.bindsN fun _ _ _ _ _ _ us hl => match us, hl with | [_, _, _], _ => by kernel_rfl
theorem b__law_on_ {K : PySem.W.Frag} {f : Addr} {fd : FuncData} (F : FunD K "_law_on" "_law_on" (defArgs (topS 113)) (defBody (topS 113)) (defScope (topS 113)) [] [] f fd) : Binds K fd ["_law_days", "_law_rota_here", "_law_time"] [] := F.bindsN fun _ _ _ _ _ _ us hl => match us, hl with | [_, _, _], _ => by kernel_rfl
theorem b__law_is_bad_ {K : PySem.W.Frag} {f : Addr} {fd : FuncData} (F : FunD K "_law_is_bad" "_law_is_bad" (defArgs (topS 120)) (defBody (topS 120)) (defScope (topS 120)) [] [] f fd) : Binds K fd ["_law_made", "_law_settings", "_law_time"] [] := F.bindsN fun _ _ _ _ _ _ us hl => match us, hl with | [_, _, _], _ => by kernel_rfl
theorem b_can_fail_ {K : PySem.W.Frag} {f : Addr} {fd : FuncData} (F : FunD K "can_fail" "can_fail" (defArgs (topS 76)) (defBody (topS 76)) (defScope (topS 76)) [] [] f fd) : Binds K fd ["setup", "settings", "end", "time"] [] := F.bindsN fun _ _ _ _ _ _ us hl => match us, hl with | [_, _, _, _], _ => by kernel_rfl
theorem b_is_forced_ {K : PySem.W.Frag} {f : Addr} {fd : FuncData} (F : FunD K "is_forced" "is_forced" (defArgs (topS 75)) (defBody (topS 75)) (defScope (topS 75)) [] [] f fd) : Binds K fd ["setup", "settings", "due", "first", "last"] [] := F.bindsN fun _ _ _ _ _ _ us hl => match us, hl with | [_, _, _, _, _], _ => by kernel_rfl
theorem b_can_follow_ {K : PySem.W.Frag} {f : Addr} {fd : FuncData} (F : FunD K "can_follow" "can_follow" (defArgs (topS 80)) (defBody (topS 80)) (defScope (topS 80)) [] [] f fd) : Binds K fd ["setup", "settings", "time", "later"] [] := F.bindsN fun _ _ _ _ _ _ us hl => match us, hl with | [_, _, _, _], _ => by kernel_rfl
theorem b__from_here_ {K : PySem.W.Frag} {f : Addr} {fd : FuncData} (F : FunD K "_from_here" "_from_here" (defArgs (topS 89)) (defBody (topS 89)) (defScope (topS 89)) [] [] f fd) : Binds K fd ["setup", "settings", "time", "end", "later"] [] := F.bindsN fun _ _ _ _ _ _ us hl => match us, hl with | [_, _, _, _, _], _ => by kernel_rfl
theorem b_failing_ {K : PySem.W.Frag} {f : Addr} {fd : FuncData} (F : FunD K "failing" "failing" (defArgs (topS 90)) (defBody (topS 90)) (defScope (topS 90)) [] [] f fd) : Binds K fd ["setup", "settings", "first", "end"] [] := F.bindsN fun _ _ _ _ _ _ us hl => match us, hl with | [_, _, _, _], _ => by kernel_rfl
theorem b_first_due_ {K : PySem.W.Frag} {f : Addr} {fd : FuncData} (F : FunD K "first_due" "first_due" (defArgs (topS 78)) (defBody (topS 78)) (defScope (topS 78)) [] [] f fd) : Binds K fd ["settings", "start", "before"] [] := F.bindsN fun _ _ _ _ _ _ us hl => match us, hl with | [_, _, _], _ => by kernel_rfl
theorem b_can_begin_ {K : PySem.W.Frag} {f : Addr} {fd : FuncData} (F : FunD K "can_begin" "can_begin" (defArgs (topS 79)) (defBody (topS 79)) (defScope (topS 79)) [] [] f fd) : Binds K fd ["setup", "settings", "start", "before", "time"] [] := F.bindsN fun _ _ _ _ _ _ us hl => match us, hl with | [_, _, _, _, _], _ => by kernel_rfl
theorem b__pages_ {K : PySem.W.Frag} {f : Addr} {fd : FuncData} (F : FunD K "_pages" "_pages" (defArgs (topS 91)) (defBody (topS 91)) (defScope (topS 91)) [] [] f fd) : Binds K fd ["rows", "start", "first"] [] := F.bindsN fun _ _ _ _ _ _ us hl => match us, hl with | [_, _, _], _ => by kernel_rfl
theorem b__script_ {K : PySem.W.Frag} {f : Addr} {fd : FuncData} (F : FunD K "_script" "_script" (defArgs (topS 92)) (defBody (topS 92)) (defScope (topS 92)) [] [] f fd) : Binds K fd ["setup", "settings", "start", "end", "before", "rows"] [] := F.bindsN fun _ _ _ _ _ _ us hl => match us, hl with | [_, _, _, _, _, _], _ => by kernel_rfl
theorem b_can_precede_ {K : PySem.W.Frag} {f : Addr} {fd : FuncData} (F : FunD K "can_precede" "can_precede" (defArgs (topS 77)) (defBody (topS 77)) (defScope (topS 77)) [] [] f fd) : Binds K fd ["setup", "settings", "start", "time"] [] := F.bindsN fun _ _ _ _ _ _ us hl => match us, hl with | [_, _, _, _], _ => by kernel_rfl
theorem b_gap_ {K : PySem.W.Frag} {f : Addr} {fd : FuncData} (F : FunD K "gap" "gap" (defArgs (topS 93)) (defBody (topS 93)) (defScope (topS 93)) [] [] f fd) : Binds K fd ["setup", "labels", "start", "limit"] [] := F.bindsN fun _ _ _ _ _ _ us hl => match us, hl with | [_, _, _, _], _ => by kernel_rfl
theorem b_law_ {K : PySem.W.Frag} {f : Addr} {fd : FuncData} (F : FunD K "law" "law" (defArgs (topS 121)) (defBody (topS 121)) (defScope (topS 121)) [] [] f fd) : Binds K fd ["_law_script"] [] := F.bindsN fun _ _ _ _ _ _ us hl => match us, hl with | [_], _ => by kernel_rfl
/-- what the top has made -/
structure Facts (P : Program) (w : World) (K : PySem.W.Frag) (mg : Str → Option Value) (base : Heap) (C CE : Addr) : Prop where
  base1 : Base1 P w K mg base C fldG conG
  exc : ExT K mg CE
  sorted : mg "sorted" = none
  mkSetup : ∃ f fd, Mk K C f ∧ FunD K "__init__" "Setup.__init__" (defArgs sInit) (defBody sInit) (defScope sInit) [] [] f fd
  gSetup : mg "Setup" = some (.ref C)
  setup : ∃ f fd aT, FunD K "setup" "setup" (defArgs (topS 62)) (defBody (topS 62)) (defScope (topS 62)) [] [("store", .ref aT)] f fd ∧ mg "setup" = some (.ref f) ∧ ∀ H, SqT K H aT [.int 0, .int 10, .int 2, .int 0]
  d0 : DefAt K mg "require" 58
  d1 : DefAt K mg "is_between" 35
  d2 : DefAt K mg "names_of" 56
  d3 : DefAt K mg "is_value" 22
  d4 : DefAt K mg "is_name" 23
  d5 : DefAt K mg "is_new_name" 57
  d6 : DefAt K mg "all_true" 36
  d7 : DefAt K mg "span_fits" 37
  d8 : DefAt K mg "layer_fits" 40
  d9 : DefAt K mg "standin_fits" 41
  d10 : DefAt K mg "schedule_fits" 42
  d11 : DefAt K mg "check_people" 59
  d12 : DefAt K mg "policy_fits" 43
  d13 : DefAt K mg "window_fits" 44
  d14 : DefAt K mg "label_fits" 38
  d15 : DefAt K mg "labels_fit" 39
  d16 : DefAt K mg "settings_fit" 47
  d17 : DefAt K mg "matcher_fits" 45
  d18 : DefAt K mg "matchers_fit" 46
  d19 : DefAt K mg "route_fits" 48
  d20 : DefAt K mg "holdback_fits" 49
  d21 : DefAt K mg "check_routes" 60
  d22 : DefAt K mg "store_fits" 52
  d23 : DefAt K mg "check_rest" 61
  d24 : DefAt K mg "_law_setup" 108
  d25 : DefAt K mg "entry_of" 63
  d26 : DefAt K mg "policy_of" 66
  d27 : DefAt K mg "schedule_of" 65
  d28 : DefAt K mg "period" 6
  d29 : DefAt K mg "settled" 5
  d30 : DefAt K mg "_horizon" 86
  d31 : DefAt K mg "value_of" 24
  d32 : DefAt K mg "matches" 25
  d33 : DefAt K mg "matches_all" 26
  d34 : DefAt K mg "_later" 82
  d35 : DefAt K mg "way" 83
  d36 : DefAt K mg "end_of" 84
  d37 : DefAt K mg "in_spans" 2
  d38 : DefAt K mg "window_of" 67
  d39 : DefAt K mg "is_muted" 69
  d40 : DefAt K mg "on_layer" 3
  d41 : DefAt K mg "on_call" 4
  d42 : DefAt K mg "channels_of" 64
  d43 : DefAt K mg "is_sure" 70
  d44 : DefAt K mg "plan" 71
  d45 : DefAt K mg "delay" 72
  d46 : DefAt K mg "slack" 74
  d47 : DefAt K mg "sure_limit" 87
  d48 : DefAt K mg "_law_labels" 100
  d49 : DefAt K mg "_law_words" 98
  d50 : DefAt K mg "_law_cell" 95
  d51 : DefAt K mg "_law_worths" 99
  d52 : DefAt K mg "_law_draws" 96
  d53 : DefAt K mg "_law_layer" 106
  d54 : DefAt K mg "_law_rota" 107
  d55 : DefAt K mg "_law_ladder" 109
  d56 : DefAt K mg "_law_shutter" 110
  d57 : DefAt K mg "_law_matcher" 101
  d58 : DefAt K mg "_law_route" 105
  d59 : DefAt K mg "_law_holds" 111
  d60 : DefAt K mg "_law_world" 112
  d61 : DefAt K mg "_law_rich" 119
  d62 : DefAt K mg "_law_value" 102
  d63 : DefAt K mg "_law_matches" 103
  d64 : DefAt K mg "_law_way" 104
  d65 : DefAt K mg "_law_find" 117
  d66 : DefAt K mg "_law_lcm" 114
  d67 : DefAt K mg "_law_period" 115
  d68 : DefAt K mg "_law_settled" 116
  d69 : DefAt K mg "_law_muted" 118
  d70 : DefAt K mg "_law_on" 113
  d71 : DefAt K mg "_law_is_bad" 120
  d72 : DefAt K mg "can_fail" 76
  d73 : DefAt K mg "is_forced" 75
  d74 : DefAt K mg "can_follow" 80
  d75 : DefAt K mg "_from_here" 89
  d76 : DefAt K mg "failing" 90
  d77 : DefAt K mg "first_due" 78
  d78 : DefAt K mg "can_begin" 79
  d79 : DefAt K mg "_pages" 91
  d80 : DefAt K mg "_script" 92
  d81 : DefAt K mg "can_precede" 77
  d82 : DefAt K mg "gap" 93
theorem b_init_ {K : PySem.W.Frag} {f : Addr} {fd : FuncData} (F : FunD K "__init__" "Setup.__init__" (defArgs sInit) (defBody sInit) (defScope sInit) [] [] f fd) : Binds K fd N_init [] := F.bindsN fun _ _ _ _ _ _ us hl => match us, hl with | [_, _, _, _, _, _, _, _, _, _], _ => by kernel_rfl
theorem law_fn {P : Program} {w : World} {K : PySem.W.Frag} {mg : Str → Option Value} {base : Heap} {C CE f : Addr} {fd : FuncData} (h : Facts P w K mg base C CE) (F : FunD K "law" "law" (defArgs (topS 121)) (defBody (topS 121)) (defScope (topS 121)) [] [] f fd) :
    FnOk P w K mg base CX0 12 f fd ["_law_script"] (spLaw K) := by
  have B := h.base1
  obtain ⟨fI, fdI, MI, FI⟩ := h.mkSetup
  have k_Setup : CalAt P w K mg base C 2 "Setup" 9 s_Setup := cal_Setup MI h.gSetup (ok_init FI B) (b_init_ FI)
  have k_group_fits : CalAt P w K mg base C 0 "group_fits" 1 s_group_fits := cal_never
  have k_require : CalAt P w K mg base C 1 "require" 2 s_require := (h.d0).cal (N := N_require) ⟨rfl, rfl, rfl, by decide +kernel, rfl, by decide +kernel, by decide +kernel⟩ B Table.nil rfl c_require b_require_
  have k_is_between : CalAt P w K mg base C 1 "is_between" 3 s_is_between := (h.d1).cal (N := N_is_between) ⟨rfl, rfl, rfl, by decide +kernel, rfl, by decide +kernel, by decide +kernel⟩ B Table.nil rfl c_is_between b_is_between_
  have k_names_of : CalAt P w K mg base C 1 "names_of" 1 s_names_of := (h.d2).cal (N := N_names_of) ⟨rfl, rfl, rfl, by decide +kernel, rfl, by decide +kernel, by decide +kernel⟩ B Table.nil rfl c_names_of b_names_of_
  have k_is_value : CalAt P w K mg base C 1 "is_value" 1 s_is_value := (h.d3).cal (N := N_is_value) ⟨rfl, rfl, rfl, by decide +kernel, rfl, by decide +kernel, by decide +kernel⟩ B Table.nil rfl c_is_value b_is_value_
  have k_is_name : CalAt P w K mg base C 2 "is_name" 1 s_is_name := (h.d4).cal (N := N_is_name) ⟨rfl, rfl, rfl, by decide +kernel, rfl, by decide +kernel, by decide +kernel⟩ B (.cons (k_is_value.mono (by decide)) Table.nil) rfl c_is_name b_is_name_
  have k_is_new_name : CalAt P w K mg base C 3 "is_new_name" 2 s_is_new_name := (h.d5).cal (N := N_is_new_name) ⟨rfl, rfl, rfl, by decide +kernel, rfl, by decide +kernel, by decide +kernel⟩ B (.cons (k_names_of.mono (by decide)) (.cons (k_is_name.mono (by decide)) Table.nil)) rfl c_is_new_name b_is_new_name_
  have k_all_true : CalAt P w K mg base C 1 "all_true" 1 s_all_true := (h.d6).cal (N := N_all_true) ⟨rfl, rfl, rfl, by decide +kernel, rfl, by decide +kernel, by decide +kernel⟩ B Table.nil rfl c_all_true b_all_true_
  have k_span_fits : CalAt P w K mg base C 1 "span_fits" 2 s_span_fits := (h.d7).cal (N := N_span_fits) ⟨rfl, rfl, rfl, by decide +kernel, rfl, by decide +kernel, by decide +kernel⟩ B Table.nil rfl c_span_fits b_span_fits_
  have k_layer_fits : CalAt P w K mg base C 2 "layer_fits" 3 s_layer_fits := (h.d8).cal (N := N_layer_fits) ⟨rfl, rfl, rfl, by decide +kernel, rfl, by decide +kernel, by decide +kernel⟩ B (.cons (k_is_between.mono (by decide)) (.cons (k_all_true.mono (by decide)) (.cons (k_span_fits.mono (by decide)) Table.nil))) rfl c_layer_fits b_layer_fits_
  have k_standin_fits : CalAt P w K mg base C 1 "standin_fits" 2 s_standin_fits := (h.d9).cal (N := N_standin_fits) ⟨rfl, rfl, rfl, by decide +kernel, rfl, by decide +kernel, by decide +kernel⟩ B Table.nil rfl c_standin_fits b_standin_fits_
  have k_schedule_fits : CalAt P w K mg base C 3 "schedule_fits" 3 s_schedule_fits := (h.d10).cal (N := N_schedule_fits) ⟨rfl, rfl, rfl, by decide +kernel, rfl, by decide +kernel, by decide +kernel⟩ B (.cons (k_all_true.mono (by decide)) (.cons (k_layer_fits.mono (by decide)) (.cons (k_standin_fits.mono (by decide)) Table.nil))) rfl c_schedule_fits b_schedule_fits_
  have k_check_people : CalAt P w K mg base C 4 "check_people" 1 s_check_people := (h.d11).cal (N := N_check_people) ⟨rfl, rfl, rfl, by decide +kernel, rfl, by decide +kernel, by decide +kernel⟩ B (.cons (k_require.mono (by decide)) (.cons (k_is_between.mono (by decide)) (.cons (k_is_new_name.mono (by decide)) (.cons (k_names_of.mono (by decide)) (.cons (k_schedule_fits.mono (by decide)) Table.nil))))) rfl c_check_people b_check_people_
  have k_policy_fits : CalAt P w K mg base C 2 "policy_fits" 2 s_policy_fits := (h.d12).cal (N := N_policy_fits) ⟨rfl, rfl, rfl, by decide +kernel, rfl, by decide +kernel, by decide +kernel⟩ B (.cons (k_is_between.mono (by decide)) (.cons (k_all_true.mono (by decide)) Table.nil)) rfl c_policy_fits b_policy_fits_
  have k_window_fits : CalAt P w K mg base C 2 "window_fits" 2 s_window_fits := (h.d13).cal (N := N_window_fits) ⟨rfl, rfl, rfl, by decide +kernel, rfl, by decide +kernel, by decide +kernel⟩ B (.cons (k_all_true.mono (by decide)) (.cons (k_span_fits.mono (by decide)) (.cons (k_is_between.mono (by decide)) Table.nil))) rfl c_window_fits b_window_fits_
  have k_label_fits : CalAt P w K mg base C 3 "label_fits" 1 s_label_fits := (h.d14).cal (N := N_label_fits) ⟨rfl, rfl, rfl, by decide +kernel, rfl, by decide +kernel, by decide +kernel⟩ B (.cons (k_is_name.mono (by decide)) Table.nil) rfl c_label_fits b_label_fits_
  have k_labels_fit : CalAt P w K mg base C 4 "labels_fit" 1 s_labels_fit := (h.d15).cal (N := N_labels_fit) ⟨rfl, rfl, rfl, by decide +kernel, rfl, by decide +kernel, by decide +kernel⟩ B (.cons (k_all_true.mono (by decide)) (.cons (k_label_fits.mono (by decide)) Table.nil)) rfl c_labels_fit b_labels_fit_
  have k_settings_fit : CalAt P w K mg base C 5 "settings_fit" 3 s_settings_fit := (h.d16).cal (N := N_settings_fit) ⟨rfl, rfl, rfl, by decide +kernel, rfl, by decide +kernel, by decide +kernel⟩ B (.cons (k_is_between.mono (by decide)) (.cons (k_labels_fit.mono (by decide)) (.cons (k_all_true.mono (by decide)) Table.nil))) rfl c_settings_fit b_settings_fit_
  have k_matcher_fits : CalAt P w K mg base C 4 "matcher_fits" 1 s_matcher_fits := (h.d17).cal (N := N_matcher_fits) ⟨rfl, rfl, rfl, by decide +kernel, rfl, by decide +kernel, by decide +kernel⟩ B (.cons (k_is_between.mono (by decide)) (.cons (k_label_fits.mono (by decide)) (.cons (k_all_true.mono (by decide)) (.cons (k_is_value.mono (by decide)) Table.nil)))) rfl c_matcher_fits b_matcher_fits_
  have k_matchers_fit : CalAt P w K mg base C 5 "matchers_fit" 1 s_matchers_fit := (h.d18).cal (N := N_matchers_fit) ⟨rfl, rfl, rfl, by decide +kernel, rfl, by decide +kernel, by decide +kernel⟩ B (.cons (k_all_true.mono (by decide)) (.cons (k_matcher_fits.mono (by decide)) Table.nil)) rfl c_matchers_fit b_matchers_fit_
  have k_route_fits : CalAt P w K mg base C 6 "route_fits" 4 s_route_fits := (h.d19).cal (N := N_route_fits) ⟨rfl, rfl, rfl, by decide +kernel, rfl, by decide +kernel, by decide +kernel⟩ B (.cons (k_is_between.mono (by decide)) (.cons (k_settings_fit.mono (by decide)) (.cons (k_matchers_fit.mono (by decide)) Table.nil))) rfl c_route_fits b_route_fits_
  have k_holdback_fits : CalAt P w K mg base C 6 "holdback_fits" 1 s_holdback_fits := (h.d20).cal (N := N_holdback_fits) ⟨rfl, rfl, rfl, by decide +kernel, rfl, by decide +kernel, by decide +kernel⟩ B (.cons (k_labels_fit.mono (by decide)) (.cons (k_matchers_fit.mono (by decide)) Table.nil)) rfl c_holdback_fits b_holdback_fits_
  have k_check_routes : CalAt P w K mg base C 7 "check_routes" 1 s_check_routes := (h.d21).cal (N := N_check_routes) ⟨rfl, rfl, rfl, by decide +kernel, rfl, by decide +kernel, by decide +kernel⟩ B (.cons (k_names_of.mono (by decide)) (.cons (k_policy_fits.mono (by decide)) (.cons (k_is_new_name.mono (by decide)) (.cons (k_require.mono (by decide)) (.cons (k_window_fits.mono (by decide)) (.cons (k_route_fits.mono (by decide)) (.cons (k_holdback_fits.mono (by decide)) Table.nil))))))) rfl c_check_routes b_check_routes_
  have k_store_fits : CalAt P w K mg base C 2 "store_fits" 1 s_store_fits := (h.d22).cal (N := N_store_fits) ⟨rfl, rfl, rfl, by decide +kernel, rfl, by decide +kernel, by decide +kernel⟩ B (.cons (k_is_between.mono (by decide)) Table.nil) rfl c_store_fits b_store_fits_
  have k_check_rest : CalAt P w K mg base C 4 "check_rest" 1 s_check_rest := (h.d23).cal (N := N_check_rest) ⟨rfl, rfl, rfl, by decide +kernel, rfl, by decide +kernel, by decide +kernel⟩ B (.cons (k_group_fits.mono (by decide)) (.cons (k_is_new_name.mono (by decide)) (.cons (k_require.mono (by decide)) (.cons (k_is_between.mono (by decide)) (.cons (k_store_fits.mono (by decide)) Table.nil))))) rfl c_check_rest b_check_rest_
  have k_entry_of : CalAt P w K mg base C 1 "entry_of" 3 s_entry_of := (h.d25).cal (N := N_entry_of) ⟨rfl, rfl, rfl, by decide +kernel, rfl, by decide +kernel, by decide +kernel⟩ B Table.nil rfl c_entry_of b_entry_of_
  have k_policy_of : CalAt P w K mg base C 2 "policy_of" 2 s_policy_of := (h.d26).cal (N := N_policy_of) ⟨rfl, rfl, rfl, by decide +kernel, rfl, by decide +kernel, by decide +kernel⟩ B (.cons (k_entry_of.mono (by decide)) Table.nil) rfl c_policy_of b_policy_of_
  have k_schedule_of : CalAt P w K mg base C 2 "schedule_of" 2 s_schedule_of := (h.d27).cal (N := N_schedule_of) ⟨rfl, rfl, rfl, by decide +kernel, rfl, by decide +kernel, by decide +kernel⟩ B (.cons (k_entry_of.mono (by decide)) Table.nil) rfl c_schedule_of b_schedule_of_
  have k_period : CalAt P w K mg base C 1 "period" 2 s_period := (h.d28).cal (N := N_period) ⟨rfl, rfl, rfl, by decide +kernel, rfl, by decide +kernel, by decide +kernel⟩ B Table.nil rfl c_period b_period_
  have k_settled : CalAt P w K mg base C 1 "settled" 1 s_settled := (h.d29).cal (N := N_settled) ⟨rfl, rfl, rfl, by decide +kernel, rfl, by decide +kernel, by decide +kernel⟩ B Table.nil rfl c_settled b_settled_
  have k_value_of : CalAt P w K mg base C 1 "value_of" 2 s_value_of := (h.d31).cal (N := N_value_of) ⟨rfl, rfl, rfl, by decide +kernel, rfl, by decide +kernel, by decide +kernel⟩ B Table.nil rfl c_value_of b_value_of_
  have k_matches : CalAt P w K mg base C 2 "matches" 2 s_matches := (h.d32).cal (N := N_matches) ⟨rfl, rfl, rfl, by decide +kernel, rfl, by decide +kernel, by decide +kernel⟩ B (.cons (k_value_of.mono (by decide)) Table.nil) rfl c_matches b_matches_
  have k_matches_all : CalAt P w K mg base C 3 "matches_all" 2 s_matches_all := (h.d33).cal (N := N_matches_all) ⟨rfl, rfl, rfl, by decide +kernel, rfl, by decide +kernel, by decide +kernel⟩ B (.cons (k_matches.mono (by decide)) Table.nil) rfl c_matches_all b_matches_all_
  have k__later : CalAt P w K mg base C 4 "_later" 3 s__later := (h.d34).cal (N := N__later) ⟨rfl, rfl, rfl, by decide +kernel, rfl, by decide +kernel, by decide +kernel⟩ B (.cons (k_matches_all.mono (by decide)) Table.nil) rfl c__later b__later_
  have k_way : CalAt P w K mg base C 5 "way" 2 s_way := (h.d35).cal (N := N_way) ⟨rfl, rfl, rfl, by decide +kernel, rfl, by decide +kernel, by decide +kernel⟩ B (.cons (k__later.mono (by decide)) Table.nil) rfl c_way b_way_
  have k_end_of : CalAt P w K mg base C 6 "end_of" 2 s_end_of := (h.d36).cal (N := N_end_of) ⟨rfl, rfl, rfl, by decide +kernel, rfl, by decide +kernel, by decide +kernel⟩ B (.cons (k_way.mono (by decide)) Table.nil) rfl c_end_of b_end_of_
  have k_in_spans : CalAt P w K mg base C 1 "in_spans" 3 s_in_spans := (h.d37).cal (N := N_in_spans) ⟨rfl, rfl, rfl, by decide +kernel, rfl, by decide +kernel, by decide +kernel⟩ B Table.nil rfl c_in_spans b_in_spans_
  have k_window_of : CalAt P w K mg base C 2 "window_of" 2 s_window_of := (h.d38).cal (N := N_window_of) ⟨rfl, rfl, rfl, by decide +kernel, rfl, by decide +kernel, by decide +kernel⟩ B (.cons (k_entry_of.mono (by decide)) Table.nil) rfl c_window_of b_window_of_
  have k_is_muted : CalAt P w K mg base C 3 "is_muted" 3 s_is_muted := (h.d39).cal (N := N_is_muted) ⟨rfl, rfl, rfl, by decide +kernel, rfl, by decide +kernel, by decide +kernel⟩ B (.cons (k_in_spans.mono (by decide)) (.cons (k_window_of.mono (by decide)) Table.nil)) rfl c_is_muted b_is_muted_
  have k_on_layer : CalAt P w K mg base C 2 "on_layer" 3 s_on_layer := (h.d40).cal (N := N_on_layer) ⟨rfl, rfl, rfl, by decide +kernel, rfl, by decide +kernel, by decide +kernel⟩ B (.cons (k_in_spans.mono (by decide)) Table.nil) rfl c_on_layer b_on_layer_
  have k_on_call : CalAt P w K mg base C 3 "on_call" 3 s_on_call := (h.d41).cal (N := N_on_call) ⟨rfl, rfl, rfl, by decide +kernel, rfl, by decide +kernel, by decide +kernel⟩ B (.cons (k_on_layer.mono (by decide)) Table.nil) rfl c_on_call b_on_call_
  have k_channels_of : CalAt P w K mg base C 2 "channels_of" 2 s_channels_of := (h.d42).cal (N := N_channels_of) ⟨rfl, rfl, rfl, by decide +kernel, rfl, by decide +kernel, by decide +kernel⟩ B (.cons (k_entry_of.mono (by decide)) Table.nil) rfl c_channels_of b_channels_of_
  have k_is_sure : CalAt P w K mg base C 3 "is_sure" 2 s_is_sure := (h.d43).cal (N := N_is_sure) ⟨rfl, rfl, rfl, by decide +kernel, rfl, by decide +kernel, by decide +kernel⟩ B (.cons (k_channels_of.mono (by decide)) Table.nil) rfl c_is_sure b_is_sure_
  have k_plan : CalAt P w K mg base C 4 "plan" 3 s_plan := (h.d44).cal (N := N_plan) ⟨rfl, rfl, rfl, by decide +kernel, rfl, by decide +kernel, by decide +kernel⟩ B (.cons (k_policy_of.mono (by decide)) (.cons (k_on_call.mono (by decide)) (.cons (k_schedule_of.mono (by decide)) (.cons (k_is_sure.mono (by decide)) Table.nil)))) rfl c_plan b_plan_
  have k_delay : CalAt P w K mg base C 5 "delay" 3 s_delay := (h.d45).cal (N := N_delay) ⟨rfl, rfl, rfl, by decide +kernel, rfl, by decide +kernel, by decide +kernel⟩ B (.cons (k_plan.mono (by decide)) Table.nil) rfl c_delay b_delay_
  have k_slack : CalAt P w K mg base C 1 "slack" 1 s_slack := (h.d46).cal (N := N_slack) ⟨rfl, rfl, rfl, by decide +kernel, rfl, by decide +kernel, by decide +kernel⟩ B Table.nil rfl c_slack b_slack_
  have k__law_words : CalAt P w K mg base C 1 "_law_words" 2 s__law_words := (h.d49).cal (N := N__law_words) ⟨rfl, rfl, rfl, by decide +kernel, rfl, by decide +kernel, by decide +kernel⟩ B Table.nil rfl c__law_words b__law_words_
  have k__law_cell : CalAt P w K mg base C 1 "_law_cell" 2 s__law_cell := (h.d50).cal (N := N__law_cell) ⟨rfl, rfl, rfl, by decide +kernel, rfl, by decide +kernel, by decide +kernel⟩ B Table.nil rfl c__law_cell b__law_cell_
  have k__law_worths : CalAt P w K mg base C 1 "_law_worths" 2 s__law_worths := (h.d51).cal (N := N__law_worths) ⟨rfl, rfl, rfl, by decide +kernel, rfl, by decide +kernel, by decide +kernel⟩ B Table.nil rfl c__law_worths b__law_worths_
  have k__law_draws : CalAt P w K mg base C 1 "_law_draws" 2 s__law_draws := (h.d52).cal (N := N__law_draws) ⟨rfl, rfl, rfl, by decide +kernel, rfl, by decide +kernel, by decide +kernel⟩ B Table.nil rfl c__law_draws b__law_draws_
  have k__law_layer : CalAt P w K mg base C 1 "_law_layer" 3 s__law_layer := (h.d53).cal (N := N__law_layer) ⟨rfl, rfl, rfl, by decide +kernel, rfl, by decide +kernel, by decide +kernel⟩ B Table.nil rfl c__law_layer b__law_layer_
  have k__law_rota : CalAt P w K mg base C 2 "_law_rota" 4 s__law_rota := (h.d54).cal (N := N__law_rota) ⟨rfl, rfl, rfl, by decide +kernel, rfl, by decide +kernel, by decide +kernel⟩ B (.cons (k__law_draws.mono (by decide)) (.cons (k__law_layer.mono (by decide)) Table.nil)) rfl c__law_rota b__law_rota_
  have k__law_ladder : CalAt P w K mg base C 1 "_law_ladder" 3 s__law_ladder := (h.d55).cal (N := N__law_ladder) ⟨rfl, rfl, rfl, by decide +kernel, rfl, by decide +kernel, by decide +kernel⟩ B Table.nil rfl c__law_ladder b__law_ladder_
  have k__law_shutter : CalAt P w K mg base C 1 "_law_shutter" 3 s__law_shutter := (h.d56).cal (N := N__law_shutter) ⟨rfl, rfl, rfl, by decide +kernel, rfl, by decide +kernel, by decide +kernel⟩ B Table.nil rfl c__law_shutter b__law_shutter_
  have k__law_matcher : CalAt P w K mg base C 1 "_law_matcher" 4 s__law_matcher := (h.d57).cal (N := N__law_matcher) ⟨rfl, rfl, rfl, by decide +kernel, rfl, by decide +kernel, by decide +kernel⟩ B Table.nil rfl c__law_matcher b__law_matcher_
  have k__law_route : CalAt P w K mg base C 2 "_law_route" 6 s__law_route := (h.d58).cal (N := N__law_route) ⟨rfl, rfl, rfl, by decide +kernel, rfl, by decide +kernel, by decide +kernel⟩ B (.cons (k__law_draws.mono (by decide)) (.cons (k__law_matcher.mono (by decide)) Table.nil)) rfl c__law_route b__law_route_
  have k__law_holds : CalAt P w K mg base C 2 "_law_holds" 3 s__law_holds := (h.d59).cal (N := N__law_holds) ⟨rfl, rfl, rfl, by decide +kernel, rfl, by decide +kernel, by decide +kernel⟩ B (.cons (k__law_draws.mono (by decide)) (.cons (k__law_matcher.mono (by decide)) Table.nil)) rfl c__law_holds b__law_holds_
  have k__law_value : CalAt P w K mg base C 1 "_law_value" 2 s__law_value := (h.d62).cal (N := N__law_value) ⟨rfl, rfl, rfl, by decide +kernel, rfl, by decide +kernel, by decide +kernel⟩ B Table.nil rfl c__law_value b__law_value_
  have k__law_matches : CalAt P w K mg base C 2 "_law_matches" 2 s__law_matches := (h.d63).cal (N := N__law_matches) ⟨rfl, rfl, rfl, by decide +kernel, rfl, by decide +kernel, by decide +kernel⟩ B (.cons (k__law_value.mono (by decide)) Table.nil) rfl c__law_matches b__law_matches_
  have k__law_way : CalAt P w K mg base C 3 "_law_way" 2 s__law_way := (h.d64).cal (N := N__law_way) ⟨rfl, rfl, rfl, by decide +kernel, rfl, by decide +kernel, by decide +kernel⟩ B (.cons (k__law_matches.mono (by decide)) Table.nil) rfl c__law_way b__law_way_
  have k__law_find : CalAt P w K mg base C 1 "_law_find" 2 s__law_find := (h.d65).cal (N := N__law_find) ⟨rfl, rfl, rfl, by decide +kernel, rfl, by decide +kernel, by decide +kernel⟩ B Table.nil rfl c__law_find b__law_find_
  have k__law_lcm : CalAt P w K mg base C 1 "_law_lcm" 2 s__law_lcm := (h.d66).cal (N := N__law_lcm) ⟨rfl, rfl, rfl, by decide +kernel, rfl, by decide +kernel, by decide +kernel⟩ B Table.nil rfl c__law_lcm b__law_lcm_
  have k__law_period : CalAt P w K mg base C 2 "_law_period" 2 s__law_period := (h.d67).cal (N := N__law_period) ⟨rfl, rfl, rfl, by decide +kernel, rfl, by decide +kernel, by decide +kernel⟩ B (.cons (k__law_lcm.mono (by decide)) Table.nil) rfl c__law_period b__law_period_
  have k__law_settled : CalAt P w K mg base C 1 "_law_settled" 1 s__law_settled := (h.d68).cal (N := N__law_settled) ⟨rfl, rfl, rfl, by decide +kernel, rfl, by decide +kernel, by decide +kernel⟩ B Table.nil rfl c__law_settled b__law_settled_
  have k__law_muted : CalAt P w K mg base C 2 "_law_muted" 3 s__law_muted := (h.d69).cal (N := N__law_muted) ⟨rfl, rfl, rfl, by decide +kernel, rfl, by decide +kernel, by decide +kernel⟩ B (.cons (k__law_find.mono (by decide)) Table.nil) rfl c__law_muted b__law_muted_
  have k__law_on : CalAt P w K mg base C 1 "_law_on" 3 s__law_on := (h.d70).cal (N := N__law_on) ⟨rfl, rfl, rfl, by decide +kernel, rfl, by decide +kernel, by decide +kernel⟩ B Table.nil rfl c__law_on b__law_on_
  have k__law_is_bad : CalAt P w K mg base C 3 "_law_is_bad" 3 s__law_is_bad := (h.d71).cal (N := N__law_is_bad) ⟨rfl, rfl, rfl, by decide +kernel, rfl, by decide +kernel, by decide +kernel⟩ B (.cons (k__law_muted.mono (by decide)) (.cons (k__law_find.mono (by decide)) (.cons (k__law_on.mono (by decide)) Table.nil))) rfl c__law_is_bad b__law_is_bad_
  have k_can_fail : CalAt P w K mg base C 4 "can_fail" 4 s_can_fail := (h.d72).cal (N := N_can_fail) ⟨rfl, rfl, rfl, by decide +kernel, rfl, by decide +kernel, by decide +kernel⟩ B (.cons (k_policy_of.mono (by decide)) (.cons (k_on_call.mono (by decide)) (.cons (k_schedule_of.mono (by decide)) (.cons (k_is_sure.mono (by decide)) Table.nil)))) rfl c_can_fail b_can_fail_
  have k_is_forced : CalAt P w K mg base C 4 "is_forced" 5 s_is_forced := (h.d73).cal (N := N_is_forced) ⟨rfl, rfl, rfl, by decide +kernel, rfl, by decide +kernel, by decide +kernel⟩ B (.cons (k_slack.mono (by decide)) (.cons (k_is_muted.mono (by decide)) Table.nil)) rfl c_is_forced b_is_forced_
  have k_can_follow : CalAt P w K mg base C 5 "can_follow" 4 s_can_follow := (h.d74).cal (N := N_can_follow) ⟨rfl, rfl, rfl, by decide +kernel, rfl, by decide +kernel, by decide +kernel⟩ B (.cons (k_is_muted.mono (by decide)) (.cons (k_is_forced.mono (by decide)) Table.nil)) rfl c_can_follow b_can_follow_
  have k__from_here : CalAt P w K mg base C 6 "_from_here" 5 s__from_here := (h.d75).cal (N := N__from_here) ⟨rfl, rfl, rfl, by decide +kernel, rfl, by decide +kernel, by decide +kernel⟩ B (.cons (k_can_fail.mono (by decide)) (.cons (k_is_forced.mono (by decide)) (.cons (k_can_follow.mono (by decide)) Table.nil))) rfl c__from_here b__from_here_
  have k_failing : CalAt P w K mg base C 7 "failing" 4 s_failing := (h.d76).cal (N := N_failing) ⟨rfl, rfl, rfl, by decide +kernel, rfl, by decide +kernel, by decide +kernel⟩ B (.cons (k__from_here.mono (by decide)) Table.nil) rfl c_failing b_failing_
  have k_first_due : CalAt P w K mg base C 1 "first_due" 3 s_first_due := (h.d77).cal (N := N_first_due) ⟨rfl, rfl, rfl, by decide +kernel, rfl, by decide +kernel, by decide +kernel⟩ B Table.nil rfl c_first_due b_first_due_
  have k_can_begin : CalAt P w K mg base C 5 "can_begin" 5 s_can_begin := (h.d78).cal (N := N_can_begin) ⟨rfl, rfl, rfl, by decide +kernel, rfl, by decide +kernel, by decide +kernel⟩ B (.cons (k_is_muted.mono (by decide)) (.cons (k_is_forced.mono (by decide)) (.cons (k_first_due.mono (by decide)) Table.nil))) rfl c_can_begin b_can_begin_
  have k__pages : CalAt P w K mg base C 1 "_pages" 3 s__pages := (h.d79).cal (N := N__pages) ⟨rfl, rfl, rfl, by decide +kernel, rfl, by decide +kernel, by decide +kernel⟩ B Table.nil rfl c__pages b__pages_
  have k__script : CalAt P w K mg base C 6 "_script" 6 s__script := (h.d80).cal (N := N__script) ⟨rfl, rfl, rfl, by decide +kernel, rfl, by decide +kernel, by decide +kernel⟩ B (.cons (k_is_forced.mono (by decide)) (.cons (k_first_due.mono (by decide)) (.cons (k_can_begin.mono (by decide)) (.cons (k__pages.mono (by decide)) Table.nil)))) rfl c__script b__script_
  have k_can_precede : CalAt P w K mg base C 5 "can_precede" 4 s_can_precede := (h.d81).cal (N := N_can_precede) ⟨rfl, rfl, rfl, by decide +kernel, rfl, by decide +kernel, by decide +kernel⟩ B (.cons (k_is_muted.mono (by decide)) (.cons (k_is_forced.mono (by decide)) Table.nil)) rfl c_can_precede b_can_precede_
  have k_gap : CalAt P w K mg base C 8 "gap" 4 s_gap := (h.d82).cal (N := N_gap) ⟨rfl, rfl, rfl, by decide +kernel, rfl, by decide +kernel, by decide +kernel⟩ B (.cons (k_end_of.mono (by decide)) (.cons (k_failing.mono (by decide)) (.cons (k__script.mono (by decide)) (.cons (k_can_precede.mono (by decide)) Table.nil)))) rfl c_gap b_gap_
  obtain ⟨fS, fdS, aT, FS, gS, hT⟩ := h.setup
  have G_setup := ok_setup (k := 7) FS B (.cons (k_Setup.mono (by decide)) (.cons (k_check_people.mono (by decide)) (.cons (k_check_routes.mono (by decide)) (.cons (k_check_rest.mono (by decide)) Table.nil))))
  obtain ⟨f1, fd1, F1, g1⟩ := h.d24
  have k__law_setup : CalAt P w K mg base C 9 "_law_setup" 9 s__law_setup := FnAt.cal ⟨f1, fd1, _, ok_lsetup (k := 8) F1 B FS gS hT G_setup, g1, F1.kp, b__law_setup_ F1⟩
  obtain ⟨f2, fd2, F2, g2⟩ := h.d60
  have G_world := ok_world (k := 9) F2 B (.cons (k__law_words.mono (by decide)) (.cons (k__law_cell.mono (by decide)) (.cons (k__law_worths.mono (by decide)) (.cons (k__law_draws.mono (by decide)) (.cons (k__law_rota.mono (by decide)) (.cons (k__law_ladder.mono (by decide)) (.cons (k__law_shutter.mono (by decide)) (.cons (k__law_route.mono (by decide)) (.cons (k__law_holds.mono (by decide)) (.cons (k__law_setup.mono (by decide)) Table.nil))))))))))
  obtain ⟨f3, fd3, F3, g3⟩ := h.d61
  have k__law_rich : CalAt P w K mg base C 11 "_law_rich" 1 s__law_rich := FnAt.cal ⟨f3, fd3, _, ok_rich (k := 10) F3 B (.cons (k__law_cell.mono (by decide)) (.cons (k__law_setup.mono (by decide)) Table.nil)) G_world g2 F2.kp (b__law_world_ F2), g3, F3.kp, b__law_rich_ F3⟩
  obtain ⟨f4, fd4, F4, g4⟩ := h.d30
  have G_hor := (ok_horizon (k := 2) F4 B (.cons (k_policy_of.mono (by decide)) (.cons (k_schedule_of.mono (by decide)) (.cons (k_period.mono (by decide)) (.cons (k_settled.mono (by decide)) Table.nil)))) h.exc).mono (k := 6) (by decide)
  obtain ⟨f5, fd5, F5, g5⟩ := h.d47
  have G_sure := (ok_sure (k := 6) F5 B (.cons (k_end_of.mono (by decide)) (.cons (k_is_muted.mono (by decide)) (.cons (k_delay.mono (by decide)) (.cons (k_slack.mono (by decide)) Table.nil)))) h.exc G_hor g4 F4.kp (b__horizon_ F4)).mono (k := 11) (by decide)
  obtain ⟨f6, fd6, F6, g6⟩ := h.d48
  have G_lab := ok_labels (k := 10) F6 B h.sorted
  exact ok_law (k := 11) F B (.cons (k__law_draws.mono (by decide)) (.cons (k__law_cell.mono (by decide)) (.cons (k__law_way.mono (by decide)) (.cons (k__law_find.mono (by decide)) (.cons (k__law_period.mono (by decide)) (.cons (k__law_lcm.mono (by decide)) (.cons (k__law_settled.mono (by decide)) (.cons (k__law_muted.mono (by decide)) (.cons (k__law_is_bad.mono (by decide)) (.cons (k_gap.mono (by decide)) Table.nil)))))))))) (k__law_rich.mono (by decide)) G_lab g6 F6.kp (b__law_labels_ F6) G_sure g5 F5.kp (b_sure_limit_ F5) h.exc
end WF
end
/-! text WZ0 -/
section
set_option Elab.async false
set_option linter.all false
set_option maxRecDepth 100000
set_option maxHeartbeats 4000000
/-! What the head tells: printed by gen.py. -/
namespace WF
open PySem PySem.Spec PyProof.Rows L2
theorem lcm_of {K : PySem.W.Frag} {h : Heap} {mg : Str → Option Value} (X : K.In h) (G : h.Ns mainGlobals mg) (c : exB K = true) : mg "lcm" = some (.builtin "math.lcm") := by
  have c1 := (He.ba c).1
  cases e : PySem.W.nsIn K mainGlobals "lcm" with
  | none =>
    rw [e] at c1
    cases c1
  | some o =>
    rw [e] at c1
    cases o with
    | none => cases c1
    | some v =>
      cases v with
      | builtin n =>
        have en : n = "math.lcm" := of_decide_eq_true c1
        rw [en] at e
        exact PySem.W.mg_of X G e
      | _ => cases c1
theorem store_of {K : PySem.W.Frag} (c : exB K = true) (H : Hp) : SqT K H (stAt K) [.int 0, .int 10, .int 2, .int 0] := by
  have c1 := (He.ba c).2
  cases q : K.lookup (stAt K) with
  | none =>
    rw [q] at c1
    cases c1
  | some o =>
    obtain ⟨oc, od, dt, osl⟩ := o
    rw [q] at c1
    cases oc with
    | type c =>
      cases dt with
      | seq its n =>
        obtain ⟨h1, h2⟩ := He.ba (show (decide (c = "tuple") && (decide (its.size ≤ sizeLine) && He.relAll [V.int 0, V.int 10, V.int 2, V.int 0] its.toList)) = true from c1)
        obtain ⟨h3, h4⟩ := He.ba h2
        exact .inr ⟨_, its, n, q, congrArg Value.type (of_decide_eq_true h1), rfl, of_decide_eq_true h3, He.relAll_ok h4⟩
      | _ => cases c1
    | _ => cases dt <;> cases c1
theorem con_of {K : PySem.W.Frag} {C : Addr} {h : Heap} {mg : Str → Option Value} (X : K.In h) (G : h.Ns mainGlobals mg) (c : He.SaysD faL fnL K) : ∀ x d, conG.lookup x = some d → ∃ u v, mg x = some u ∧ RelV v u ∧ ∀ H, Rep K C H v d := by
  intro x d q
  by_cases h0 : x = ("MOST_PERIOD" : Str)
  · subst h0
    cases (show some ((.int 2000) : D) = some d from q)
    obtain ⟨t, e⟩ := He.int_ok X G (c.fact 116 rfl)
    exact ⟨_, .int 2000, e, ⟨t, rfl⟩, fun H => .int _⟩
  by_cases h1 : x = ("LETTERS" : Str)
  · subst h1
    cases (show some ((.str "abcdefghijklmnopqrstuvwxyz") : D) = some d from q)
    obtain ⟨t, e⟩ := He.str_ok X G (c.fact 117 rfl)
    exact ⟨_, .str "abcdefghijklmnopqrstuvwxyz", e, ⟨t, rfl⟩, fun H => .str _⟩
  by_cases h2 : x = ("WORD_CHARS" : Str)
  · subst h2
    cases (show some ((.str "abcdefghijklmnopqrstuvwxyz0123456789_") : D) = some d from q)
    obtain ⟨t, e⟩ := He.str_ok X G (c.fact 118 rfl)
    exact ⟨_, .str "abcdefghijklmnopqrstuvwxyz0123456789_", e, ⟨t, rfl⟩, fun H => .str _⟩
  by_cases h3 : x = ("MOST_CHARS" : Str)
  · subst h3
    cases (show some ((.int 20) : D) = some d from q)
    obtain ⟨t, e⟩ := He.int_ok X G (c.fact 119 rfl)
    exact ⟨_, .int 20, e, ⟨t, rfl⟩, fun H => .int _⟩
  by_cases h4 : x = ("LAST_TIME" : Str)
  · subst h4
    cases (show some ((.int 10000) : D) = some d from q)
    obtain ⟨t, e⟩ := He.int_ok X G (c.fact 120 rfl)
    exact ⟨_, .int 10000, e, ⟨t, rfl⟩, fun H => .int _⟩
  by_cases h5 : x = ("MOST_LABELS" : Str)
  · subst h5
    cases (show some ((.int 6) : D) = some d from q)
    obtain ⟨t, e⟩ := He.int_ok X G (c.fact 121 rfl)
    exact ⟨_, .int 6, e, ⟨t, rfl⟩, fun H => .int _⟩
  by_cases h6 : x = ("RESERVED" : Str)
  · subst h6
    cases (show some ((.str "zzzzzzzzzzzzzzzzzzzz") : D) = some d from q)
    obtain ⟨t, e⟩ := He.str_ok X G (c.fact 122 rfl)
    exact ⟨_, .str "zzzzzzzzzzzzzzzzzzzz", e, ⟨t, rfl⟩, fun H => .str _⟩
  by_cases h7 : x = ("LONGEST_checks" : Str)
  · subst h7
    cases (show some ((.int 1000) : D) = some d from q)
    obtain ⟨t, e⟩ := He.int_ok X G (c.fact 123 rfl)
    exact ⟨_, .int 1000, e, ⟨t, rfl⟩, fun H => .int _⟩
  by_cases h8 : x = ("MOST" : Str)
  · subst h8
    cases (show some ((.int 6) : D) = some d from q)
    obtain ⟨t, e⟩ := He.int_ok X G (c.fact 124 rfl)
    exact ⟨_, .int 6, e, ⟨t, rfl⟩, fun H => .int _⟩
  by_cases h9 : x = ("LONGEST_setup" : Str)
  · subst h9
    cases (show some ((.int 1000) : D) = some d from q)
    obtain ⟨t, e⟩ := He.int_ok X G (c.fact 125 rfl)
    exact ⟨_, .int 1000, e, ⟨t, rfl⟩, fun H => .int _⟩
  exfalso
  have z : ∀ (l : List (Str × D)), (∀ p ∈ l, x ≠ p.1) → l.lookup x = none := fun l hl => by
    induction l with
    | nil => rfl
    | cons p l ih =>
      rw [List.lookup_cons]
      have : (x == p.1) = false := by simpa using hl p (List.mem_cons_self ..)
      rw [this]
      exact ih fun r hr => hl r (List.mem_cons_of_mem _ hr)
  rw [z conG (by
    intro p hp
    simp only [conG, List.mem_cons, List.not_mem_nil, or_false] at hp
    rcases hp with rfl | rfl | rfl | rfl | rfl | rfl | rfl | rfl | rfl | rfl <;> assumption)] at q
  cases q
theorem facts_of {P : Program} {w : World} {K : PySem.W.Frag} {h base : Heap} {mg : Str → Option Value} (X : K.In h) (G : h.Ns mainGlobals mg) (c : He.SaysD faL fnL K) (cx : exB K = true) : Facts P w K mg base (He.ga K "Setup") (He.ga K "PeriodTooLong") where
  base1 := ⟨fun x hx => by
      have z : ∀ x ∈ bltNames, He.Fa.free x ∈ faL := by
        intro x hx
        simp only [bltNames, List.mem_cons, List.not_mem_nil, or_false] at hx
        rcases hx with rfl | rfl | rfl | rfl | rfl | rfl | rfl | rfl | rfl | rfl | rfl <;> simp only [faL, List.mem_cons, true_or, or_true]
      obtain ⟨i, hi, e⟩ := List.mem_iff_getElem.mp (z x hx)
      exact He.free_ok X G (c.fact i (f := .free x) (by rw [List.getElem?_eq_getElem hi, e])),
    lcm_of X G cx, con_of X G c, He.cls_ok (c.fact 87 rfl), fun f hf => by
      have z : ∀ f ∈ fldG, He.Fa.noat "Setup" f ∈ faL := by
        intro x hx
        simp only [fldG, List.mem_cons, List.not_mem_nil, or_false] at hx
        rcases hx with rfl | rfl | rfl | rfl | rfl | rfl | rfl | rfl | rfl | rfl | rfl | rfl | rfl <;> simp only [faL, List.mem_cons, true_or, or_true]
      obtain ⟨i, hi, e⟩ := List.mem_iff_getElem.mp (z f hf)
      exact He.noat_ok (c.fact i (f := .noat "Setup" f) (by rw [List.getElem?_eq_getElem hi, e]))⟩
  exc := by
    obtain ⟨h1, h2, h3, h4⟩ := He.exc_ok (c.fact 89 rfl)
    exact ⟨He.glo_ok X G (c.fact 86 rfl), h2, h1, h3, h4, He.exm_ok (c.fact 90 rfl)⟩
  sorted := He.free_ok X G (c.fact 91 rfl)
  mkSetup := ⟨_, _, He.mkr_ok (c.fact 88 rfl), (c.def_ 85 rfl).choose_spec⟩
  gSetup := He.glo_ok X G (c.fact 85 rfl)
  setup := ⟨_, _, _, (c.def_ 84 rfl).choose_spec, He.glo_ok X G (c.fact 84 rfl), store_of cx⟩
  d0 := ⟨_, _, (c.def_ 0 rfl).choose_spec, He.glo_ok X G (c.fact 0 rfl)⟩
  d1 := ⟨_, _, (c.def_ 1 rfl).choose_spec, He.glo_ok X G (c.fact 1 rfl)⟩
  d2 := ⟨_, _, (c.def_ 2 rfl).choose_spec, He.glo_ok X G (c.fact 2 rfl)⟩
  d3 := ⟨_, _, (c.def_ 3 rfl).choose_spec, He.glo_ok X G (c.fact 3 rfl)⟩
  d4 := ⟨_, _, (c.def_ 4 rfl).choose_spec, He.glo_ok X G (c.fact 4 rfl)⟩
  d5 := ⟨_, _, (c.def_ 5 rfl).choose_spec, He.glo_ok X G (c.fact 5 rfl)⟩
  d6 := ⟨_, _, (c.def_ 6 rfl).choose_spec, He.glo_ok X G (c.fact 6 rfl)⟩
  d7 := ⟨_, _, (c.def_ 7 rfl).choose_spec, He.glo_ok X G (c.fact 7 rfl)⟩
  d8 := ⟨_, _, (c.def_ 8 rfl).choose_spec, He.glo_ok X G (c.fact 8 rfl)⟩
  d9 := ⟨_, _, (c.def_ 9 rfl).choose_spec, He.glo_ok X G (c.fact 9 rfl)⟩
  d10 := ⟨_, _, (c.def_ 10 rfl).choose_spec, He.glo_ok X G (c.fact 10 rfl)⟩
  d11 := ⟨_, _, (c.def_ 11 rfl).choose_spec, He.glo_ok X G (c.fact 11 rfl)⟩
  d12 := ⟨_, _, (c.def_ 12 rfl).choose_spec, He.glo_ok X G (c.fact 12 rfl)⟩
  d13 := ⟨_, _, (c.def_ 13 rfl).choose_spec, He.glo_ok X G (c.fact 13 rfl)⟩
  d14 := ⟨_, _, (c.def_ 14 rfl).choose_spec, He.glo_ok X G (c.fact 14 rfl)⟩
  d15 := ⟨_, _, (c.def_ 15 rfl).choose_spec, He.glo_ok X G (c.fact 15 rfl)⟩
  d16 := ⟨_, _, (c.def_ 16 rfl).choose_spec, He.glo_ok X G (c.fact 16 rfl)⟩
  d17 := ⟨_, _, (c.def_ 17 rfl).choose_spec, He.glo_ok X G (c.fact 17 rfl)⟩
  d18 := ⟨_, _, (c.def_ 18 rfl).choose_spec, He.glo_ok X G (c.fact 18 rfl)⟩
  d19 := ⟨_, _, (c.def_ 19 rfl).choose_spec, He.glo_ok X G (c.fact 19 rfl)⟩
  d20 := ⟨_, _, (c.def_ 20 rfl).choose_spec, He.glo_ok X G (c.fact 20 rfl)⟩
  d21 := ⟨_, _, (c.def_ 21 rfl).choose_spec, He.glo_ok X G (c.fact 21 rfl)⟩
  d22 := ⟨_, _, (c.def_ 22 rfl).choose_spec, He.glo_ok X G (c.fact 22 rfl)⟩
  d23 := ⟨_, _, (c.def_ 23 rfl).choose_spec, He.glo_ok X G (c.fact 23 rfl)⟩
  d24 := ⟨_, _, (c.def_ 24 rfl).choose_spec, He.glo_ok X G (c.fact 24 rfl)⟩
  d25 := ⟨_, _, (c.def_ 25 rfl).choose_spec, He.glo_ok X G (c.fact 25 rfl)⟩
  d26 := ⟨_, _, (c.def_ 26 rfl).choose_spec, He.glo_ok X G (c.fact 26 rfl)⟩
  d27 := ⟨_, _, (c.def_ 27 rfl).choose_spec, He.glo_ok X G (c.fact 27 rfl)⟩
  d28 := ⟨_, _, (c.def_ 28 rfl).choose_spec, He.glo_ok X G (c.fact 28 rfl)⟩
  d29 := ⟨_, _, (c.def_ 29 rfl).choose_spec, He.glo_ok X G (c.fact 29 rfl)⟩
  d30 := ⟨_, _, (c.def_ 30 rfl).choose_spec, He.glo_ok X G (c.fact 30 rfl)⟩
  d31 := ⟨_, _, (c.def_ 31 rfl).choose_spec, He.glo_ok X G (c.fact 31 rfl)⟩
  d32 := ⟨_, _, (c.def_ 32 rfl).choose_spec, He.glo_ok X G (c.fact 32 rfl)⟩
  d33 := ⟨_, _, (c.def_ 33 rfl).choose_spec, He.glo_ok X G (c.fact 33 rfl)⟩
  d34 := ⟨_, _, (c.def_ 34 rfl).choose_spec, He.glo_ok X G (c.fact 34 rfl)⟩
  d35 := ⟨_, _, (c.def_ 35 rfl).choose_spec, He.glo_ok X G (c.fact 35 rfl)⟩
  d36 := ⟨_, _, (c.def_ 36 rfl).choose_spec, He.glo_ok X G (c.fact 36 rfl)⟩
  d37 := ⟨_, _, (c.def_ 37 rfl).choose_spec, He.glo_ok X G (c.fact 37 rfl)⟩
  d38 := ⟨_, _, (c.def_ 38 rfl).choose_spec, He.glo_ok X G (c.fact 38 rfl)⟩
  d39 := ⟨_, _, (c.def_ 39 rfl).choose_spec, He.glo_ok X G (c.fact 39 rfl)⟩
  d40 := ⟨_, _, (c.def_ 40 rfl).choose_spec, He.glo_ok X G (c.fact 40 rfl)⟩
  d41 := ⟨_, _, (c.def_ 41 rfl).choose_spec, He.glo_ok X G (c.fact 41 rfl)⟩
  d42 := ⟨_, _, (c.def_ 42 rfl).choose_spec, He.glo_ok X G (c.fact 42 rfl)⟩
  d43 := ⟨_, _, (c.def_ 43 rfl).choose_spec, He.glo_ok X G (c.fact 43 rfl)⟩
  d44 := ⟨_, _, (c.def_ 44 rfl).choose_spec, He.glo_ok X G (c.fact 44 rfl)⟩
  d45 := ⟨_, _, (c.def_ 45 rfl).choose_spec, He.glo_ok X G (c.fact 45 rfl)⟩
  d46 := ⟨_, _, (c.def_ 46 rfl).choose_spec, He.glo_ok X G (c.fact 46 rfl)⟩
  d47 := ⟨_, _, (c.def_ 47 rfl).choose_spec, He.glo_ok X G (c.fact 47 rfl)⟩
  d48 := ⟨_, _, (c.def_ 48 rfl).choose_spec, He.glo_ok X G (c.fact 48 rfl)⟩
  d49 := ⟨_, _, (c.def_ 49 rfl).choose_spec, He.glo_ok X G (c.fact 49 rfl)⟩
  d50 := ⟨_, _, (c.def_ 50 rfl).choose_spec, He.glo_ok X G (c.fact 50 rfl)⟩
  d51 := ⟨_, _, (c.def_ 51 rfl).choose_spec, He.glo_ok X G (c.fact 51 rfl)⟩
  d52 := ⟨_, _, (c.def_ 52 rfl).choose_spec, He.glo_ok X G (c.fact 52 rfl)⟩
  d53 := ⟨_, _, (c.def_ 53 rfl).choose_spec, He.glo_ok X G (c.fact 53 rfl)⟩
  d54 := ⟨_, _, (c.def_ 54 rfl).choose_spec, He.glo_ok X G (c.fact 54 rfl)⟩
  d55 := ⟨_, _, (c.def_ 55 rfl).choose_spec, He.glo_ok X G (c.fact 55 rfl)⟩
  d56 := ⟨_, _, (c.def_ 56 rfl).choose_spec, He.glo_ok X G (c.fact 56 rfl)⟩
  d57 := ⟨_, _, (c.def_ 57 rfl).choose_spec, He.glo_ok X G (c.fact 57 rfl)⟩
  d58 := ⟨_, _, (c.def_ 58 rfl).choose_spec, He.glo_ok X G (c.fact 58 rfl)⟩
  d59 := ⟨_, _, (c.def_ 59 rfl).choose_spec, He.glo_ok X G (c.fact 59 rfl)⟩
  d60 := ⟨_, _, (c.def_ 60 rfl).choose_spec, He.glo_ok X G (c.fact 60 rfl)⟩
  d61 := ⟨_, _, (c.def_ 61 rfl).choose_spec, He.glo_ok X G (c.fact 61 rfl)⟩
  d62 := ⟨_, _, (c.def_ 62 rfl).choose_spec, He.glo_ok X G (c.fact 62 rfl)⟩
  d63 := ⟨_, _, (c.def_ 63 rfl).choose_spec, He.glo_ok X G (c.fact 63 rfl)⟩
  d64 := ⟨_, _, (c.def_ 64 rfl).choose_spec, He.glo_ok X G (c.fact 64 rfl)⟩
  d65 := ⟨_, _, (c.def_ 65 rfl).choose_spec, He.glo_ok X G (c.fact 65 rfl)⟩
  d66 := ⟨_, _, (c.def_ 66 rfl).choose_spec, He.glo_ok X G (c.fact 66 rfl)⟩
  d67 := ⟨_, _, (c.def_ 67 rfl).choose_spec, He.glo_ok X G (c.fact 67 rfl)⟩
  d68 := ⟨_, _, (c.def_ 68 rfl).choose_spec, He.glo_ok X G (c.fact 68 rfl)⟩
  d69 := ⟨_, _, (c.def_ 69 rfl).choose_spec, He.glo_ok X G (c.fact 69 rfl)⟩
  d70 := ⟨_, _, (c.def_ 70 rfl).choose_spec, He.glo_ok X G (c.fact 70 rfl)⟩
  d71 := ⟨_, _, (c.def_ 71 rfl).choose_spec, He.glo_ok X G (c.fact 71 rfl)⟩
  d72 := ⟨_, _, (c.def_ 72 rfl).choose_spec, He.glo_ok X G (c.fact 72 rfl)⟩
  d73 := ⟨_, _, (c.def_ 73 rfl).choose_spec, He.glo_ok X G (c.fact 73 rfl)⟩
  d74 := ⟨_, _, (c.def_ 74 rfl).choose_spec, He.glo_ok X G (c.fact 74 rfl)⟩
  d75 := ⟨_, _, (c.def_ 75 rfl).choose_spec, He.glo_ok X G (c.fact 75 rfl)⟩
  d76 := ⟨_, _, (c.def_ 76 rfl).choose_spec, He.glo_ok X G (c.fact 76 rfl)⟩
  d77 := ⟨_, _, (c.def_ 77 rfl).choose_spec, He.glo_ok X G (c.fact 77 rfl)⟩
  d78 := ⟨_, _, (c.def_ 78 rfl).choose_spec, He.glo_ok X G (c.fact 78 rfl)⟩
  d79 := ⟨_, _, (c.def_ 79 rfl).choose_spec, He.glo_ok X G (c.fact 79 rfl)⟩
  d80 := ⟨_, _, (c.def_ 80 rfl).choose_spec, He.glo_ok X G (c.fact 80 rfl)⟩
  d81 := ⟨_, _, (c.def_ 81 rfl).choose_spec, He.glo_ok X G (c.fact 81 rfl)⟩
  d82 := ⟨_, _, (c.def_ 82 rfl).choose_spec, He.glo_ok X G (c.fact 82 rfl)⟩
theorem law_found {K : PySem.W.Frag} {h : Heap} {mg : Str → Option Value} (X : K.In h) (G : h.Ns mainGlobals mg) (c : He.SaysD faL fnL K) : ∃ f fd, FunD K "law" "law" (defArgs (topS 121)) (defBody (topS 121)) (defScope (topS 121)) [] [] f fd ∧ mg "law" = some (.ref f) := ⟨_, _, (c.def_ 83 rfl).choose_spec, He.glo_ok X G (c.fact 83 rfl)⟩
end WF
end
/-! text WZ2 -/
section
set_option Elab.async false
set_option linter.all false
set_option maxRecDepth 100000
set_option maxHeartbeats 0
/-! The end. -/
namespace WF
open PySem PySem.Spec PyProof.Rows L2
theorem law_binds {K : PySem.W.Frag} {f : Addr} {fd : FuncData} (F : FunD K "law" "law" (defArgs (topS 121)) (defBody (topS 121)) (defScope (topS 121)) [] [] f fd) (s : Shared) (v : Value) : BindsTo s fd ⟨[v], []⟩ [("_law_script", v)] :=
  FunD.bindsA (ps := ["_law_script"]) F (fun _ _ _ _ _ _ us hl => match us, hl with | [_], _ => by kernel_rfl) s [v] rfl
end WF
open PySem PySem.W PySem.Calls PyProof.Rows
theorem end_of (hl : ∀ ns : List Int, ns.length ≤ 63 → WF.LawOk ns) : PySem.Challenge.rw_watchfloor_k95_analysis_whole_sure_for_a.Holds := by
  w_on; o_law
  refine Hi.head_imp (r := WF.R) (q := WF.qv) (H := WF.hk) (ob := WF.ob) (M1 := 3000) (M := 6000) (loose := WF.names) (d := HandSHeadRun.topDef WF.R.prog 121) (kwd := []) WF.ob_eq
    (by kernel_rfl) WF.run (by kernel_rfl) (by kernel_rfl) (by rfl) (by first | rfl | assumption | decide +kernel) (by first | assumption | decide +kernel) (by decide +kernel) ⟨rfl, rfl, rfl, rfl, rfl, by decide +kernel⟩ ?hw ?hc
  case hw => w_witness2
  case hc =>
    refine L2.walk_ofE (l := PySem.Challenge.rw_watchfloor_k95_analysis_whole_sure_for_a) (n := 63) (k := 12) (x := "_law_script") (CX := L2.CX0) rfl (by decide) (by kernel_rfl) ⟨rfl, by decide, by decide⟩ ?F (fun _ _ _ _ z => z)
    intro w mg fa h Y G hmg0
    obtain ⟨K, KX, c, cx⟩ := Y
    have hmg : mg ("law" : PySem.Str) = some (.ref fa) := by
      have e : (HandSHeadRun.topDef WF.R.prog 121).name = ("law" : PySem.Str) := by kernel_rfl
      rw [← e]
      exact hmg0
    obtain ⟨f, fd, F, g⟩ := WF.law_found KX G c
    have e := hmg.symm.trans g
    cases e
    exact ⟨K, fd, WF.spLaw K, KX, WF.law_binds F, fun H a ns hn _ hS => ⟨a, ns, rfl, hS, hl ns hn, fun _ => rfl⟩, fun base KX2 G2 => WF.law_fn (P := (PySem.Challenge.rw_watchfloor_k95_analysis_whole_sure_for_a).prog) (w := w) (base := base) (WF.facts_of KX G c cx) F⟩
end
/-! text M1 -/
section
set_option Elab.async false
set_option linter.all false
/-! Rules to run the combinators; the typed world. -/
namespace WF
open PySem
theorem big_of {n : Nat} (h : n ≤ 1000) : n ≤ big := Nat.le_trans h (by decide)
/-! ### running -/
theorem run_rt {N p : Nat} {s : SS} {args : List D} {d : D} (hl : args.length = p) (h : s (entry N args) = some (.rt d)) : runD N p s args = some d := by
  unfold runD
  rw [if_pos hl, h]
  rfl
theorem run_nx {N p : Nat} {s : SS} {args : List D} {ρ : Env} (hl : args.length = p) (h : s (entry N args) = some (.nx ρ)) : runD N p s args = some .non := by
  unfold runD
  rw [if_pos hl, h]
  rfl
theorem ev_seq {a b : SS} {ρ ρ1 : Env} {o : Option Out} (h1 : a ρ = some (.nx ρ1)) (h2 : b ρ1 = o) : sSeq a b ρ = o := by
  show (a ρ).bind _ = o
  rw [h1]
  exact h2
theorem ev_seqR {a b : SS} {ρ : Env} {d : D} (h1 : a ρ = some (.rt d)) : sSeq a b ρ = some (.rt d) := by
  show (a ρ).bind _ = _
  rw [h1]
  rfl
theorem ev_ifT {t : ST} {a b : SS} {ρ : Env} {o : Option Out} (h1 : t ρ = some true) (h2 : a ρ = o) : sIf t a b ρ = o := by
  show (t ρ).bind _ = o
  rw [h1]
  exact h2
theorem ev_ifF {t : ST} {a b : SS} {ρ : Env} {o : Option Out} (h1 : t ρ = some false) (h2 : b ρ = o) : sIf t a b ρ = o := by
  show (t ρ).bind _ = o
  rw [h1]
  exact h2
theorem ev_for {g : SG} {it : SA} {s : SS} {ρ : Env} {ds : List D} {o : Option Out} (h1 : it ρ = some ds) (h2 : forLoop (forTurn g s) ds ρ = o) : sFor g it s ρ = o := by
  show (it ρ).bind _ = o
  rw [h1]
  exact h2
/-- a loop: either it runs through, or it returns -/
theorem for_gen {α : Type} {f : D → SS} {enc : α → D} (I : List α → Env → Prop) (Rt : List α → D → Prop) : ∀ (rest done : List α) (ρ : Env),
    (∀ pre x post ρ, done ++ rest = pre ++ x :: post → I pre ρ → (∃ ρ', f (enc x) ρ = some (.nx ρ') ∧ I (pre ++ [x]) ρ') ∨ ∃ d, f (enc x) ρ = some (.rt d) ∧ Rt (pre ++ [x]) d) → I done ρ →
    (∃ ρ', forLoop f (rest.map enc) ρ = some (.nx ρ') ∧ I (done ++ rest) ρ') ∨ ∃ d pre post, forLoop f (rest.map enc) ρ = some (.rt d) ∧ Rt pre d ∧ done ++ rest = pre ++ post
  | [], done, ρ, _, hI => .inl ⟨ρ, rfl, by rw [List.append_nil]; exact hI⟩
  | x :: rest, done, ρ, h, hI => by
    have e : done ++ x :: rest = (done ++ [x]) ++ rest := by simp
    rcases h done x rest ρ rfl hI with ⟨ρ', h1, h2⟩ | ⟨d, h1, h2⟩
    · rcases for_gen I Rt rest (done ++ [x]) ρ' (fun pre y post σ q => h pre y post σ (e.trans q)) h2 with ⟨ρ2, h3, h4⟩ | ⟨d, pre, post, h3, h4, h5⟩
      · refine .inl ⟨ρ2, ?_, by rw [e]; exact h4⟩
        show (f (enc x) ρ).bind _ = _
        rw [h1]
        exact h3
      · refine .inr ⟨d, pre, post, ?_, h4, e.trans h5⟩
        show (f (enc x) ρ).bind _ = _
        rw [h1]
        exact h3
    · refine .inr ⟨d, done ++ [x], rest, ?_, h2, e⟩
      show (f (enc x) ρ).bind _ = _
      rw [h1]
      rfl
/-- a loop that runs through -/
theorem for_inv {α : Type} {f : D → SS} {enc : α → D} (I : List α → Env → Prop) (xs : List α) (ρ : Env)
    (h : ∀ pre x post ρ, xs = pre ++ x :: post → I pre ρ → ∃ ρ', f (enc x) ρ = some (.nx ρ') ∧ I (pre ++ [x]) ρ') (h0 : I [] ρ) : ∃ ρ', forLoop f (xs.map enc) ρ = some (.nx ρ') ∧ I xs ρ' := by
  rcases for_gen (f := f) (enc := enc) I (fun _ _ => False) xs [] ρ (fun pre x post σ e hI => .inl (h pre x post σ e hI)) h0 with q | ⟨_, _, _, _, z, _⟩
  · exact q
  · exact z.elim
/-- a loop that returns at the first item where p says so -/
theorem for_find {α : Type} {f : D → SS} {enc : α → D} (I : Env → Prop) (p : α → Option D) : ∀ (xs : List α) (ρ : Env)
    (h : ∀ x ∈ xs, ∀ ρ, I ρ → (∀ d, p x = some d → f (enc x) ρ = some (.rt d)) ∧ (p x = none → ∃ ρ', f (enc x) ρ = some (.nx ρ') ∧ I ρ')) (h0 : I ρ),
    (∀ d, xs.findSome? p = some d → forLoop f (xs.map enc) ρ = some (.rt d)) ∧ (xs.findSome? p = none → ∃ ρ', forLoop f (xs.map enc) ρ = some (.nx ρ') ∧ I ρ')
  | [], ρ, _, h0 => ⟨fun d e => by simp at e, fun _ => ⟨ρ, rfl, h0⟩⟩
  | x :: xs, ρ, h, h0 => by
    obtain ⟨k1, k2⟩ := h x (List.mem_cons_self ..) ρ h0
    cases e : p x with
    | some d0 =>
      refine ⟨fun d q => ?_, fun q => ?_⟩
      · rw [List.findSome?_cons, e] at q
        cases q
        show (f (enc x) ρ).bind _ = _
        rw [k1 d0 e]
        rfl
      · rw [List.findSome?_cons, e] at q
        cases q
    | none =>
      obtain ⟨ρ', h1, h2⟩ := k2 e
      obtain ⟨m1, m2⟩ := for_find I p xs ρ' (fun y hy => h y (List.mem_cons_of_mem _ hy)) h2
      rw [List.findSome?_cons, e]
      refine ⟨fun d q => ?_, fun q => ?_⟩
      · show (f (enc x) ρ).bind _ = _
        rw [h1]
        exact m1 d q
      · obtain ⟨ρ2, h3, h4⟩ := m2 q
        refine ⟨ρ2, ?_, h4⟩
        show (f (enc x) ρ).bind _ = _
        rw [h1]
        exact h3
/-! ### comprehensions -/
theorem compLoop_fm {α : Type} {f : D → Option (Option D)} {enc : α → D} {p : α → Option D} : ∀ {xs : List α}, (∀ x ∈ xs, f (enc x) = some (p x)) → compLoop f (xs.map enc) = some (xs.filterMap p)
  | [], _ => rfl
  | x :: xs, h => by
    have ih := compLoop_fm (xs := xs) fun y hy => h y (List.mem_cons_of_mem _ hy)
    show (f (enc x)).bind _ = _
    rw [h x (List.mem_cons_self ..)]
    cases e : p x with
    | none =>
      show compLoop f (xs.map enc) = _
      rw [ih, List.filterMap_cons_none e]
    | some d =>
      show (compLoop f (xs.map enc)).map _ = _
      rw [ih, List.filterMap_cons_some e]
      rfl
theorem comp_fm {α : Type} {vs : List Nat} {g : SG} {it : SA} {t : ST} {e : SE} {ρ : Env} {xs : List α} {enc : α → D} (p : α → Option D) (hi : it ρ = some (xs.map enc)) (hl : xs.length ≤ big) (h : ∀ x ∈ xs, compTurn g t e vs ρ (enc x) = some (p x)) :
    eComp vs g it t e ρ = some (.lst (xs.filterMap p)) := by
  show (it ρ).bind _ = _
  rw [hi]
  show (if (xs.map enc).length ≤ big then _ else none) = _
  rw [if_pos (by rw [List.length_map]; exact hl), compLoop_fm h]
  rfl
theorem comp_map {α : Type} {vs : List Nat} {g : SG} {it : SA} {t : ST} {e : SE} {ρ : Env} {xs : List α} {enc : α → D} (r : α → D) (hi : it ρ = some (xs.map enc)) (hl : xs.length ≤ big) (h : ∀ x ∈ xs, compTurn g t e vs ρ (enc x) = some (some (r x))) :
    eComp vs g it t e ρ = some (.lst (xs.map r)) := by
  rw [comp_fm (fun x => some (r x)) hi hl h]
  congr 2
  induction xs with
  | nil => rfl
  | cons x xs ih => simp
theorem ev_ret {e : SE} {ρ : Env} {d : D} (h : e ρ = some d) : sRet e ρ = some (.rt d) := by
  show (e ρ).map _ = _
  rw [h]
  rfl
theorem ev_asg {i : Nat} {e : SE} {ρ : Env} {d : D} (h : e ρ = some d) : sAsg (gName i) e ρ = some (.nx (ρ.set i (.val d))) := by
  show (e ρ).bind _ = _
  rw [h]
  rfl
theorem ev_blt1 {f : Blt} {e : SE} {ρ : Env} {d : D} {r : Option D} (h : e ρ = some d) (k : bltD f [d] = r) : eBlt f (aCons e aNil) ρ = r := by
  show ((e ρ).bind _).bind _ = r
  rw [h]
  exact k
theorem ev_call1 {f : List D → Option D} {e : SE} {ρ : Env} {d : D} {r : Option D} (h : e ρ = some d) (k : f [d] = r) : eCall f (aCons e aNil) ρ = r := by
  show ((e ρ).bind _).bind _ = r
  rw [h]
  exact k
theorem blsOf_map {α : Type} {xs : List α} {g : α → Bool} : blsOf (xs.map fun x => .bl (g x)) = some (xs.map g) := by
  induction xs with
  | nil => rfl
  | cons x xs ih =>
    rw [List.map_cons, List.map_cons]
    show (blsOf _).map _ = _
    rw [ih]
    rfl
theorem intsOf_map {α : Type} {xs : List α} {g : α → Int} : intsOf (xs.map fun x => .int (g x)) = some (xs.map g) := by
  induction xs with
  | nil => rfl
  | cons x xs ih =>
    rw [List.map_cons, List.map_cons]
    show (intsOf _).map _ = _
    rw [ih]
    rfl
theorem strsOf_map {α : Type} {xs : List α} {g : α → Str} : strsOf (xs.map fun x => .str (g x)) = some (xs.map g) := by
  induction xs with
  | nil => rfl
  | cons x xs ih =>
    rw [List.map_cons, List.map_cons]
    show (strsOf _).map _ = _
    rw [ih]
    rfl
/-! ### the typed world -/
abbrev Span := Int × Int
structure Lay where
  ms : List Str
  st : Int
  sh : Int
  sp : List Span
structure Sch where
  nm : Str
  ls : List Lay
  ss : List (Int × Int × Str)
structure Pol where
  nm : Str
  lv : List (Str × Int)
structure Win where
  nm : Str
  sp : List Span
structure Mat where
  nm : Str
  vs : List Str
  ins : Bool
structure Stg where
  gr : List Str
  wt : Int
  iv : Int
  ag : Int
  mu : List Str
  po : Str
structure Rou where
  pa : Option Int
  mt : List Mat
  se : Stg
structure Hol where
  sr : List Mat
  tg : List Mat
  eq : List Str
structure Wor where
  wk : Int
  pe : List (Str × Int)
  sc : List Sch
  po : List Pol
  wi : List Win
  ro : List Rou
  ho : List Hol
  re : Int
  pz : Int
  dn : Int
@[simp] def eStrs (l : List Str) : D := .tup (l.map .str)
@[simp] def eSpan (s : Span) : D := .tup [.int s.1, .int s.2]
@[simp] def eLay (l : Lay) : D := .tup [.tup (l.ms.map .str), .int l.st, .int l.sh, .tup (l.sp.map eSpan)]
@[simp] def eStd (s : Int × Int × Str) : D := .tup [.int s.1, .int s.2.1, .str s.2.2]
@[simp] def eSch (s : Sch) : D := .tup [.str s.nm, .tup (s.ls.map eLay), .tup (s.ss.map eStd)]
@[simp] def eLev (l : Str × Int) : D := .tup [.str l.1, .int l.2]
@[simp] def ePol (p : Pol) : D := .tup [.str p.nm, .tup (p.lv.map eLev)]
@[simp] def eWin (p : Win) : D := .tup [.str p.nm, .tup (p.sp.map eSpan)]
@[simp] def eMat (m : Mat) : D := .tup [.str m.nm, .tup (m.vs.map .str), .bl m.ins]
@[simp] def eStg (s : Stg) : D := .tup [.tup (s.gr.map .str), .int s.wt, .int s.iv, .int s.ag, .tup (s.mu.map .str), .str s.po]
@[simp] def eOpt : Option Int → D
  | none => .non
  | some i => .int i
@[simp] def eRou (r : Rou) : D := .tup [eOpt r.pa, .tup (r.mt.map eMat), eStg r.se]
@[simp] def eHol (h : Hol) : D := .tup [.tup (h.sr.map eMat), .tup (h.tg.map eMat), .tup (h.eq.map .str)]
@[simp] def ePer (p : Str × Int) : D := .tup [.str p.1, .int p.2]
def eWor (w : Wor) : D := .obj fldG [.int w.wk, .lst (w.pe.map ePer), .lst (w.sc.map eSch), .lst (w.po.map ePol), .lst (w.wi.map eWin), .lst (w.ro.map eRou), .lst (w.ho.map eHol), .lst [], .int w.re, .int w.pz, .int w.dn, .tup [.int 0, .int 10, .int 2, .int 0], .int 5]
theorem f_week (w : Wor) : fldD (eWor w) "week" = some (.int w.wk) := rfl
theorem f_people (w : Wor) : fldD (eWor w) "people" = some (.lst (w.pe.map ePer)) := rfl
theorem f_sch (w : Wor) : fldD (eWor w) "schedules" = some (.lst (w.sc.map eSch)) := rfl
theorem f_pol (w : Wor) : fldD (eWor w) "policies" = some (.lst (w.po.map ePol)) := rfl
theorem f_win (w : Wor) : fldD (eWor w) "windows" = some (.lst (w.wi.map eWin)) := rfl
theorem f_rou (w : Wor) : fldD (eWor w) "routes" = some (.lst (w.ro.map eRou)) := rfl
theorem f_hol (w : Wor) : fldD (eWor w) "holdbacks" = some (.lst (w.ho.map eHol)) := rfl
theorem f_grp (w : Wor) : fldD (eWor w) "groups" = some (.lst []) := rfl
theorem f_rep (w : Wor) : fldD (eWor w) "replicas" = some (.int w.re) := rfl
theorem f_pau (w : Wor) : fldD (eWor w) "pause" = some (.int w.pz) := rfl
theorem f_dwn (w : Wor) : fldD (eWor w) "down" = some (.int w.dn) := rfl
theorem f_sto (w : Wor) : fldD (eWor w) "store" = some (.tup [.int 0, .int 10, .int 2, .int 0]) := rfl
theorem f_loo (w : Wor) : fldD (eWor w) "lookback" = some (.int 5) := rfl
end WF
end
/-! text M2 -/
section
set_option Elab.async false
set_option linter.all false
set_option maxHeartbeats 1000000
/-! Calendars: the program's defs and the law's, typed. -/
namespace WF
open PySem
@[simp] def eO : Option Str → D
  | none => .non
  | some x => .str x
def inS (wk : Int) (sp : List Span) (t : Int) : Bool := sp.any fun s => decide (s.1 ≤ t % wk) && decide (t % wk < s.2)
theorem in_spans_eq {wk t : Int} {sp : List Span} (hw : 0 < wk) (hl : sp.length ≤ 1000) : s_in_spans [.int wk, .tup (sp.map eSpan), .int t] = some (.bl (inS wk sp t)) := by
  refine run_rt rfl (ev_ret (ev_blt1 (comp_map (xs := sp) (enc := eSpan) (fun s => .bl (decide (s.1 ≤ t % wk) && decide (t % wk < s.2))) (by simp [entry]) (big_of hl) fun s hs => ?_) ?_))
  · simp [compTurn, entry, hw]
    by_cases h : s.1 ≤ t % wk <;> simp [h]
  · simp [blsOf_map, inS]
def onL (wk : Int) (l : Lay) (t : Int) : Option Str := if t < l.st then none else if (!l.sp.isEmpty && !inS wk l.sp t) = true then none else l.ms[((t - l.st) / l.sh % (l.ms.length : Int)).toNat]?
structure LayB (l : Lay) : Prop where
  ms : l.ms ≠ []
  ml : l.ms.length ≤ 3
  st0 : 0 ≤ l.st
  st1 : l.st ≤ 12
  sh0 : 1 ≤ l.sh
  sh1 : l.sh ≤ 9
  sl : l.sp.length ≤ 2
theorem mod_at {α : Type} {xs : List α} (h : xs ≠ []) (i : Int) : ∃ x, atD xs (i % (xs.length : Int)) = some x ∧ xs[(i % (xs.length : Int)).toNat]? = some x := by
  have hl : 0 < (xs.length : Int) := by
    have := List.length_pos_iff.mpr h
    omega
  have h0 := Int.emod_nonneg i (show (xs.length : Int) ≠ 0 by omega)
  have h1 := Int.emod_lt_of_pos i hl
  have h2 : (i % (xs.length : Int)).toNat < xs.length := by omega
  refine ⟨xs[(i % (xs.length : Int)).toNat], ?_, List.getElem?_eq_getElem h2⟩
  unfold atD
  rw [if_pos h0]
  exact List.getElem?_eq_getElem h2
theorem atD_map {α β : Type} {xs : List α} {f : α → β} {i : Int} {x : α} (h : atD xs i = some x) : atD (xs.map f) i = some (f x) := by
  unfold atD at h ⊢
  rw [List.length_map]
  split
  · rename_i c
    rw [if_pos c] at h
    rw [List.getElem?_map, h]
    rfl
  · rename_i c
    rw [if_neg c] at h
    split
    · rename_i c2
      rw [if_pos c2] at h
      rw [List.getElem?_map, h]
      rfl
    · rename_i c2
      rw [if_neg c2] at h
      cases h
theorem on_layer_eq {wk t : Int} {l : Lay} (hw : 0 < wk) (B : LayB l) : s_on_layer [.int wk, eLay l, .int t] = some (eO (onL wk l t)) := by
  have hs := in_spans_eq (t := t) hw (show l.sp.length ≤ 1000 by have := B.sl; omega)
  obtain ⟨x, h1, h2⟩ := mod_at B.ms ((t - l.st) / l.sh)
  have h3 := atD_map (f := D.str) h1
  have hsh : 0 < l.sh ∧ l.sh < 1073741824 := by have := B.sh0; have := B.sh1; omega
  have hml : 0 < l.ms.length := List.length_pos_iff.mpr B.ms
  unfold onL
  by_cases c : t < l.st
  · simp [s_on_layer, b_on_layer, runD, entry, c]
  · by_cases ce : l.sp.isEmpty = true
    · simp [s_on_layer, b_on_layer, runD, entry, c, hs, ce, hsh, hml, h3, h2]
    · cases ci : inS wk l.sp t with
      | true => simp [s_on_layer, b_on_layer, runD, entry, c, hs, ce, ci, hsh, hml, h3, h2]
      | false => simp [s_on_layer, b_on_layer, runD, entry, c, hs, ce, ci, hsh, hml, h3, h2]
def onC (wk : Int) (s : Sch) (t : Int) : Option Str := match s.ss.reverse.findSome? (fun x => if x.1 ≤ t ∧ t < x.2.1 then some x.2.2 else none) with
  | some p => some p
  | none => s.ls.reverse.findSome? fun l => onL wk l t
structure SchB (s : Sch) : Prop where
  ll : s.ls.length ≤ 2
  sl : s.ss.length ≤ 3
  lb : ∀ l ∈ s.ls, LayB l
  sb : ∀ x ∈ s.ss, x.1 < x.2.1 ∧ x.2.1 ≤ 42
theorem fs_map {α β γ : Type} (f : β → γ) (p : α → Option β) : ∀ xs : List α, xs.findSome? (fun x => (p x).map f) = (xs.findSome? p).map f
  | [] => rfl
  | x :: xs => by
    rw [List.findSome?_cons, List.findSome?_cons]
    cases p x with
    | none => exact fs_map f p xs
    | some b => rfl
theorem on_call_eq {wk t : Int} {s : Sch} (hw : 0 < wk) (B : SchB s) : s_on_call [.int wk, eSch s, .int t] = some (eO (onC wk s t)) := by
  -- the stand-ins
  have A := for_find (f := forTurn (gTup [3, 4, 5]) (sIf (tChain .le (eVar 3) (eVar 2) (tLast .lt (bVar 4))) (sRet (eVar 5)) sNext)) (enc := eStd) (fun ρ => ∃ a b c, ρ = [.val (.int wk), .val (eSch s), .val (.int t), a, b, c, .no])
    (fun x => (if x.1 ≤ t ∧ t < x.2.1 then some x.2.2 else none).map D.str) s.ss.reverse [.val (.int wk), .val (eSch s), .val (.int t), .no, .no, .no, .no] (by
      rintro x hx ρ ⟨a, b, c, rfl⟩
      by_cases h : x.1 ≤ t
      · by_cases h2 : t < x.2.1
        · simp [forTurn, h, h2]
        · simp [forTurn, h, h2]
      · simp [forTurn, h]) ⟨_, _, _, rfl⟩
  rw [fs_map] at A
  have hit : iSeq (eRev (eBlt .list (aCons (eIx (bVar 1) (eCon (.int 2))) aNil))) [.val (.int wk), .val (eSch s), .val (.int t), .no, .no, .no, .no] = some (s.ss.reverse.map eStd) := by
    simp [atD, List.map_reverse]
  unfold onC
  cases e : s.ss.reverse.findSome? (fun x => if x.1 ≤ t ∧ t < x.2.1 then some x.2.2 else none) with
  | some p =>
    exact run_rt rfl (ev_seqR (ev_for hit (A.1 _ (by rw [e]; rfl))))
  | none =>
    obtain ⟨ρ', h1, a, b, c, rfl⟩ := A.2 (by rw [e]; rfl)
    have A2 := for_find (f := forTurn (gName 6) (sSeq (sAsg (gName 5) (eCall s_on_layer (aCons (eVar 0) (aCons (eVar 6) (aCons (eVar 2) aNil))))) (sIf (tCmp .isNot (eVar 5) (eCon .non)) (sRet (eVar 5)) sNext))) (enc := eLay)
      (fun ρ => ∃ a b c d, ρ = [.val (.int wk), .val (eSch s), .val (.int t), a, b, c, d]) (fun l => (onL wk l t).map D.str) s.ls.reverse [.val (.int wk), .val (eSch s), .val (.int t), a, b, c, .no] (by
        rintro l hl ρ ⟨a, b, c, d, rfl⟩
        have hB := B.lb l (List.mem_reverse.mp hl)
        have hL := on_layer_eq (t := t) hw hB
        simp only [eLay] at hL
        cases eo : onL wk l t with
        | none =>
          rw [eo] at hL
          simp [forTurn, hL]
        | some p =>
          rw [eo] at hL
          simp [forTurn, hL]) ⟨_, _, _, _, rfl⟩
    rw [fs_map] at A2
    have hit2 : iSeq (eRev (eBlt .list (aCons (eIx (bVar 1) (eCon (.int 1))) aNil))) [.val (.int wk), .val (eSch s), .val (.int t), a, b, c, .no] = some (s.ls.reverse.map eLay) := by
      simp [atD, List.map_reverse]
    refine run_rt rfl (ev_seq (ev_for hit h1) ?_)
    cases e2 : s.ls.reverse.findSome? (fun l => onL wk l t) with
    | some p => exact ev_seqR (ev_for hit2 (A2.1 _ (by rw [e2]; rfl)))
    | none =>
      obtain ⟨ρ', h1, _⟩ := A2.2 (by rw [e2]; rfl)
      exact ev_seq (ev_for hit2 h1) rfl
end WF
end
/-! text M3 -/
section
set_option Elab.async false
set_option linter.all false
set_option maxHeartbeats 1000000
/-! The law's calendar. -/
namespace WF
open PySem
theorem fs_snoc {α β : Type} (p : α → Option β) (xs : List α) (x : α) : (xs ++ [x]).reverse.findSome? p = match p x with
  | some b => some b
  | none => xs.reverse.findSome? p := by
  rw [List.reverse_append]
  show ([x] ++ xs.reverse).findSome? p = _
  rw [List.cons_append, List.nil_append, List.findSome?_cons]
  cases p x <;> rfl
def onB1 : SS := (sSeq (sAsg (gName 8) (eTest (tCmp .eq (eBlt .len (aCons (bVar 7) aNil)) (eCon (.int 0)))))
    (sSeq (sFor (gTup [9, 10]) (iSeq (eVar 7))
      (sIf (tChain .le (eVar 9) (eBin .mod (eBlt .int (aCons (eVar 2) aNil)) (eVar 0)) (tLast .lt (bVar 10)))
        (sAsg (gName 8) (eCon (.bl true)))
        sNext))
    (sIf (tAnd (tCmp .ge (eVar 2) (bVar 5)) (tVal (eVar 8)))
      (sAsg (gName 3) (eIx (bVar 4) (eBin .mod (eBlt .int (aCons (eBin .fdiv (eBin .sub (eVar 2) (eVar 5)) (eVar 6)) aNil)) (eBlt .len (aCons (bVar 4) aNil)))))
      sNext)))
theorem onB1_eq {wk t : Int} {l : Lay} {r p a b c d e f g h : D} {s4 s5 s6 s7 s8 s9 s10 s11 : Slot} (hw : 0 < wk) (B : LayB l) :
    ∃ ρ', forTurn (gTup [4, 5, 6, 7]) onB1 (eLay l) [.val (.int wk), .val r, .val (.int t), .val p, s4, s5, s6, s7, s8, s9, s10, s11] = some (.nx ρ') ∧
      ∃ q4 q5 q6 q7 q8 q9 q10, ρ' = [.val (.int wk), .val r, .val (.int t), .val (match onL wk l t with
        | some x => .str x
        | none => p), q4, q5, q6, q7, q8, q9, q10, s11] := by
  obtain ⟨x, h1, h2⟩ := mod_at B.ms ((t - l.st) / l.sh)
  have h3 := atD_map (f := D.str) h1
  have hsh : 0 < l.sh ∧ l.sh < 1073741824 := by have := B.sh0; have := B.sh1; omega
  have hml : 0 < l.ms.length := List.length_pos_iff.mpr B.ms
  obtain ⟨ρ1, k1, s9', s10', e1⟩ := for_inv (f := forTurn (gTup [9, 10]) (sIf (tChain .le (eVar 9) (eBin .mod (eBlt .int (aCons (eVar 2) aNil)) (eVar 0)) (tLast .lt (bVar 10))) (sAsg (gName 8) (eCon (.bl true))) sNext)) (enc := eSpan)
    (fun pre ρ => ∃ a b, ρ = [.val (.int wk), .val r, .val (.int t), .val p, .val (.tup (l.ms.map .str)), .val (.int l.st), .val (.int l.sh), .val (.tup (l.sp.map eSpan)), .val (.bl (l.sp.isEmpty || inS wk pre t)), a, b, s11]) l.sp
    [.val (.int wk), .val r, .val (.int t), .val p, .val (.tup (l.ms.map .str)), .val (.int l.st), .val (.int l.sh), .val (.tup (l.sp.map eSpan)), .val (.bl (l.sp.isEmpty)), s9, s10, s11] (by
      rintro pre y post ρ - ⟨a, b, rfl⟩
      have hin : inS wk (pre ++ [y]) t = (inS wk pre t || (decide (y.1 ≤ t % wk) && decide (t % wk < y.2))) := by
        unfold inS
        rw [List.any_append]
        simp
      rw [hin]
      by_cases c1 : y.1 ≤ t % wk
      · by_cases c2 : t % wk < y.2
        · simp [forTurn, hw, c1, c2]
        · simp [forTurn, hw, c1, c2]
      · simp [forTurn, hw, c1]) ⟨s9, s10, by simp [inS]⟩
  have hsq : onB1 [.val (.int wk), .val r, .val (.int t), .val p, .val (.tup (l.ms.map .str)), .val (.int l.st), .val (.int l.sh), .val (.tup (l.sp.map eSpan)), s8, s9, s10, s11] =
      (sIf (tAnd (tCmp .ge (eVar 2) (bVar 5)) (tVal (eVar 8))) (sAsg (gName 3) (eIx (bVar 4) (eBin .mod (eBlt .int (aCons (eBin .fdiv (eBin .sub (eVar 2) (eVar 5)) (eVar 6)) aNil)) (eBlt .len (aCons (bVar 4) aNil))))) sNext) ρ1 := by
    refine ev_seq (ρ1 := [.val (.int wk), .val r, .val (.int t), .val p, .val (.tup (l.ms.map .str)), .val (.int l.st), .val (.int l.sh), .val (.tup (l.sp.map eSpan)), .val (.bl (l.sp.isEmpty)), s9, s10, s11]) ?_ (ev_seq (ev_for (ds := l.sp.map eSpan) (by simp) k1) rfl)
    have he : decide (l.sp = []) = l.sp.isEmpty := by
      cases l.sp <;> rfl
    simp [he]
  have hft : forTurn (gTup [4, 5, 6, 7]) onB1 (eLay l) [.val (.int wk), .val r, .val (.int t), .val p, s4, s5, s6, s7, s8, s9, s10, s11] = onB1 [.val (.int wk), .val r, .val (.int t), .val p, .val (.tup (l.ms.map .str)), .val (.int l.st), .val (.int l.sh), .val (.tup (l.sp.map eSpan)), s8, s9, s10, s11] := rfl
  rw [hft, hsq, e1]
  unfold onL
  by_cases c : t < l.st
  · have c' : ¬ l.st ≤ t := by omega
    simp [c, c']
  · have c' : l.st ≤ t := by omega
    cases ce : l.sp.isEmpty with
    | true => simp [c, c', ce, hsh, hml, h3, h2]
    | false =>
      cases ci : inS wk l.sp t with
      | true => simp [c, c', ce, ci, hsh, hml, h3, h2]
      | false => simp [c, c', ce, ci, hsh, hml, h3, h2]
theorem law_on_eq {wk t : Int} {s : Sch} (hw : 0 < wk) (B : SchB s) : s__law_on [.int wk, eSch s, .int t] = some (eO (onC wk s t)) := by
  obtain ⟨ρ1, k1, a4, a5, a6, a7, a8, a9, a10, e1⟩ := for_inv (f := forTurn (gTup [4, 5, 6, 7]) onB1) (enc := eLay)
    (fun pre ρ => ∃ a4 a5 a6 a7 a8 a9 a10, ρ = [.val (.int wk), .val (eSch s), .val (.int t), .val (eO (pre.reverse.findSome? fun l => onL wk l t)), a4, a5, a6, a7, a8, a9, a10, .no]) s.ls
    [.val (.int wk), .val (eSch s), .val (.int t), .val .non, .no, .no, .no, .no, .no, .no, .no, .no] (by
      rintro pre l post ρ e ⟨a4, a5, a6, a7, a8, a9, a10, rfl⟩
      obtain ⟨ρ', h1, q4, q5, q6, q7, q8, q9, q10, h2⟩ := onB1_eq (t := t) (r := eSch s) (p := eO (pre.reverse.findSome? fun l => onL wk l t)) (a := .non) (b := .non) (c := .non) (d := .non) (e := .non) (f := .non) (g := .non) (h := .non)
        (s4 := a4) (s5 := a5) (s6 := a6) (s7 := a7) (s8 := a8) (s9 := a9) (s10 := a10) (s11 := .no) hw (B.lb l (by rw [e]; simp))
      refine ⟨ρ', h1, q4, q5, q6, q7, q8, q9, q10, ?_⟩
      rw [h2, fs_snoc]
      cases onL wk l t <;> rfl) ⟨_, _, _, _, _, _, _, rfl⟩
  obtain ⟨ρ2, k2, b9, b10, b11, e2⟩ := for_inv (f := forTurn (gTup [9, 10, 11]) (sIf (tChain .le (eVar 9) (eVar 2) (tLast .lt (bVar 10))) (sAsg (gName 3) (eVar 11)) sNext)) (enc := eStd)
    (fun pre ρ => ∃ b9 b10 b11, ρ = [.val (.int wk), .val (eSch s), .val (.int t), .val (eO (match pre.reverse.findSome? (fun x => if x.1 ≤ t ∧ t < x.2.1 then some x.2.2 else none) with
      | some p => some p
      | none => s.ls.reverse.findSome? fun l => onL wk l t)), a4, a5, a6, a7, a8, b9, b10, b11]) s.ss ρ1 (by
      rintro pre x post ρ e ⟨b9, b10, b11, rfl⟩
      rw [fs_snoc]
      by_cases h : x.1 ≤ t
      · by_cases h2 : t < x.2.1
        · simp [forTurn, h, h2]
        · simp [forTurn, h, h2]
      · simp [forTurn, h]) ⟨a9, a10, .no, by rw [e1]; rfl⟩
  refine run_rt rfl (ev_seq (ρ1 := [.val (.int wk), .val (eSch s), .val (.int t), .val .non, .no, .no, .no, .no, .no, .no, .no, .no]) rfl (ev_seq (ev_for (ds := s.ls.map eLay) (by simp [atD]) k1) (ev_seq (ev_for (ds := s.ss.map eStd) (by rw [e1]; simp [atD]) k2) (ev_ret ?_))))
  rw [e2]
  show some (eO _) = _
  unfold onC
  cases s.ss.reverse.findSome? (fun x => if x.1 ≤ t ∧ t < x.2.1 then some x.2.2 else none) <;> rfl
end WF
end
/-! text M4 -/
section
set_option Elab.async false
set_option linter.all false
set_option maxHeartbeats 1000000
/-! settled, period, lcm. -/
namespace WF
open PySem
def mx (a b : Int) : Int := if a < b then b else a
theorem mx_l (a b : Int) : a ≤ mx a b := by unfold mx; split <;> omega
theorem mx_r (a b : Int) : b ≤ mx a b := by unfold mx; split <;> omega
theorem mx_le {a b c : Int} (h1 : a ≤ c) (h2 : b ≤ c) : mx a b ≤ c := by unfold mx; split <;> omega
theorem maxI_fold : ∀ (m : Int) (xs : List Int), maxI m xs = xs.foldl mx m
  | m, [] => rfl
  | m, x :: r => by
    show maxI (if m < x then x else m) r = _
    rw [maxI_fold]
    rfl
theorem fold_mx_l : ∀ (xs : List Int) (m : Int), m ≤ xs.foldl mx m
  | [], m => Int.le_refl _
  | x :: r, m => Int.le_trans (mx_l m x) (fold_mx_l r _)
theorem fold_mx_mem : ∀ (xs : List Int) (m : Int), ∀ x ∈ xs, x ≤ xs.foldl mx m
  | [], m, x, h => by cases h
  | y :: r, m, x, h => by
    rcases List.mem_cons.mp h with rfl | h
    · exact Int.le_trans (mx_r m x) (fold_mx_l r _)
    · exact fold_mx_mem r _ x h
theorem fold_mx_le {c : Int} : ∀ (xs : List Int) (m : Int), m ≤ c → (∀ x ∈ xs, x ≤ c) → xs.foldl mx m ≤ c
  | [], m, h, _ => h
  | y :: r, m, h, k => fold_mx_le r _ (mx_le h (k y (List.mem_cons_self ..))) fun x hx => k x (List.mem_cons_of_mem _ hx)
def setl (s : Sch) : Int := (s.ss.map (·.2.1)).foldl mx ((s.ls.map (·.st)).foldl mx 0)
theorem max_eq (a b : Int) : (if b > a then b else a) = mx a b := rfl
theorem settled_eq {s : Sch} (B : SchB s) : s_settled [eSch s] = some (.int (setl s)) := by
  obtain ⟨ρ1, k1, a2, e1⟩ := for_inv (f := forTurn (gName 2) (sApp 1 (eIx (bVar 2) (eCon (.int 1))))) (enc := eLay)
    (fun pre ρ => ∃ a2, ρ = [.val (eSch s), .own (.int 0 :: pre.map fun l => .int l.st), a2, .no]) s.ls [.val (eSch s), .own [.int 0], .no, .no] (by
      rintro pre l post ρ e ⟨a2, rfl⟩
      have hl : pre.length < 100000 - 1 := by
        have h2 := B.ll
        rw [e] at h2
        simp at h2
        omega
      refine ⟨[.val (eSch s), .own (.int 0 :: (pre ++ [l]).map fun l => .int l.st), .val (eLay l), .no], ?_, _, rfl⟩
      have : pre.length + 1 < big := by unfold big; omega
      simp [forTurn, atD, this]) ⟨_, rfl⟩
  obtain ⟨ρ2, k2, a3, e2⟩ := for_inv (f := forTurn (gName 3) (sApp 1 (eIx (bVar 3) (eCon (.int 1))))) (enc := eStd)
    (fun pre ρ => ∃ a3, ρ = [.val (eSch s), .own (.int 0 :: (s.ls.map fun l => D.int l.st) ++ pre.map fun x => .int x.2.1), a2, a3]) s.ss ρ1 (by
      rintro pre x post ρ e ⟨a3, rfl⟩
      refine ⟨[.val (eSch s), .own (.int 0 :: (s.ls.map fun l => D.int l.st) ++ (pre ++ [x]).map fun x => .int x.2.1), a2, .val (eStd x)], ?_, _, rfl⟩
      have h2 := B.sl
      rw [e] at h2
      simp at h2
      have h3 := B.ll
      have : s.ls.length + pre.length + 1 < big := by unfold big; omega
      simp [forTurn, atD, this]) ⟨.no, by rw [e1]; simp⟩
  refine run_rt rfl (ev_seq (ρ1 := [.val (eSch s), .own [.int 0], .no, .no]) (by simp [entry, big]) (ev_seq (ev_for (ds := s.ls.map eLay) (by simp [atD]) k1) (ev_seq (ev_for (ds := s.ss.map eStd) (by rw [e1]; simp [atD]) k2) ?_)))
  rw [e2]
  have h1 : intsOf ((s.ls.map fun l => D.int l.st) ++ s.ss.map fun x => D.int x.2.1) = some (s.ls.map (·.st) ++ s.ss.map (·.2.1)) := by
    have : ((s.ls.map fun l => D.int l.st) ++ s.ss.map fun x => D.int x.2.1) = (s.ls.map (·.st) ++ s.ss.map (·.2.1)).map fun i => D.int i := by simp [Function.comp_def]
    rw [this, intsOf_map]
    simp [Function.comp_def]
  simp [h1, maxI_fold, setl]
theorem law_settled_eq {s : Sch} : s__law_settled [eSch s] = some (.int (setl s)) := by
  obtain ⟨ρ1, k1, a2, e1⟩ := for_inv (f := forTurn (gName 2) (sAsg (gName 1) (eBlt .max (aCons (eVar 1) (aCons (eIx (bVar 2) (eCon (.int 1))) aNil))))) (enc := eLay)
    (fun pre ρ => ∃ a2, ρ = [.val (eSch s), .val (.int ((pre.map (·.st)).foldl mx 0)), a2, .no]) s.ls [.val (eSch s), .val (.int 0), .no, .no] (by
      rintro pre l post ρ e ⟨a2, rfl⟩
      refine ⟨[.val (eSch s), .val (.int (((pre ++ [l]).map (·.st)).foldl mx 0)), .val (eLay l), .no], ?_, _, rfl⟩
      simp [forTurn, atD, mx]) ⟨_, rfl⟩
  obtain ⟨ρ2, k2, a3, e2⟩ := for_inv (f := forTurn (gName 3) (sAsg (gName 1) (eBlt .max (aCons (eVar 1) (aCons (eIx (bVar 3) (eCon (.int 1))) aNil))))) (enc := eStd)
    (fun pre ρ => ∃ a3, ρ = [.val (eSch s), .val (.int ((pre.map (·.2.1)).foldl mx ((s.ls.map (·.st)).foldl mx 0))), a2, a3]) s.ss ρ1 (by
      rintro pre x post ρ e ⟨a3, rfl⟩
      refine ⟨[.val (eSch s), .val (.int (((pre ++ [x]).map (·.2.1)).foldl mx ((s.ls.map (·.st)).foldl mx 0))), a2, .val (eStd x)], ?_, _, rfl⟩
      simp [forTurn, atD, mx]) ⟨.no, by rw [e1]; simp⟩
  refine run_rt rfl (ev_seq (ρ1 := [.val (eSch s), .val (.int 0), .no, .no]) (by simp [entry]) (ev_seq (ev_for (ds := s.ls.map eLay) (by simp [atD]) k1) (ev_seq (ev_for (ds := s.ss.map eStd) (by rw [e1]; simp [atD]) k2) ?_)))
  rw [e2]
  rfl
theorem setl_lay {s : Sch} {l : Lay} (h : l ∈ s.ls) : l.st ≤ setl s := Int.le_trans (fold_mx_mem _ _ _ (List.mem_map_of_mem h)) (fold_mx_l _ _)
theorem setl_std {s : Sch} {x : Int × Int × Str} (h : x ∈ s.ss) : x.2.1 ≤ setl s := fold_mx_mem _ _ _ (List.mem_map_of_mem (f := fun x : Int × Int × Str => x.2.1) h)
theorem setl_le {s : Sch} (B : SchB s) : setl s ≤ 42 := fold_mx_le _ _ (fold_mx_le _ _ (by omega) fun x hx => by
  obtain ⟨l, hl, rfl⟩ := List.mem_map.mp hx
  have := (B.lb l hl).st1
  omega) fun x hx => by
  obtain ⟨y, hy, rfl⟩ := List.mem_map.mp hx
  exact (B.sb y hy).2
theorem setl_ge {s : Sch} : 0 ≤ setl s := Int.le_trans (fold_mx_l _ _) (fold_mx_l _ _)
/-! ### lcm -/
theorem lcm_q {a b : Nat} (ha : 1 ≤ a) (hb : 1 ≤ b) : ∃ q, Nat.lcm a b = a * q ∧ 1 ≤ q ∧ q ≤ b ∧ ∀ m, b ∣ a * m ↔ q ∣ m := by
  have hd : a ∣ Nat.lcm a b := Nat.dvd_lcm_left a b
  obtain ⟨q, hq⟩ := hd
  have hpos : 0 < Nat.lcm a b := Nat.lcm_pos ha hb
  refine ⟨q, hq, ?_, ?_, fun m => ?_⟩
  · rcases Nat.eq_zero_or_pos q with z | z
    · rw [z] at hq; omega
    · exact z
  · have : Nat.lcm a b ≤ a * b := Nat.le_of_dvd (Nat.mul_pos ha hb) (Nat.lcm_dvd (Nat.dvd_mul_right a b) (Nat.dvd_mul_left b a))
    rw [hq] at this
    exact Nat.le_of_mul_le_mul_left this ha
  · constructor
    · intro h
      have h2 : Nat.lcm a b ∣ a * m := Nat.lcm_dvd (Nat.dvd_mul_right a m) h
      rw [hq] at h2
      exact Nat.dvd_of_mul_dvd_mul_left ha h2
    · intro h
      have h2 : a * q ∣ a * m := Nat.mul_dvd_mul_left a h
      rw [← hq] at h2
      exact Nat.dvd_trans (Nat.dvd_lcm_right a b) h2
theorem range_pre {n : Nat} {pre post : List Nat} {x : Nat} (e : List.range n = pre ++ x :: post) : x = pre.length ∧ pre.length < n := by
  have h : (List.range n)[pre.length]? = some x := by
    rw [e, List.getElem?_append_right (Nat.le_refl _), Nat.sub_self]
    rfl
  have hl : pre.length < n := by
    have := congrArg List.length e
    rw [List.length_range, List.length_append, List.length_cons] at this
    omega
  rw [List.getElem?_range hl] at h
  exact ⟨(Option.some.inj h).symm, hl⟩
theorem small62_of {i : Int} (h0 : -1000000 ≤ i) (h1 : i ≤ 1000000) : small62 i = true := by
  unfold small62
  have a1 : decide (-(2 ^ 62) ≤ i) = true := decide_eq_true (Int.le_trans (by decide) h0)
  have a2 : decide (i < 2 ^ 62) = true := decide_eq_true (Int.lt_of_le_of_lt h1 (by decide))
  rw [a1, a2]
  rfl
theorem small64_of {i : Int} (h0 : -1000000 ≤ i) (h1 : i ≤ 1000000) : small64 i = true := by
  unfold small64
  have a1 : decide (-(2 ^ 64) < i) = true := decide_eq_true (Int.lt_of_lt_of_le (by decide) h0)
  have a2 : decide (i < 2 ^ 64) = true := decide_eq_true (Int.lt_of_le_of_lt h1 (by decide))
  rw [a1, a2]
  rfl
theorem rng1_nat {b : Nat} (hb : b ≤ 100000) : rng1 [.int b] = some ((List.range b).map fun k : Nat => D.int (0 + (k : Int))) := by
  show (if small62 (b : Int) = true then some (upTo 0 (b : Int).toNat) else none) = _
  rw [if_pos (small62_of (by omega) (by omega))]
  rfl
theorem ev_rng1 {e : SE} {ρ : Env} {j : Int} {r : Option (List D)} (h : e ρ = some (.int j)) (k : rng1 [.int j] = r) : iRng rng1 (aCons e aNil) ρ = r := by
  have h2 : aCons e aNil ρ = some [.int j] := by
    show (e ρ).bind _ = _
    rw [h]
    rfl
  show (aCons e aNil ρ).bind _ = _
  rw [h2]
  exact k
theorem law_lcm_eq {a b : Nat} (ha : 1 ≤ a) (hb : 1 ≤ b) (hb2 : b ≤ 100000) : s__law_lcm [.int a, .int b] = some (.int (Nat.lcm a b : Nat)) := by
  obtain ⟨q, hq, q1, q2, qd⟩ := lcm_q ha hb
  have hbi : (0 : Int) < (b : Int) := by omega
  have hbn : 0 < b := hb
  obtain ⟨ρ1, k1, a3, e1⟩ := for_inv (f := forTurn (gName 3) (sIf (tCmp .ne (eBin .mod (eBlt .int (aCons (eVar 2) aNil)) (eVar 1)) (eCon (.int 0))) (sAsg (gName 2) (eBin .add (eVar 2) (eVar 0))) sNext)) (enc := fun k : Nat => D.int (0 + (k : Int)))
    (fun pre ρ => ∃ a3, ρ = [.val (.int a), .val (.int b), .val (.int ((a * min (pre.length + 1) q : Nat) : Int)), a3]) (List.range b) [.val (.int a), .val (.int b), .val (.int a), .no] (by
      rintro pre x post ρ e ⟨a3, rfl⟩
      obtain ⟨hx, hl⟩ := range_pre e
      subst hx
      refine ⟨[.val (.int a), .val (.int b), .val (.int ((a * min ((pre ++ [pre.length]).length + 1) q : Nat) : Int)), .val (.int (0 + (pre.length : Int)))], ?_, _, rfl⟩
      by_cases hm : pre.length + 1 < q
      · have m1 : min (pre.length + 1) q = pre.length + 1 := by omega
        have m2 : min (pre.length + 1 + 1) q = pre.length + 1 + 1 := by omega
        have nd : ¬ (b : Int) ∣ ((a * (pre.length + 1) : Nat) : Int) := fun h => by
          have h2 := (qd _).mp (Int.natCast_dvd_natCast.mp h)
          have := Nat.le_of_dvd (by omega) h2
          omega
        have nz : ¬ ((a * (pre.length + 1) : Nat) : Int) % (b : Int) = 0 := fun h => nd (Int.dvd_of_emod_eq_zero h)
        simp only [List.length_append, List.length_singleton, m1, m2]
        have e3 : ((a * (pre.length + 1 + 1) : Nat) : Int) = ((a * (pre.length + 1) : Nat) : Int) + (a : Int) := by
          rw [Nat.mul_add a (pre.length + 1) 1, Nat.mul_one]
          exact Int.natCast_add _ _
        rw [e3]
        generalize ((a * (pre.length + 1) : Nat) : Int) = z at nz
        simp [forTurn, hbi, hbn, nz]
      · have m1 : min (pre.length + 1) q = q := by omega
        have m2 : min (pre.length + 1 + 1) q = q := by omega
        have dz : ((a * q : Nat) : Int) % (b : Int) = 0 := Int.emod_eq_zero_of_dvd (Int.natCast_dvd_natCast.mpr ((qd q).mpr (Nat.dvd_refl q)))
        simp only [List.length_append, List.length_singleton, m1, m2]
        generalize ((a * q : Nat) : Int) = z at dz
        simp [forTurn, hbi, hbn, dz]) ⟨.no, by
          have : min 1 q = 1 := by omega
          simp [this]⟩
  refine run_rt rfl (ev_seq (ρ1 := [.val (.int a), .val (.int b), .val (.int a), .no]) (by simp [entry]) (ev_seq (ev_for (ds := (List.range b).map fun k : Nat => D.int (0 + (k : Int))) ?_ k1) ?_))
  · exact ev_rng1 (e := eVar 1) rfl (rng1_nat hb2)
  · rw [e1]
    have : min (b + 1) q = q := by omega
    simp [this, hq]
end WF
end
/-! text M5 -/
section
set_option Elab.async false
set_option linter.all false
set_option maxHeartbeats 1000000
/-! period: the program's and the law's. -/
namespace WF
open PySem
def LL : Nat := 80313433200
theorem dvd_LL {n : Nat} (h1 : 1 ≤ n) (h2 : n ≤ 27) : n ∣ LL := by
  have : ∀ n : Fin 28, 1 ≤ n.val → n.val ∣ LL := by decide +kernel
  exact this ⟨n, by omega⟩ h1
def stepP (wk : Int) (m : Nat) (l : Lay) : Nat :=
  let m1 := if 1 < l.ms.length then Nat.lcm m (l.sh.toNat * l.ms.length) else m
  if l.sp.isEmpty = true then m1 else Nat.lcm m1 wk.toNat
def perN (wk : Int) (s : Sch) : Nat := s.ls.foldl (stepP wk) 1
theorem lay_n {l : Lay} (B : LayB l) : 1 ≤ l.sh.toNat * l.ms.length ∧ l.sh.toNat * l.ms.length ≤ 27 := by
  have h1 := B.sh0
  have h2 := B.sh1
  have h3 := B.ml
  have h4 : 0 < l.ms.length := List.length_pos_iff.mpr B.ms
  have h5 : 1 ≤ l.sh.toNat ∧ l.sh.toNat ≤ 9 := by omega
  exact ⟨Nat.mul_pos h5.1 h4, Nat.mul_le_mul h5.2 h3⟩
theorem lcm_ok {a b : Nat} (ha : a ∣ LL) (hb : b ∣ LL) : bltD .lcm [.int (a : Int), .int (b : Int)] = some (.int (Nat.lcm a b : Nat)) := by
  have h1 : a ≤ LL := Nat.le_of_dvd (by decide) ha
  have h2 : b ≤ LL := Nat.le_of_dvd (by decide) hb
  have h3 : LL < 2 ^ 64 := by decide
  show (if (a : Int).natAbs < 2 ^ 64 ∧ (b : Int).natAbs < 2 ^ 64 then some (D.int (Nat.lcm (a : Int).natAbs (b : Int).natAbs : Nat)) else none) = _
  rw [Int.natAbs_natCast, Int.natAbs_natCast, if_pos ⟨by omega, by omega⟩]
theorem ev_lcm {e1 e2 : SE} {ρ : Env} {a b : Nat} (h1 : e1 ρ = some (.int (a : Int))) (h2 : e2 ρ = some (.int (b : Int))) (ha : a ∣ LL) (hb : b ∣ LL) : eBlt .lcm (aCons e1 (aCons e2 aNil)) ρ = some (.int (Nat.lcm a b : Nat)) := by
  have h3 : aCons e1 (aCons e2 aNil) ρ = some [.int (a : Int), .int (b : Int)] := by
    show (e1 ρ).bind _ = _
    rw [h1]
    show ((e2 ρ).bind _).map _ = _
    rw [h2]
    rfl
  show (aCons e1 (aCons e2 aNil) ρ).bind _ = _
  rw [h3]
  exact lcm_ok ha hb
structure WkB (wk : Int) : Prop where
  w0 : 2 ≤ wk
  w1 : wk ≤ 24
theorem WkB.dv {wk : Int} (W : WkB wk) : wk.toNat ∣ LL := dvd_LL (by have := W.w0; omega) (by have := W.w1; omega)
theorem WkB.cast {wk : Int} (W : WkB wk) : ((wk.toNat : Nat) : Int) = wk := by have := W.w0; omega
theorem sh_cast {l : Lay} (B : LayB l) : ((l.sh.toNat * l.ms.length : Nat) : Int) = l.sh * (l.ms.length : Int) := by
  have h1 := B.sh0
  rw [Int.natCast_mul]
  congr 1
  omega
theorem stepP_ok {wk : Int} {m : Nat} {l : Lay} (W : WkB wk) (B : LayB l) (h : m ∣ LL) (h1 : 1 ≤ m) : stepP wk m l ∣ LL ∧ 1 ≤ stepP wk m l := by
  have k : (if 1 < l.ms.length then Nat.lcm m (l.sh.toNat * l.ms.length) else m) ∣ LL ∧ 1 ≤ (if 1 < l.ms.length then Nat.lcm m (l.sh.toNat * l.ms.length) else m) := by
    split
    · exact ⟨Nat.lcm_dvd h (dvd_LL (lay_n B).1 (lay_n B).2), Nat.lcm_pos h1 (lay_n B).1⟩
    · exact ⟨h, h1⟩
  unfold stepP
  dsimp only
  split
  · exact k
  · exact ⟨Nat.lcm_dvd k.1 W.dv, Nat.lcm_pos k.2 (by have := W.w0; omega)⟩
theorem foldP_ok {wk : Int} (W : WkB wk) : ∀ (ls : List Lay) (m : Nat), (∀ l ∈ ls, LayB l) → m ∣ LL → 1 ≤ m → ls.foldl (stepP wk) m ∣ LL ∧ 1 ≤ ls.foldl (stepP wk) m
  | [], m, _, h, h1 => ⟨h, h1⟩
  | l :: ls, m, B, h, h1 => by
    obtain ⟨a, b⟩ := stepP_ok (l := l) W (B l (List.mem_cons_self ..)) h h1
    exact foldP_ok W ls _ (fun x hx => B x (List.mem_cons_of_mem _ hx)) a b
theorem perN_ok {wk : Int} {s : Sch} (W : WkB wk) (B : SchB s) : perN wk s ∣ LL ∧ 1 ≤ perN wk s := foldP_ok W s.ls 1 B.lb (Nat.one_dvd _) (Nat.le_refl _)
theorem pre_ok {wk : Int} {s : Sch} (W : WkB wk) (B : SchB s) {pre post : List Lay} (e : s.ls = pre ++ post) : pre.foldl (stepP wk) 1 ∣ LL ∧ 1 ≤ pre.foldl (stepP wk) 1 :=
  foldP_ok W pre 1 (fun l hl => B.lb l (by rw [e]; exact List.mem_append_left _ hl)) (Nat.one_dvd _) (Nat.le_refl _)
theorem period_eq {wk : Int} {s : Sch} (W : WkB wk) (B : SchB s) : s_period [.int wk, eSch s] = some (.int (perN wk s : Nat)) := by
  obtain ⟨ρ1, k1, a3, a4, a5, a6, e1⟩ := for_inv (f := forTurn (gTup [3, 4, 5, 6]) (sSeq (sIf (tCmp .gt (eBlt .len (aCons (bVar 3) aNil)) (eCon (.int 1)))
      (sAsg (gName 2) (eBlt .lcm (aCons (eVar 2) (aCons (eBin .mul (eVar 5) (eBlt .len (aCons (bVar 3) aNil))) aNil)))) sNext)
      (sIf (tVal (eVar 6)) (sAsg (gName 2) (eBlt .lcm (aCons (eVar 2) (aCons (eVar 0) aNil)))) sNext))) (enc := eLay)
    (fun pre ρ => ∃ a3 a4 a5 a6, ρ = [.val (.int wk), .val (eSch s), .val (.int (pre.foldl (stepP wk) 1 : Nat)), a3, a4, a5, a6]) s.ls [.val (.int wk), .val (eSch s), .val (.int 1), .no, .no, .no, .no] (by
      rintro pre l post ρ e ⟨a3, a4, a5, a6, rfl⟩
      have hB := B.lb l (by rw [e]; simp)
      obtain ⟨hm, hm1⟩ := pre_ok W B e
      rw [List.foldl_append, List.foldl_cons, List.foldl_nil]
      generalize pre.foldl (stepP wk) 1 = m at hm hm1
      refine ⟨[.val (.int wk), .val (eSch s), .val (.int (stepP wk m l : Nat)), .val (.tup (l.ms.map .str)), .val (.int l.st), .val (.int l.sh), .val (.tup (l.sp.map eSpan))], ?_, _, _, _, _, rfl⟩
      show (sSeq _ _) [.val (.int wk), .val (eSch s), .val (.int (m : Nat)), .val (.tup (l.ms.map .str)), .val (.int l.st), .val (.int l.sh), .val (.tup (l.sp.map eSpan))] = _
      have second : ∀ m1 : Nat, m1 ∣ LL → sIf (tVal (eVar 6)) (sAsg (gName 2) (eBlt .lcm (aCons (eVar 2) (aCons (eVar 0) aNil)))) sNext [.val (.int wk), .val (eSch s), .val (.int (m1 : Nat)), .val (.tup (l.ms.map .str)), .val (.int l.st), .val (.int l.sh), .val (.tup (l.sp.map eSpan))] =
          some (.nx [.val (.int wk), .val (eSch s), .val (.int ((if l.sp.isEmpty = true then m1 else Nat.lcm m1 wk.toNat : Nat) : Int)), .val (.tup (l.ms.map .str)), .val (.int l.st), .val (.int l.sh), .val (.tup (l.sp.map eSpan))]) := fun m1 hm1 => by
        cases ce : l.sp.isEmpty with
        | true => exact ev_ifF (by simp [ce]) rfl
        | false => exact ev_ifT (by simp [ce]) (ev_asg (ev_lcm (a := m1) (b := wk.toNat) rfl (by rw [W.cast]; rfl) hm1 W.dv))
      unfold stepP
      dsimp only
      by_cases c : 1 < l.ms.length
      · rw [if_pos c]
        exact ev_seq (ev_ifT (by simp; omega) (ev_asg (ev_lcm (a := m) (b := l.sh.toNat * l.ms.length) rfl (by rw [sh_cast hB]; simp [small64_of (show -1000000 ≤ l.sh by have := hB.sh0; omega) (show l.sh ≤ 1000000 by have := hB.sh1; omega)]) hm (dvd_LL (lay_n hB).1 (lay_n hB).2)))) (second _ (Nat.lcm_dvd hm (dvd_LL (lay_n hB).1 (lay_n hB).2)))
      · rw [if_neg c]
        exact ev_seq (ev_ifF (by simp; omega) rfl) (second m hm)) ⟨_, _, _, _, rfl⟩
  refine run_rt rfl (ev_seq (ρ1 := [.val (.int wk), .val (eSch s), .val (.int 1), .no, .no, .no, .no]) rfl (ev_seq (ev_for (ds := s.ls.map eLay) (by simp [atD]) k1) (ev_ret ?_)))
  rw [e1]
  rfl
theorem ev_call2 {f : List D → Option D} {e1 e2 : SE} {ρ : Env} {a b : D} {r : Option D} (h1 : e1 ρ = some a) (h2 : e2 ρ = some b) (k : f [a, b] = r) : eCall f (aCons e1 (aCons e2 aNil)) ρ = r := by
  have h3 : aCons e1 (aCons e2 aNil) ρ = some [a, b] := by
    show (e1 ρ).bind _ = _
    rw [h1]
    show ((e2 ρ).bind _).map _ = _
    rw [h2]
    rfl
  show (aCons e1 (aCons e2 aNil) ρ).bind _ = _
  rw [h3]
  exact k
theorem ev_call3 {f : List D → Option D} {e1 e2 e3 : SE} {ρ : Env} {a b c : D} {r : Option D} (h1 : e1 ρ = some a) (h2 : e2 ρ = some b) (h3 : e3 ρ = some c) (k : f [a, b, c] = r) : eCall f (aCons e1 (aCons e2 (aCons e3 aNil))) ρ = r := by
  have h3 : aCons e1 (aCons e2 (aCons e3 aNil)) ρ = some [a, b, c] := by
    show (e1 ρ).bind _ = _
    rw [h1]
    show ((e2 ρ).bind _).map _ = _
    rw [h2]
    show (((e3 ρ).bind _).map _).map _ = _
    rw [h3]
    rfl
  show (aCons e1 (aCons e2 (aCons e3 aNil)) ρ).bind _ = _
  rw [h3]
  exact k
theorem law_period_eq {wk : Int} {s : Sch} (W : WkB wk) (B : SchB s) : s__law_period [.int wk, eSch s] = some (.int (perN wk s : Nat)) := by
  obtain ⟨ρ1, k1, a3, a4, a5, a6, e1⟩ := for_inv (f := forTurn (gTup [3, 4, 5, 6]) (sSeq (sIf (tCmp .gt (eBlt .len (aCons (bVar 3) aNil)) (eCon (.int 1)))
      (sAsg (gName 2) (eCall s__law_lcm (aCons (eVar 2) (aCons (eBin .mul (eVar 5) (eBlt .len (aCons (bVar 3) aNil))) aNil)))) sNext)
      (sIf (tCmp .gt (eBlt .len (aCons (bVar 6) aNil)) (eCon (.int 0))) (sAsg (gName 2) (eCall s__law_lcm (aCons (eVar 2) (aCons (eVar 0) aNil)))) sNext))) (enc := eLay)
    (fun pre ρ => ∃ a3 a4 a5 a6, ρ = [.val (.int wk), .val (eSch s), .val (.int (pre.foldl (stepP wk) 1 : Nat)), a3, a4, a5, a6]) s.ls [.val (.int wk), .val (eSch s), .val (.int 1), .no, .no, .no, .no] (by
      rintro pre l post ρ e ⟨a3, a4, a5, a6, rfl⟩
      have hB := B.lb l (by rw [e]; simp)
      obtain ⟨hm, hm1⟩ := pre_ok W B e
      rw [List.foldl_append, List.foldl_cons, List.foldl_nil]
      generalize pre.foldl (stepP wk) 1 = m at hm hm1
      refine ⟨[.val (.int wk), .val (eSch s), .val (.int (stepP wk m l : Nat)), .val (.tup (l.ms.map .str)), .val (.int l.st), .val (.int l.sh), .val (.tup (l.sp.map eSpan))], ?_, _, _, _, _, rfl⟩
      show (sSeq _ _) [.val (.int wk), .val (eSch s), .val (.int (m : Nat)), .val (.tup (l.ms.map .str)), .val (.int l.st), .val (.int l.sh), .val (.tup (l.sp.map eSpan))] = _
      have second : ∀ m1 : Nat, 1 ≤ m1 → sIf (tCmp .gt (eBlt .len (aCons (bVar 6) aNil)) (eCon (.int 0))) (sAsg (gName 2) (eCall s__law_lcm (aCons (eVar 2) (aCons (eVar 0) aNil)))) sNext [.val (.int wk), .val (eSch s), .val (.int (m1 : Nat)), .val (.tup (l.ms.map .str)), .val (.int l.st), .val (.int l.sh), .val (.tup (l.sp.map eSpan))] =
          some (.nx [.val (.int wk), .val (eSch s), .val (.int ((if l.sp.isEmpty = true then m1 else Nat.lcm m1 wk.toNat : Nat) : Int)), .val (.tup (l.ms.map .str)), .val (.int l.st), .val (.int l.sh), .val (.tup (l.sp.map eSpan))]) := fun m1 hm1 => by
        have hwc := W.cast
        have h0 := W.w0
        have h1 := W.w1
        cases ce : l.sp with
        | nil => exact ev_ifF (by simp) rfl
        | cons a r => exact ev_ifT (by simp) (ev_asg (ev_call2 (a := .int (m1 : Nat)) (b := .int (wk.toNat : Nat)) rfl (by rw [W.cast]; rfl) (law_lcm_eq hm1 (by omega) (by omega))))
      unfold stepP
      dsimp only
      by_cases c : 1 < l.ms.length
      · rw [if_pos c]
        have hn := lay_n hB
        exact ev_seq (ev_ifT (by simp; omega) (ev_asg (ev_call2 (a := .int (m : Nat)) (b := .int (l.sh.toNat * l.ms.length : Nat)) rfl (by rw [sh_cast hB]; simp [small64_of (show -1000000 ≤ l.sh by have := hB.sh0; omega) (show l.sh ≤ 1000000 by have := hB.sh1; omega)]) (law_lcm_eq hm1 hn.1 (by omega))))) (second _ (Nat.lcm_pos hm1 hn.1))
      · rw [if_neg c]
        exact ev_seq (ev_ifF (by simp; omega) rfl) (second m hm1)) ⟨_, _, _, _, rfl⟩
  refine run_rt rfl (ev_seq (ρ1 := [.val (.int wk), .val (eSch s), .val (.int 1), .no, .no, .no, .no]) rfl (ev_seq (ev_for (ds := s.ls.map eLay) (by simp [atD]) k1) (ev_ret ?_)))
  rw [e1]
  rfl
end WF
end
/-! text M6 -/
section
set_option Elab.async false
set_option linter.all false
set_option maxHeartbeats 1000000
/-! Look-ups, muted, sure, plan, delay. -/
namespace WF
open PySem
theorem find_first {α : Type} {enc : α → D} {nm : α → Str} {r : α → List D} (he : ∀ x, enc x = .tup (.str (nm x) :: r x)) (n : Str) (i : Nat) (ρ0 : Slot → Env) (hi : ∀ s d, (ρ0 s).set i (.val d) = ρ0 (.val d)) (hg : ∀ s, (ρ0 s)[1]? = some (.val (.str n))) (hg2 : ∀ s, (ρ0 s)[i]? = some s) (xs : List α) (s0 : Slot) :
    (∀ d, xs.findSome? (fun x => if nm x = n then some (enc x) else none) = some d → forLoop (forTurn (gName i) (sIf (tCmp .eq (eIx (bVar i) (eCon (.int 0))) (bVar 1)) (sRet (eVar i)) sNext)) (xs.map enc) (ρ0 s0) = some (.rt d)) ∧
    (xs.findSome? (fun x => if nm x = n then some (enc x) else none) = none → ∃ ρ', forLoop (forTurn (gName i) (sIf (tCmp .eq (eIx (bVar i) (eCon (.int 0))) (bVar 1)) (sRet (eVar i)) sNext)) (xs.map enc) (ρ0 s0) = some (.nx ρ') ∧ ∃ s, ρ' = ρ0 s) := by
  refine for_find (fun ρ => ∃ s, ρ = ρ0 s) _ xs _ ?_ ⟨s0, rfl⟩
  rintro x hx ρ ⟨s, rfl⟩
  have hx1 : ixD (enc x) (.int 0) = some (.str (nm x)) := by rw [he]; rfl
  by_cases c : nm x = n
  · have : (if nm x = n then some (enc x) else none) = some (enc x) := if_pos c
    rw [this]
    refine ⟨fun d q => ?_, fun q => (by cases q)⟩
    cases q
    simp only [forTurn, gName, Option.bind_some, hi, sIf, tCmp, eIx, bVar, hg2, eCon, hx1, hg, cmpD, eqD, c, decide_true, if_true, sRet, eVar, Option.map_some]
  · have : (if nm x = n then some (enc x) else none) = none := if_neg c
    rw [this]
    refine ⟨fun d q => (by cases q), fun _ => ⟨ρ0 (.val (enc x)), ?_, _, rfl⟩⟩
    simp only [forTurn, gName, Option.bind_some, hi, sIf, tCmp, eIx, bVar, hg2, eCon, hx1, hg, cmpD, eqD, c, decide_false, Bool.false_eq_true, if_false, sNext]
def fnd {α : Type} (nm : α → Str) (xs : List α) (n : Str) : Option α := xs.find? fun x => decide (nm x = n)
theorem fnd_fs {α : Type} (nm : α → Str) (enc : α → D) (n : Str) : ∀ xs : List α, xs.findSome? (fun x => if nm x = n then some (enc x) else none) = (fnd nm xs n).map enc
  | [] => rfl
  | x :: xs => by
    unfold fnd
    rw [List.findSome?_cons, List.find?_cons]
    by_cases c : nm x = n
    · simp [c]
    · simp only [c, if_false, decide_false]
      exact fnd_fs nm enc n xs
theorem fnd_mem {α : Type} {nm : α → Str} {xs : List α} {n : Str} {x : α} (h : fnd nm xs n = some x) : x ∈ xs ∧ nm x = n := ⟨List.mem_of_find?_eq_some h, by simpa using List.find?_some h⟩
theorem fnd_some {α : Type} {nm : α → Str} {xs : List α} {n : Str} (h : n ∈ xs.map nm) : ∃ x, fnd nm xs n = some x := by
  obtain ⟨x, hx, e⟩ := List.mem_map.mp h
  cases q : fnd nm xs n with
  | some y => exact ⟨y, rfl⟩
  | none =>
    have := List.find?_eq_none.mp q x hx
    simp [e] at this
theorem entry_of_eq {α : Type} {enc : α → D} {nm : α → Str} {r : α → List D} (he : ∀ x, enc x = .tup (.str (nm x) :: r x)) {xs : List α} {n wd : Str} {x : α} (h : fnd nm xs n = some x) : s_entry_of [.lst (xs.map enc), .str n, .str wd] = some (enc x) := by
  have A := (find_first he n 3 (fun s => [.val (.lst (xs.map enc)), .val (.str n), .val (.str wd), s]) (fun _ _ => rfl) (fun _ => rfl) (fun _ => rfl) xs .no).1 (enc x) (by rw [fnd_fs, h]; rfl)
  exact run_rt rfl (ev_seqR (ev_for (ds := xs.map enc) rfl A))
theorem law_find_eq {α : Type} {enc : α → D} {nm : α → Str} {r : α → List D} (he : ∀ x, enc x = .tup (.str (nm x) :: r x)) {xs : List α} {n : Str} {x : α} (h : fnd nm xs n = some x) : s__law_find [.lst (xs.map enc), .str n] = some (enc x) := by
  have A := (find_first he n 2 (fun s => [.val (.lst (xs.map enc)), .val (.str n), s]) (fun _ _ => rfl) (fun _ => rfl) (fun _ => rfl) xs .no).1 (enc x) (by rw [fnd_fs, h]; rfl)
  exact run_rt rfl (ev_seqR (ev_for (ds := xs.map enc) rfl A))
structure StgB (w : Wor) (s : Stg) : Prop where
  wt0 : 0 ≤ s.wt
  wt1 : s.wt ≤ 4
  iv0 : 1 ≤ s.iv
  iv1 : s.iv ≤ 6
  ag0 : s.iv ≤ s.ag
  ag1 : s.ag ≤ 14
  ml : s.mu.length ≤ 2
  mu : ∀ n ∈ s.mu, n ∈ w.wi.map (·.nm)
  po : s.po ∈ w.po.map (·.nm)
structure WorB (w : Wor) : Prop where
  wk : WkB w.wk
  sb : ∀ s ∈ w.sc, SchB s
  pl : ∀ s ∈ w.sc, (∀ l ∈ s.ls, ∀ m ∈ l.ms, m ∈ w.pe.map (·.1)) ∧ ∀ x ∈ s.ss, x.2.2 ∈ w.pe.map (·.1)
  pb : ∀ p ∈ w.po, 1 ≤ p.lv.length ∧ p.lv.length ≤ 3 ∧ ∀ l ∈ p.lv, l.1 ∈ w.sc.map (·.nm) ∧ 0 ≤ l.2 ∧ l.2 ≤ 8
  wb : ∀ x ∈ w.wi, x.sp.length ≤ 2
  rb : ∀ r ∈ w.ro, StgB w r.se
  re0 : 1 ≤ w.re
  re1 : w.re ≤ 3
  pz0 : 0 ≤ w.pz
  pz1 : w.pz ≤ 3
def winSp (w : Wor) (n : Str) : List Span := match fnd (·.nm) w.wi n with
  | some x => x.sp
  | none => []
def schOf (w : Wor) (n : Str) : Sch := match fnd (·.nm) w.sc n with
  | some x => x
  | none => ⟨n, [], []⟩
def polLv (w : Wor) (n : Str) : List (Str × Int) := match fnd (·.nm) w.po n with
  | some x => x.lv
  | none => []
def sureB (w : Wor) (p : Str) : Bool := match fnd (·.1) w.pe p with
  | some x => decide (w.dn < x.2)
  | none => false
def mutedB (w : Wor) (mu : List Str) (t : Int) : Bool := mu.any fun n => inS w.wk (winSp w n) t
def lvSure (w : Wor) (t : Int) (l : Str × Int) : Bool := match onC w.wk (schOf w l.1) (t + l.2) with
  | some p => sureB w p
  | none => false
def minO : List Int → Option Int
  | [] => none
  | x :: r => some (minI x r)
@[simp] def eI : Option Int → D
  | none => .non
  | some i => .int i
def delayO (w : Wor) (lv : List (Str × Int)) (t : Int) : Option Int := minO ((lv.filter (lvSure w t)).map (·.2))
section
variable {w : Wor}
theorem he_win : ∀ x : Win, eWin x = .tup (.str x.nm :: [.tup (x.sp.map eSpan)]) := fun _ => rfl
theorem he_sch : ∀ x : Sch, eSch x = .tup (.str x.nm :: [.tup (x.ls.map eLay), .tup (x.ss.map eStd)]) := fun _ => rfl
theorem he_pol : ∀ x : Pol, ePol x = .tup (.str x.nm :: [.tup (x.lv.map eLev)]) := fun _ => rfl
theorem he_per : ∀ x : Str × Int, ePer x = .tup (.str x.1 :: [.int x.2]) := fun _ => rfl
theorem win_eq {n : Str} (h : n ∈ w.wi.map (·.nm)) : ∃ x ∈ w.wi, winSp w n = x.sp ∧ s_window_of [eWor w, .str n] = some (eWin x) ∧ s__law_find [.lst (w.wi.map eWin), .str n] = some (eWin x) := by
  obtain ⟨x, hx⟩ := fnd_some h
  refine ⟨x, (fnd_mem hx).1, by unfold winSp; rw [hx], run_rt rfl (ev_ret (ev_call3 (a := .lst (w.wi.map eWin)) (b := .str n) (c := .str "window") (f_win w) rfl rfl (entry_of_eq he_win hx))), law_find_eq he_win hx⟩
theorem sch_eq {n : Str} (h : n ∈ w.sc.map (·.nm)) : schOf w n ∈ w.sc ∧ s_schedule_of [eWor w, .str n] = some (eSch (schOf w n)) ∧ s__law_find [.lst (w.sc.map eSch), .str n] = some (eSch (schOf w n)) := by
  obtain ⟨x, hx⟩ := fnd_some h
  have e : schOf w n = x := by unfold schOf; rw [hx]
  rw [e]
  exact ⟨(fnd_mem hx).1, run_rt rfl (ev_ret (ev_call3 (a := .lst (w.sc.map eSch)) (b := .str n) (c := .str "schedule") (f_sch w) rfl rfl (entry_of_eq he_sch hx))), law_find_eq he_sch hx⟩
theorem pol_eq {n : Str} (h : n ∈ w.po.map (·.nm)) : ∃ x ∈ w.po, polLv w n = x.lv ∧ s_policy_of [eWor w, .str n] = some (ePol x) ∧ s__law_find [.lst (w.po.map ePol), .str n] = some (ePol x) := by
  obtain ⟨x, hx⟩ := fnd_some h
  exact ⟨x, (fnd_mem hx).1, by unfold polLv; rw [hx], run_rt rfl (ev_ret (ev_call3 (a := .lst (w.po.map ePol)) (b := .str n) (c := .str "policy") (f_pol w) rfl rfl (entry_of_eq he_pol hx))), law_find_eq he_pol hx⟩
theorem per_eq {n : Str} (h : n ∈ w.pe.map (·.1)) : ∃ x ∈ w.pe, sureB w n = decide (w.dn < x.2) ∧ s_channels_of [eWor w, .str n] = some (.int x.2) ∧ s__law_find [.lst (w.pe.map ePer), .str n] = some (ePer x) := by
  obtain ⟨x, hx⟩ := fnd_some h
  refine ⟨x, (fnd_mem hx).1, by unfold sureB; rw [hx], run_rt rfl (ev_ret ?_), law_find_eq he_per hx⟩
  have := ev_call3 (f := s_entry_of) (ρ := entry 2 [eWor w, .str n]) (e1 := eFld (eVar 0) "people") (e2 := eVar 1) (e3 := eCon (.str "person")) (a := .lst (w.pe.map ePer)) (b := .str n) (c := .str "person") (f_people w) rfl rfl (entry_of_eq he_per hx)
  show ((eCall s_entry_of _ (entry 2 [eWor w, .str n])).bind _) = _
  rw [this]
  rfl
theorem sure_eq {n : Str} (h : n ∈ w.pe.map (·.1)) : s_is_sure [eWor w, .str n] = some (.bl (sureB w n)) := by
  obtain ⟨x, hx, e1, e2, _⟩ := per_eq h
  rw [e1]
  refine run_rt rfl (ev_ret ?_)
  have := ev_call2 (f := s_channels_of) (ρ := entry 2 [eWor w, .str n]) (e1 := eVar 0) (e2 := eVar 1) (a := eWor w) (b := .str n) rfl rfl e2
  show Option.map _ ((eCall s_channels_of _ (entry 2 [eWor w, .str n])).bind _) = _
  rw [this]
  rfl
theorem muted_eq (B : WorB w) {mu : List Str} {t : Int} (hm : ∀ n ∈ mu, n ∈ w.wi.map (·.nm)) (hl : mu.length ≤ 2) : s_is_muted [eWor w, .tup (mu.map .str), .int t] = some (.bl (mutedB w mu t)) := by
  have hw : 0 < w.wk := by have := B.wk.w0; omega
  refine run_rt rfl (ev_ret (ev_blt1 (comp_map (xs := mu) (enc := D.str) (fun n => .bl (inS w.wk (winSp w n) t)) rfl (big_of (by omega)) fun n hn => ?_) ?_))
  · obtain ⟨x, hx, e1, e2, _⟩ := win_eq (hm n hn)
    have hs := in_spans_eq (t := t) (sp := x.sp) hw (by have := B.wb x hx; omega)
    rw [e1]
    show ((eCall s_in_spans _ _).map some) = _
    rw [ev_call3 (a := .int w.wk) (b := .tup (x.sp.map eSpan)) (c := .int t) (f_week w) ?_ rfl hs]
    · rfl
    · have := ev_call2 (f := s_window_of) (ρ := [.val (eWor w), .val (.tup (mu.map .str)), .val (.int t), .val (.str n)]) (e1 := eVar 0) (e2 := eVar 3) (a := eWor w) (b := .str n) rfl rfl e2
      show ((eCall s_window_of _ _).bind _) = _
      rw [show (wipeE (entry 4 [eWor w, .tup (mu.map .str), .int t]) [3]).set 3 (.val (.str n)) = [.val (eWor w), .val (.tup (mu.map .str)), .val (.int t), .val (.str n)] from rfl, this]
      rfl
  · simp [blsOf_map, mutedB]
end
end WF
end
/-! text M7 -/
section
set_option Elab.async false
set_option linter.all false
set_option maxHeartbeats 1000000
/-! plan, delay, can_fail, the law's muted and bad. -/
namespace WF
open PySem
section
variable {w : Wor}
theorem ev_add {e1 e2 : SE} {ρ : Env} {a b : Int} (h1 : e1 ρ = some (.int a)) (h2 : e2 ρ = some (.int b)) : eBin .add e1 e2 ρ = some (.int (a + b)) := by
  show (e1 ρ).bind _ = _
  rw [h1]
  show (e2 ρ).bind _ = _
  rw [h2]
  rfl
theorem ev_sub {e1 e2 : SE} {ρ : Env} {a b : Int} (h1 : e1 ρ = some (.int a)) (h2 : e2 ρ = some (.int b)) : eBin .sub e1 e2 ρ = some (.int (a - b)) := by
  show (e1 ρ).bind _ = _
  rw [h1]
  show (e2 ρ).bind _ = _
  rw [h2]
  rfl
theorem ev_ix {e1 e2 : SE} {ρ : Env} {a b : D} {r : Option D} (h1 : e1 ρ = some a) (h2 : e2 ρ = some b) (h : ixD a b = r) : eIx e1 e2 ρ = r := by
  show (e1 ρ).bind _ = _
  rw [h1]
  show (e2 ρ).bind _ = _
  rw [h2]
  exact h
theorem ev_seqI {e : SE} {ρ : Env} {d : D} {r : Option (List D)} (h : e ρ = some d) (k : seqD d = r) : iSeq e ρ = r := by
  show (e ρ).bind _ = _
  rw [h]
  exact k
theorem ev_cmp {o : Cop} {e1 e2 : SE} {ρ : Env} {a b : D} {r : Option Bool} (h1 : e1 ρ = some a) (h2 : e2 ρ = some b) (h : cmpD o a b = r) : tCmp o e1 e2 ρ = r := by
  show (e1 ρ).bind _ = _
  rw [h1]
  show (e2 ρ).bind _ = _
  rw [h2]
  exact h
theorem ev_val {e : SE} {ρ : Env} {d : D} {r : Option Bool} (h : e ρ = some d) (k : truD d = r) : tVal e ρ = r := by
  show (e ρ).bind _ = _
  rw [h]
  exact k
theorem ev_not {t : ST} {ρ : Env} {b : Bool} (h : t ρ = some b) : tNot t ρ = some (!b) := by
  show (t ρ).map _ = _
  rw [h]
  rfl
theorem ev_andT {t u : ST} {ρ : Env} {r : Option Bool} (h : t ρ = some true) (k : u ρ = r) : tAnd t u ρ = r := by
  show (t ρ).bind _ = _
  rw [h]
  exact k
theorem ev_andF {t u : ST} {ρ : Env} (h : t ρ = some false) : tAnd t u ρ = some false := by
  show (t ρ).bind _ = _
  rw [h]
  rfl
theorem ev_orT {t u : ST} {ρ : Env} (h : t ρ = some true) : tOr t u ρ = some true := by
  show (t ρ).bind _ = _
  rw [h]
  rfl
theorem ev_orF {t u : ST} {ρ : Env} {r : Option Bool} (h : t ρ = some false) (k : u ρ = r) : tOr t u ρ = r := by
  show (t ρ).bind _ = _
  rw [h]
  exact k
theorem ev_tup {es : SA} {ρ : Env} {ds : List D} (h : es ρ = some ds) (hl : ds.length ≤ 1000) : eTup es ρ = some (.tup ds) := by
  show (es ρ).bind _ = _
  rw [h]
  show (if ds.length ≤ big then _ else none) = _
  rw [if_pos (big_of hl)]
theorem ev_a3 {e1 e2 e3 : SE} {ρ : Env} {a b c : D} (h1 : e1 ρ = some a) (h2 : e2 ρ = some b) (h3 : e3 ρ = some c) : aCons e1 (aCons e2 (aCons e3 aNil)) ρ = some [a, b, c] := by
  show (e1 ρ).bind _ = _
  rw [h1]
  show ((e2 ρ).bind _).map _ = _
  rw [h2]
  show (((e3 ρ).bind _).map _).map _ = _
  rw [h3]
  rfl
theorem ev_a2 {e1 e2 : SE} {ρ : Env} {a b : D} (h1 : e1 ρ = some a) (h2 : e2 ρ = some b) : aCons e1 (aCons e2 aNil) ρ = some [a, b] := by
  show (e1 ρ).bind _ = _
  rw [h1]
  show ((e2 ρ).bind _).map _ = _
  rw [h2]
  rfl
theorem ev_blt2 {f : Blt} {e1 e2 : SE} {ρ : Env} {a b : D} {r : Option D} (h1 : e1 ρ = some a) (h2 : e2 ρ = some b) (k : bltD f [a, b] = r) : eBlt f (aCons e1 (aCons e2 aNil)) ρ = r := by
  show (aCons e1 (aCons e2 aNil) ρ).bind _ = _
  rw [ev_a2 h1 h2]
  exact k
theorem ev_app {i : Nat} {e : SE} {ρ : Env} {d : D} {ds : List D} (h : e ρ = some d) (h2 : ρ[i]? = some (.own ds)) (hl : ds.length ≤ 1000) : sApp i e ρ = some (.nx (ρ.set i (.own (ds ++ [d])))) := by
  show (e ρ).bind _ = _
  rw [h]
  show (match ρ[i]? with
    | some (.own ds) => if ds.length < big then some (Out.nx (ρ.set i (.own (ds ++ [d])))) else none
    | _ => none) = _
  rw [h2]
  show (if ds.length < big then some (Out.nx (ρ.set i (.own (ds ++ [d])))) else none) = _
  rw [if_pos (Nat.lt_of_le_of_lt hl (by decide))]
/-! who is on call is of the people -/
theorem onL_mem {wk t : Int} {l : Lay} {p : Str} (h : onL wk l t = some p) : p ∈ l.ms := by
  unfold onL at h
  split at h
  · cases h
  · split at h
    · cases h
    · exact List.mem_of_getElem? h
theorem onC_mem {wk t : Int} {s : Sch} {p : Str} {ns : List Str} (hl : ∀ l ∈ s.ls, ∀ m ∈ l.ms, m ∈ ns) (hs : ∀ x ∈ s.ss, x.2.2 ∈ ns) (h : onC wk s t = some p) : p ∈ ns := by
  unfold onC at h
  split at h
  · rename_i q e
    cases h
    obtain ⟨x, hx, e2⟩ := List.exists_of_findSome?_eq_some e
    split at e2
    · cases e2
      exact hs x (List.mem_reverse.mp hx)
    · cases e2
  · obtain ⟨l, hl2, e2⟩ := List.exists_of_findSome?_eq_some h
    exact hl l (List.mem_reverse.mp hl2) p (onL_mem e2)
/-- one level: what the program asks of it -/
theorem lev_eq (B : WorB w) {l : Str × Int} {t : Int} (hl : l.1 ∈ w.sc.map (·.nm)) : s_on_call [.int w.wk, eSch (schOf w l.1), .int (t + l.2)] = some (eO (onC w.wk (schOf w l.1) (t + l.2))) ∧
    s__law_on [.int w.wk, eSch (schOf w l.1), .int (t + l.2)] = some (eO (onC w.wk (schOf w l.1) (t + l.2))) ∧ ∀ p, onC w.wk (schOf w l.1) (t + l.2) = some p → p ∈ w.pe.map (·.1) := by
  have hm := (sch_eq hl).1
  have hw : 0 < w.wk := by have := B.wk.w0; omega
  exact ⟨on_call_eq hw (B.sb _ hm), law_on_eq hw (B.sb _ hm), fun p hp => onC_mem (B.pl _ hm).1 (B.pl _ hm).2 hp⟩
def planL (w : Wor) (lv : List (Str × Int)) (t : Int) : List (Int × Str × Bool) := lv.filterMap fun l => (onC w.wk (schOf w l.1) (t + l.2)).map fun p => (t + l.2, p, sureB w p)
def eRow (r : Int × Str × Bool) : D := .tup [.int r.1, .str r.2.1, .bl r.2.2]
theorem planL_len (w : Wor) (lv : List (Str × Int)) (t : Int) : (planL w lv t).length ≤ lv.length := List.length_filterMap_le _ _
theorem plan_eq (B : WorB w) {po : Str} {t : Int} (hp : po ∈ w.po.map (·.nm)) : s_plan [eWor w, .str po, .int t] = some (.lst ((planL w (polLv w po) t).map eRow)) := by
  obtain ⟨x, hx, e1, e2, _⟩ := pol_eq hp
  obtain ⟨b1, b2, b3⟩ := B.pb x hx
  obtain ⟨ρ1, k1, a4, a5, a6, h1⟩ := for_inv (f := forTurn (gTup [4, 5]) (sSeq (sAsg (gName 6) (eCall s_on_call (aCons (eFld (eVar 0) "week") (aCons (eCall s_schedule_of (aCons (eVar 0) (aCons (eVar 4) aNil))) (aCons (eBin .add (eVar 2) (eVar 5)) aNil)))))
    (sIf (tCmp .isNot (eVar 6) (eCon .non))
      (sApp 3 (eTup (aCons (eBin .add (eVar 2) (eVar 5)) (aCons (eVar 6) (aCons (eCall s_is_sure (aCons (eVar 0) (aCons (eVar 6) aNil))) aNil)))))
      sNext))) (enc := eLev)
    (fun pre ρ => ∃ a4 a5 a6, ρ = [.val (eWor w), .val (.str po), .val (.int t), .own ((planL w pre t).map eRow), a4, a5, a6]) x.lv [.val (eWor w), .val (.str po), .val (.int t), .own [], .no, .no, .no] (by
      rintro pre l post ρ e ⟨a4, a5, a6, rfl⟩
      have hl := (b3 l (by rw [e]; simp)).1
      obtain ⟨c1, _, c3⟩ := lev_eq (t := t) B hl
      have hlen : (planL w pre t).length ≤ 1000 := by
        have h0 := planL_len w pre t
        have h2 := congrArg List.length e
        simp at h2
        omega
      have hA : planL w (pre ++ [l]) t = planL w pre t ++ (match onC w.wk (schOf w l.1) (t + l.2) with
        | some p => [(t + l.2, p, sureB w p)]
        | none => []) := by
        unfold planL
        rw [List.filterMap_append]
        congr 1
        rw [List.filterMap_cons, List.filterMap_nil]
        cases onC w.wk (schOf w l.1) (t + l.2) <;> rfl
      have first : sAsg (gName 6) (eCall s_on_call (aCons (eFld (eVar 0) "week") (aCons (eCall s_schedule_of (aCons (eVar 0) (aCons (eVar 4) aNil))) (aCons (eBin .add (eVar 2) (eVar 5)) aNil)))) [.val (eWor w), .val (.str po), .val (.int t), .own ((planL w pre t).map eRow), .val (.str l.1), .val (.int l.2), a6] =
          some (.nx [.val (eWor w), .val (.str po), .val (.int t), .own ((planL w pre t).map eRow), .val (.str l.1), .val (.int l.2), .val (eO (onC w.wk (schOf w l.1) (t + l.2)))]) :=
        ev_asg (ev_call3 (a := .int w.wk) (b := eSch (schOf w l.1)) (c := .int (t + l.2)) (f_week w) (ev_call2 (a := eWor w) (b := .str l.1) rfl rfl (sch_eq hl).2.1) (ev_add rfl rfl) c1)
      show ∃ ρ', (sSeq _ _) [.val (eWor w), .val (.str po), .val (.int t), .own ((planL w pre t).map eRow), .val (.str l.1), .val (.int l.2), a6] = _ ∧ _
      rw [hA]
      cases ec : onC w.wk (schOf w l.1) (t + l.2) with
      | none =>
        rw [ec] at first
        exact ⟨_, ev_seq first (ev_ifF (ev_cmp (a := .non) (b := .non) rfl rfl rfl) rfl), _, _, _, by rw [List.append_nil]⟩
      | some p =>
        rw [ec] at first
        refine ⟨_, ev_seq first (ev_ifT (ev_cmp (a := .str p) (b := .non) rfl rfl rfl) (ev_app (ds := (planL w pre t).map eRow) (ev_tup (ev_a3 (a := .int (t + l.2)) (b := .str p) (c := .bl (sureB w p)) (ev_add rfl rfl) rfl (ev_call2 (a := eWor w) (b := .str p) rfl rfl (sure_eq (c3 p ec)))) (by simp)) rfl (by rw [List.length_map]; exact hlen))), _, _, _, by rw [List.map_append]; rfl⟩) ⟨_, _, _, rfl⟩
  rw [e1]
  refine run_rt rfl (ev_seq (ρ1 := [.val (eWor w), .val (.str po), .val (.int t), .own [], .no, .no, .no]) rfl (ev_seq (ev_for (ds := x.lv.map eLev) (ev_seqI (ev_ix (ev_call2 (a := eWor w) (b := .str po) rfl rfl e2) rfl (r := some (.tup (x.lv.map eLev))) rfl) rfl) k1) ?_))
  rw [h1]
  rfl
theorem plan_sure (lv : List (Str × Int)) (t : Int) : (planL w lv t).filterMap (fun r => if r.2.2 = true then some (r.1 - t) else none) = (lv.filter (lvSure w t)).map (·.2) := by
  induction lv with
  | nil => rfl
  | cons l lv ih =>
    unfold planL at ih ⊢
    rw [List.filterMap_cons, List.filter_cons]
    unfold lvSure at ih ⊢
    cases ec : onC w.wk (schOf w l.1) (t + l.2) with
    | none => simpa using ih
    | some p =>
      cases es : sureB w p with
      | true =>
        simp only [Option.map_some, List.filterMap_cons, es, if_true, List.map_cons]
        rw [ih]
        congr 1
        omega
      | false => simpa [es] using ih
theorem delay_eq (B : WorB w) {po : Str} {t : Int} (hp : po ∈ w.po.map (·.nm)) : s_delay [eWor w, .str po, .int t] = some (eI (delayO w (polLv w po) t)) := by
  obtain ⟨x, hx, e1, _⟩ := pol_eq hp
  obtain ⟨b1, b2, b3⟩ := B.pb x hx
  have hlen : (planL w (polLv w po) t).length ≤ 1000 := by
    have := planL_len w (polLv w po) t
    rw [e1] at this ⊢
    omega
  have hc : eComp [4, 5, 6] (gTup [4, 5, 6]) (iSeq (eCall s_plan (aCons (eVar 0) (aCons (eVar 1) (aCons (eVar 2) aNil))))) (tVal (eVar 6)) (eBin .sub (eVar 4) (eVar 2)) (entry 7 [eWor w, .str po, .int t]) =
      some (.lst ((planL w (polLv w po) t).filterMap fun r => if r.2.2 = true then some (.int (r.1 - t)) else none)) := by
    refine comp_fm (xs := planL w (polLv w po) t) (enc := eRow) _ (ev_seqI (ev_call3 (a := eWor w) (b := .str po) (c := .int t) rfl rfl rfl (plan_eq B hp)) rfl) (big_of hlen) fun r hr => ?_
    obtain ⟨r1, r2, r3⟩ := r
    cases r3 <;> rfl
  have h2 : (planL w (polLv w po) t).filterMap (fun r => if r.2.2 = true then some (D.int (r.1 - t)) else none) = ((polLv w po).filter (lvSure w t)).map fun l => D.int l.2 := by
    have h3 : ((polLv w po).filter (lvSure w t)).map (fun l => D.int l.2) = (((polLv w po).filter (lvSure w t)).map (·.2)).map D.int := by
      rw [List.map_map]
      rfl
    rw [h3, ← plan_sure, List.map_filterMap]
    congr 1
    funext r
    cases r.2.2 <;> rfl
  rw [h2] at hc
  unfold delayO
  refine run_rt rfl (ev_seq (ev_asg hc) ?_)
  cases ef : (polLv w po).filter (lvSure w t) with
  | nil => rfl
  | cons l r =>
    refine ev_seq (ev_ifF (ev_not (b := true) (ev_val rfl rfl)) rfl) (ev_ret (ev_blt1 (d := .lst ((l :: r).map fun l => .int l.2)) rfl ?_))
    show (match intsOf ((l :: r).map fun l => D.int l.2) with
      | some (x :: r) => some (D.int (minI x r))
      | _ => none) = _
    rw [intsOf_map]
    rfl
theorem minI_mem : ∀ (x : Int) (r : List Int), minI x r ∈ x :: r
  | x, [] => by simp [minI]
  | x, y :: r => by
    have := minI_mem (if y < x then y else x) r
    show minI (if y < x then y else x) r ∈ _
    rcases List.mem_cons.mp this with h | h
    · rw [h]
      split <;> simp
    · exact List.mem_cons_of_mem _ (List.mem_cons_of_mem _ h)
theorem delay_some {lv : List (Str × Int)} {t d : Int} (h : delayO w lv t = some d) : ∃ l ∈ lv, lvSure w t l = true ∧ l.2 = d := by
  unfold delayO at h
  cases e : (lv.filter (lvSure w t)).map (·.2) with
  | nil =>
    rw [e] at h
    cases h
  | cons x r =>
    rw [e] at h
    have hd : minI x r = d := Option.some.inj h
    have hm := minI_mem x r
    rw [← e, hd] at hm
    obtain ⟨l, hl, e2⟩ := List.mem_map.mp hm
    obtain ⟨h1, h2⟩ := List.mem_filter.mp hl
    exact ⟨l, h1, h2, e2⟩
theorem delay_none {lv : List (Str × Int)} {t : Int} (h : delayO w lv t = none) : ∀ l ∈ lv, lvSure w t l = false := by
  unfold delayO at h
  cases e : (lv.filter (lvSure w t)).map (·.2) with
  | nil =>
    intro l hl
    cases q : lvSure w t l with
    | false => rfl
    | true =>
      have : l.2 ∈ (lv.filter (lvSure w t)).map (·.2) := List.mem_map_of_mem (List.mem_filter.mpr ⟨hl, q⟩)
      rw [e] at this
      cases this
  | cons x r =>
    rw [e] at h
    cases h
end
end WF
end
/-! text M8 -/
section
set_option Elab.async false
set_option linter.all false
set_option maxHeartbeats 1000000
/-! forcing: slack, is_forced, can_fail, can_begin, can_precede, can_follow. -/
namespace WF
open PySem
/-- a time that fits -/
def Fit (i : Int) : Prop := -100000 ≤ i ∧ i ≤ 100000
theorem rng2_eq {i j : Int} (hi : -1000000 ≤ i ∧ i ≤ 1000000) (hj : -1000000 ≤ j ∧ j ≤ 1000000) : rng2 [.int i, .int j] = some ((List.range (j - i).toNat).map fun k : Nat => D.int (i + (k : Int))) := by
  show (if (small62 i && small62 j) = true then some (upTo i (j - i).toNat) else none) = _
  rw [small62_of hi.1 hi.2, small62_of hj.1 hj.2]
  rfl
theorem ev_rng2 {e1 e2 : SE} {ρ : Env} {i j : Int} (h1 : e1 ρ = some (.int i)) (h2 : e2 ρ = some (.int j)) (hi : -1000000 ≤ i ∧ i ≤ 1000000) (hj : -1000000 ≤ j ∧ j ≤ 1000000) :
    iRng rng2 (aCons e1 (aCons e2 aNil)) ρ = some ((List.range (j - i).toNat).map fun k : Nat => D.int (i + (k : Int))) := by
  show (aCons e1 (aCons e2 aNil) ρ).bind _ = _
  rw [ev_a2 h1 h2]
  exact rng2_eq hi hj
theorem ev_call4 {f : List D → Option D} {e1 e2 e3 e4 : SE} {ρ : Env} {a b c d : D} {r : Option D} (h1 : e1 ρ = some a) (h2 : e2 ρ = some b) (h3 : e3 ρ = some c) (h4 : e4 ρ = some d) (k : f [a, b, c, d] = r) : eCall f (aCons e1 (aCons e2 (aCons e3 (aCons e4 aNil)))) ρ = r := by
  show ((e1 ρ).bind fun x => (aCons e2 (aCons e3 (aCons e4 aNil)) ρ).map (x :: ·)).bind f = r
  rw [h1, ev_a3 h2 h3 h4]
  exact k
theorem ev_call5 {f : List D → Option D} {e1 e2 e3 e4 e5 : SE} {ρ : Env} {a b c d e : D} {r : Option D} (h1 : e1 ρ = some a) (h2 : e2 ρ = some b) (h3 : e3 ρ = some c) (h4 : e4 ρ = some d) (h5 : e5 ρ = some e) (k : f [a, b, c, d, e] = r) : eCall f (aCons e1 (aCons e2 (aCons e3 (aCons e4 (aCons e5 aNil))))) ρ = r := by
  show ((e1 ρ).bind fun x => ((e2 ρ).bind fun y => (aCons e3 (aCons e4 (aCons e5 aNil)) ρ).map (y :: ·)).map (x :: ·)).bind f = r
  rw [h1, h2, ev_a3 h3 h4 h5]
  exact k
section
variable {w : Wor}
def slk (w : Wor) : Int := (w.re - 1) * w.pz
theorem slk_b (B : WorB w) : 0 ≤ slk w ∧ slk w ≤ 6 := by
  have h1 := B.re0
  have h2 := B.re1
  have h3 := B.pz0
  have h4 := B.pz1
  unfold slk
  have a : w.re - 1 = 0 ∨ w.re - 1 = 1 ∨ w.re - 1 = 2 := by omega
  rcases a with a | a | a <;> rw [a] <;> omega
theorem slack_eq (B : WorB w) : s_slack [eWor w] = some (.int (slk w)) := by
  refine run_rt rfl (ev_ret ?_)
  have h : eBin .sub (eFld (eVar 0) "replicas") (eCon (.int 1)) (entry 1 [eWor w]) = some (.int (w.re - 1)) := ev_sub (f_rep w) rfl
  have h2 : eFld (eVar 0) "pause" (entry 1 [eWor w]) = some (.int w.pz) := f_pau w
  show (eBin .sub (eFld (eVar 0) "replicas") (eCon (.int 1)) (entry 1 [eWor w])).bind (fun x => (eFld (eVar 0) "pause" (entry 1 [eWor w])).bind fun y => binD .mul x y) = _
  rw [h, h2]
  show (if (small64 (w.re - 1) || small64 w.pz) = true then some (D.int ((w.re - 1) * w.pz)) else none) = _
  rw [small64_of (show -1000000 ≤ w.re - 1 by have := B.re0; omega) (show w.re - 1 ≤ 1000000 by have := B.re1; omega)]
  rfl
def forcedB (w : Wor) (mu : List Str) (due first last : Int) : Bool := (List.range (last - mx first (due + slk w)).toNat).any fun k => !mutedB w mu (mx first (due + slk w) + (k : Int))
theorem forced_true {mu : List Str} {due first last : Int} : forcedB w mu due first last = true ↔ ∃ u, mx first (due + slk w) ≤ u ∧ u < last ∧ mutedB w mu u = false := by
  unfold forcedB
  rw [List.any_eq_true]
  constructor
  · rintro ⟨k, hk, h⟩
    have := List.mem_range.mp hk
    exact ⟨mx first (due + slk w) + (k : Int), by omega, by omega, by simpa using h⟩
  · rintro ⟨u, h1, h2, h3⟩
    refine ⟨(u - mx first (due + slk w)).toNat, List.mem_range.mpr (by omega), ?_⟩
    rw [show mx first (due + slk w) + ((u - mx first (due + slk w)).toNat : Int) = u by omega, h3]
    rfl
theorem findSome_any {α : Type} {d : D} (p : α → Bool) : ∀ xs : List α, xs.findSome? (fun x => if p x = true then some d else none) = if xs.any p = true then some d else none
  | [] => rfl
  | x :: xs => by
    rw [List.findSome?_cons, List.any_cons]
    cases p x with
    | true => rfl
    | false => exact findSome_any p xs
theorem forced_eq (B : WorB w) {s : Stg} (S : StgB w s) {due first last : Int} (hd : Fit due) (hf : Fit first) (hl : Fit last) : s_is_forced [eWor w, eStg s, .int due, .int first, .int last] = some (.bl (forcedB w s.mu due first last)) := by
  have sb := slk_b B
  obtain ⟨d1, d2⟩ := hd
  obtain ⟨f1, f2⟩ := hf
  obtain ⟨l1, l2⟩ := hl
  have A := for_find (f := forTurn (gName 5) (sIf (tNot (tVal (eCall s_is_muted (aCons (eVar 0) (aCons (eIx (bVar 1) (eCon (.int 4))) (aCons (eVar 5) aNil)))))) (sRet (eCon (.bl true))) sNext)) (enc := fun k : Nat => D.int (mx first (due + slk w) + (k : Int)))
    (fun ρ => ∃ a, ρ = [.val (eWor w), .val (eStg s), .val (.int due), .val (.int first), .val (.int last), a]) (fun k => if (!mutedB w s.mu (mx first (due + slk w) + (k : Int))) = true then some (.bl true) else none) (List.range (last - mx first (due + slk w)).toNat)
    [.val (eWor w), .val (eStg s), .val (.int due), .val (.int first), .val (.int last), .no] (by
      rintro k hk ρ ⟨a, rfl⟩
      have hm := muted_eq (t := mx first (due + slk w) + (k : Int)) B S.mu S.ml
      have ht : tNot (tVal (eCall s_is_muted (aCons (eVar 0) (aCons (eIx (bVar 1) (eCon (.int 4))) (aCons (eVar 5) aNil))))) [.val (eWor w), .val (eStg s), .val (.int due), .val (.int first), .val (.int last), .val (.int (mx first (due + slk w) + (k : Int)))] = some (!mutedB w s.mu (mx first (due + slk w) + (k : Int))) :=
        ev_not (ev_val (ev_call3 (a := eWor w) (b := .tup (s.mu.map .str)) (c := .int (mx first (due + slk w) + (k : Int))) rfl rfl rfl hm) rfl)
      cases e : mutedB w s.mu (mx first (due + slk w) + (k : Int)) with
      | true =>
        rw [e] at ht
        exact ⟨fun d q => (by cases q), fun _ => ⟨_, ev_ifF ht rfl, _, rfl⟩⟩
      | false =>
        rw [e] at ht
        exact ⟨fun d q => (by cases q; exact ev_ifT ht rfl), fun q => (by cases q)⟩) ⟨_, rfl⟩
  rw [findSome_any] at A
  have hit : iRng rng2 (aCons (eBlt .max (aCons (eVar 3) (aCons (eBin .add (eVar 2) (eCall s_slack (aCons (eVar 0) aNil))) aNil))) (aCons (eVar 4) aNil)) (entry 6 [eWor w, eStg s, .int due, .int first, .int last]) =
      some ((List.range (last - mx first (due + slk w)).toNat).map fun k : Nat => D.int (mx first (due + slk w) + (k : Int))) := by
    refine ev_rng2 (ev_blt2 (a := .int first) (b := .int (due + slk w)) rfl (ev_add rfl (ev_call1 (d := eWor w) rfl (slack_eq B))) rfl) rfl ?_ (by omega)
    have m1 := mx_l first (due + slk w)
    have m2 : mx first (due + slk w) ≤ 200000 := mx_le (by omega) (by omega)
    omega
  cases e : forcedB w s.mu due first last with
  | true =>
    have e2 : (List.range (last - mx first (due + slk w)).toNat).any (fun k => !mutedB w s.mu (mx first (due + slk w) + (k : Int))) = true := e
    rw [e2] at A
    exact run_rt rfl (ev_seqR (ev_for hit (A.1 _ rfl)))
  | false =>
    have e2 : (List.range (last - mx first (due + slk w)).toNat).any (fun k => !mutedB w s.mu (mx first (due + slk w) + (k : Int))) = false := e
    rw [e2] at A
    obtain ⟨ρ', h1, _⟩ := A.2 rfl
    exact run_rt rfl (ev_seq (ev_for hit h1) rfl)
def failB (w : Wor) (po : Str) (e t : Int) : Bool := !(polLv w po).any fun l => decide (t + l.2 ≤ e) && lvSure w t l
theorem fail_eq (B : WorB w) {s : Stg} (S : StgB w s) {e t : Int} : s_can_fail [eWor w, eStg s, .int e, .int t] = some (.bl (failB w s.po e t)) := by
  obtain ⟨x, hx, e1, e2, _⟩ := pol_eq S.po
  obtain ⟨b1, b2, b3⟩ := B.pb x hx
  have A := for_find (f := forTurn (gTup [4, 5]) (sIf (tCmp .le (eBin .add (eVar 3) (eVar 5)) (bVar 2))
      (sSeq (sAsg (gName 6) (eCall s_on_call (aCons (eFld (eVar 0) "week") (aCons (eCall s_schedule_of (aCons (eVar 0) (aCons (eVar 4) aNil))) (aCons (eBin .add (eVar 3) (eVar 5)) aNil)))))
      (sIf (tAnd (tCmp .isNot (eVar 6) (eCon .non)) (tVal (eCall s_is_sure (aCons (eVar 0) (aCons (eVar 6) aNil)))))
        (sRet (eCon (.bl false)))
        sNext))
      sNext)) (enc := eLev) (fun ρ => ∃ a b c, ρ = [.val (eWor w), .val (eStg s), .val (.int e), .val (.int t), a, b, c]) (fun l => if (decide (t + l.2 ≤ e) && lvSure w t l) = true then some (.bl false) else none) x.lv
    [.val (eWor w), .val (eStg s), .val (.int e), .val (.int t), .no, .no, .no] (by
      rintro l hl ρ ⟨a, b, c, rfl⟩
      have hl2 := (b3 l hl).1
      obtain ⟨c1, _, c3⟩ := lev_eq (t := t) B hl2
      have ht : tCmp .le (eBin .add (eVar 3) (eVar 5)) (bVar 2) [.val (eWor w), .val (eStg s), .val (.int e), .val (.int t), .val (.str l.1), .val (.int l.2), c] = some (decide (t + l.2 ≤ e)) := ev_cmp (ev_add rfl rfl) rfl rfl
      have first : sAsg (gName 6) (eCall s_on_call (aCons (eFld (eVar 0) "week") (aCons (eCall s_schedule_of (aCons (eVar 0) (aCons (eVar 4) aNil))) (aCons (eBin .add (eVar 3) (eVar 5)) aNil)))) [.val (eWor w), .val (eStg s), .val (.int e), .val (.int t), .val (.str l.1), .val (.int l.2), c] =
          some (.nx [.val (eWor w), .val (eStg s), .val (.int e), .val (.int t), .val (.str l.1), .val (.int l.2), .val (eO (onC w.wk (schOf w l.1) (t + l.2)))]) :=
        ev_asg (ev_call3 (a := .int w.wk) (b := eSch (schOf w l.1)) (c := .int (t + l.2)) (f_week w) (ev_call2 (a := eWor w) (b := .str l.1) rfl rfl (sch_eq hl2).2.1) (ev_add rfl rfl) c1)
      by_cases c : t + l.2 ≤ e
      · rw [show decide (t + l.2 ≤ e) = true from decide_eq_true c] at ht ⊢
        rw [Bool.true_and]
        unfold lvSure
        cases ec : onC w.wk (schOf w l.1) (t + l.2) with
        | none =>
          rw [ec] at first
          exact ⟨fun d q => (by cases q), fun _ => ⟨_, ev_ifT ht (ev_seq first (ev_ifF (ev_andF (ev_cmp (a := .non) (b := .non) rfl rfl rfl)) rfl)), _, _, _, rfl⟩⟩
        | some p =>
          rw [ec] at first
          have hs := sure_eq (c3 p ec)
          cases es : sureB w p with
          | true =>
            rw [es] at hs
            refine ⟨fun d q => ?_, fun q => ?_⟩
            · have : some (D.bl false) = some d := by simpa [es] using q
              cases this
              exact ev_ifT ht (ev_seq first (ev_ifT (ev_andT (ev_cmp (a := .str p) (b := .non) rfl rfl rfl) (ev_val (ev_call2 (a := eWor w) (b := .str p) rfl rfl hs) rfl)) rfl))
            · simp [es] at q
          | false =>
            rw [es] at hs
            refine ⟨fun d q => ?_, fun q => ⟨_, ev_ifT ht (ev_seq first (ev_ifF (ev_andT (ev_cmp (a := .str p) (b := .non) rfl rfl rfl) (ev_val (ev_call2 (a := eWor w) (b := .str p) rfl rfl hs) rfl)) rfl)), _, _, _, rfl⟩⟩
            simp [es] at q
      · rw [show decide (t + l.2 ≤ e) = false from decide_eq_false c] at ht ⊢
        rw [Bool.false_and]
        exact ⟨fun d q => (by cases q), fun _ => ⟨_, ev_ifF ht rfl, _, _, _, rfl⟩⟩) ⟨_, _, _, rfl⟩
  rw [findSome_any] at A
  have hit : iSeq (eIx (eCall s_policy_of (aCons (eVar 0) (aCons (eIx (bVar 1) (eCon (.int 5))) aNil))) (eCon (.int 1))) (entry 7 [eWor w, eStg s, .int e, .int t]) = some (x.lv.map eLev) :=
    ev_seqI (ev_ix (ev_call2 (a := eWor w) (b := .str s.po) rfl rfl e2) rfl (r := some (.tup (x.lv.map eLev))) rfl) rfl
  unfold failB
  rw [e1]
  cases ea : x.lv.any (fun l => decide (t + l.2 ≤ e) && lvSure w t l) with
  | true =>
    rw [ea] at A
    exact run_rt rfl (ev_seqR (ev_for hit (A.1 _ rfl)))
  | false =>
    rw [ea] at A
    obtain ⟨ρ', h1, _⟩ := A.2 rfl
    exact run_rt rfl (ev_seq (ev_for hit h1) rfl)
def dueI (s : Stg) (start : Int) : Option Int → Int
  | none => start + s.wt
  | some b => b + s.iv
theorem due_eq {s : Stg} {start : Int} {b : Option Int} : s_first_due [eStg s, .int start, eI b] = some (.int (dueI s start b)) := by
  cases b with
  | none => exact run_rt rfl (ev_seqR (ev_ifT (ev_cmp (a := .non) (b := .non) rfl rfl rfl) rfl))
  | some b => exact run_rt rfl (ev_seq (ev_ifF (ev_cmp (a := .int b) (b := .non) rfl rfl rfl) rfl) rfl)
theorem dueI_fit (S : StgB w s) {start : Int} {b : Option Int} (h : -50000 ≤ start ∧ start ≤ 50000) (hb : ∀ x, b = some x → 0 ≤ x ∧ x < start) : Fit (dueI s start b) := by
  have h1 := S.wt0
  have h2 := S.wt1
  have h3 := S.iv0
  have h4 := S.iv1
  cases b with
  | none =>
    unfold dueI Fit
    dsimp only
    omega
  | some x =>
    have := hb x rfl
    unfold dueI Fit
    dsimp only
    omega
/-- can_begin: what its True tells -/
theorem begin_eq (B : WorB w) {s : Stg} (S : StgB w s) {start t : Int} {b : Option Int} (h : -50000 ≤ start ∧ start ≤ 50000) (ht : -50000 ≤ t ∧ t ≤ 50000) (hb : ∀ x, b = some x → 0 ≤ x ∧ x < start) :
    ∃ c, s_can_begin [eWor w, eStg s, .int start, eI b, .int t] = some (.bl c) ∧ (c = true → start ≤ t ∧ mutedB w s.mu t = false ∧ forcedB w s.mu (dueI s start b) start t = false) := by
  have hm := muted_eq (t := t) B S.mu S.ml
  have hF := forced_eq (due := dueI s start b) (first := start) (last := t) B S (dueI_fit S h hb) (by unfold Fit; omega) (by unfold Fit; omega)
  have t2 : tVal (eCall s_is_muted (aCons (eVar 0) (aCons (eIx (bVar 1) (eCon (.int 4))) (aCons (eVar 4) aNil)))) (entry 5 [eWor w, eStg s, .int start, eI b, .int t]) = some (mutedB w s.mu t) :=
    ev_val (ev_call3 (a := eWor w) (b := .tup (s.mu.map .str)) (c := .int t) rfl rfl rfl hm) rfl
  have t1 : tCmp .lt (eVar 4) (bVar 2) (entry 5 [eWor w, eStg s, .int start, eI b, .int t]) = some (decide (t < start)) := ev_cmp rfl rfl rfl
  have t3 : tVal (eCall s_is_forced (aCons (eVar 0) (aCons (eVar 1) (aCons (eCall s_first_due (aCons (eVar 1) (aCons (eVar 2) (aCons (eVar 3) aNil)))) (aCons (eVar 2) (aCons (eVar 4) aNil)))))) (entry 5 [eWor w, eStg s, .int start, eI b, .int t]) = some (forcedB w s.mu (dueI s start b) start t) :=
    ev_val (ev_call5 (a := eWor w) (b := eStg s) (c := .int (dueI s start b)) (d := .int start) (e := .int t) rfl rfl (ev_call3 (a := eStg s) (b := .int start) (c := eI b) rfl rfl rfl due_eq) rfl rfl hF) rfl
  by_cases c1 : t < start
  · rw [decide_eq_true c1] at t1
    exact ⟨false, run_rt rfl (ev_seqR (ev_ifT (ev_orT t1) rfl)), fun q => by cases q⟩
  · rw [decide_eq_false c1] at t1
    cases c2 : mutedB w s.mu t with
    | true =>
      rw [c2] at t2
      exact ⟨false, run_rt rfl (ev_seqR (ev_ifT (ev_orF t1 t2) rfl)), fun q => by cases q⟩
    | false =>
      rw [c2] at t2
      cases c3 : forcedB w s.mu (dueI s start b) start t with
      | true =>
        rw [c3] at t3
        exact ⟨false, run_rt rfl (ev_seq (ev_ifF (ev_orF t1 t2) rfl) (ev_seqR (ev_ifT t3 rfl))), fun q => by cases q⟩
      | false =>
        rw [c3] at t3
        cases b with
        | none => exact ⟨_, run_rt rfl (ev_seq (ev_ifF (ev_orF t1 t2) rfl) (ev_seq (ev_ifF t3 rfl) (ev_seqR (ev_ifT (ev_cmp (a := .non) (b := .non) rfl rfl rfl) rfl)))), fun _ => ⟨by omega, rfl, rfl⟩⟩
        | some b => exact ⟨_, run_rt rfl (ev_seq (ev_ifF (ev_orF t1 t2) rfl) (ev_seq (ev_ifF t3 rfl) (ev_seq (ev_ifF (ev_cmp (a := .int b) (b := .non) rfl rfl rfl) rfl) rfl))), fun _ => ⟨by omega, rfl, rfl⟩⟩
theorem ev_notE {e : SE} {ρ : Env} {b : Bool} (h : e ρ = some (.bl b)) : eNot e ρ = some (.bl (!b)) := by
  show (e ρ).bind _ = _
  rw [h]
  rfl
theorem precede_eq (B : WorB w) {s : Stg} (S : StgB w s) {start t : Int} (h : -50000 ≤ start ∧ start ≤ 50000) (ht : -50000 ≤ t ∧ t ≤ 50000) : ∃ c, s_can_precede [eWor w, eStg s, .int start, .int t] = some (.bl c) := by
  have g1 := S.ag0
  have g2 := S.ag1
  have g3 := S.iv0
  have hm := muted_eq (t := t) B S.mu S.ml
  have hF := forced_eq (due := t + s.ag) (first := t + 1) (last := start) B S (by unfold Fit; omega) (by unfold Fit; omega) (by unfold Fit; omega)
  have t1 : tCmp .ge (eVar 3) (bVar 2) (entry 4 [eWor w, eStg s, .int start, .int t]) = some (decide (start ≤ t)) := ev_cmp rfl rfl rfl
  have t2 : tCmp .lt (eVar 3) (eIx (bVar 1) (eCon (.int 1))) (entry 4 [eWor w, eStg s, .int start, .int t]) = some (decide (t < s.wt)) := ev_cmp rfl rfl rfl
  have t3 : tVal (eCall s_is_muted (aCons (eVar 0) (aCons (eIx (bVar 1) (eCon (.int 4))) (aCons (eVar 3) aNil)))) (entry 4 [eWor w, eStg s, .int start, .int t]) = some (mutedB w s.mu t) :=
    ev_val (ev_call3 (a := eWor w) (b := .tup (s.mu.map .str)) (c := .int t) rfl rfl rfl hm) rfl
  have tail : (sRet (eNot (eCall s_is_forced (aCons (eVar 0) (aCons (eVar 1) (aCons (eBin .add (eVar 3) (eIx (bVar 1) (eCon (.int 3)))) (aCons (eBin .add (eVar 3) (eCon (.int 1))) (aCons (eVar 2) aNil)))))))) (entry 4 [eWor w, eStg s, .int start, .int t]) = some (.rt (.bl (!forcedB w s.mu (t + s.ag) (t + 1) start))) :=
    ev_ret (ev_notE (ev_call5 (a := eWor w) (b := eStg s) (c := .int (t + s.ag)) (d := .int (t + 1)) (e := .int start) rfl rfl (ev_add rfl rfl) (ev_add rfl rfl) rfl hF))
  cases c1 : decide (start ≤ t) with
  | true =>
    rw [c1] at t1
    exact ⟨false, run_rt rfl (ev_seqR (ev_ifT (ev_orT t1) rfl))⟩
  | false =>
    rw [c1] at t1
    cases c2 : decide (t < s.wt) with
    | true =>
      rw [c2] at t2
      exact ⟨false, run_rt rfl (ev_seqR (ev_ifT (ev_orF t1 (ev_orT t2)) rfl))⟩
    | false =>
      rw [c2] at t2
      cases c3 : mutedB w s.mu t with
      | true =>
        rw [c3] at t3
        exact ⟨false, run_rt rfl (ev_seqR (ev_ifT (ev_orF t1 (ev_orF t2 t3)) rfl))⟩
      | false =>
        rw [c3] at t3
        exact ⟨_, run_rt rfl (ev_seq (ev_ifF (ev_orF t1 (ev_orF t2 t3)) rfl) tail)⟩
theorem follow_eq (B : WorB w) {s : Stg} (S : StgB w s) {t u : Int} (h : -50000 ≤ t ∧ t ≤ 50000) (ht : -60000 ≤ u ∧ u ≤ 60000) : ∃ c, s_can_follow [eWor w, eStg s, .int t, .int u] = some (.bl c) := by
  have g1 := S.ag0
  have g2 := S.ag1
  have g3 := S.iv0
  have hm := muted_eq (t := u) B S.mu S.ml
  have hF := forced_eq (due := t + s.ag) (first := t + 1) (last := u) B S (by unfold Fit; omega) (by unfold Fit; omega) (by unfold Fit; omega)
  have t1 : tCmp .lt (eVar 3) (eBin .add (eVar 2) (eIx (bVar 1) (eCon (.int 2)))) (entry 4 [eWor w, eStg s, .int t, .int u]) = some (decide (u < t + s.iv)) := ev_cmp rfl (ev_add rfl rfl) rfl
  have t3 : tVal (eCall s_is_muted (aCons (eVar 0) (aCons (eIx (bVar 1) (eCon (.int 4))) (aCons (eVar 3) aNil)))) (entry 4 [eWor w, eStg s, .int t, .int u]) = some (mutedB w s.mu u) :=
    ev_val (ev_call3 (a := eWor w) (b := .tup (s.mu.map .str)) (c := .int u) rfl rfl rfl hm) rfl
  have tail : (sRet (eNot (eCall s_is_forced (aCons (eVar 0) (aCons (eVar 1) (aCons (eBin .add (eVar 2) (eIx (bVar 1) (eCon (.int 3)))) (aCons (eBin .add (eVar 2) (eCon (.int 1))) (aCons (eVar 3) aNil)))))))) (entry 4 [eWor w, eStg s, .int t, .int u]) = some (.rt (.bl (!forcedB w s.mu (t + s.ag) (t + 1) u))) :=
    ev_ret (ev_notE (ev_call5 (a := eWor w) (b := eStg s) (c := .int (t + s.ag)) (d := .int (t + 1)) (e := .int u) rfl rfl (ev_add rfl rfl) (ev_add rfl rfl) rfl hF))
  cases c1 : decide (u < t + s.iv) with
  | true =>
    rw [c1] at t1
    exact ⟨false, run_rt rfl (ev_seqR (ev_ifT (ev_orT t1) rfl))⟩
  | false =>
    rw [c1] at t1
    cases c3 : mutedB w s.mu u with
    | true =>
      rw [c3] at t3
      exact ⟨false, run_rt rfl (ev_seqR (ev_ifT (ev_orF t1 t3) rfl))⟩
    | false =>
      rw [c3] at t3
      exact ⟨_, run_rt rfl (ev_seq (ev_ifF (ev_orF t1 t3) rfl) tail)⟩
end
end WF
end
/-! text M9 -/
section
set_option Elab.async false
set_option linter.all false
set_option maxHeartbeats 1000000
/-! _from_here, failing, _script, gap. -/
namespace WF
open PySem
section
variable {w : Wor}
def eR (r : Bool × D) : D := .tup [.bl r.1, r.2]
theorem ev_and2 {t u : ST} {ρ : Env} {a b : Bool} (h : t ρ = some a) (k : u ρ = some b) : tAnd t u ρ = some (a && b) := by
  show (t ρ).bind _ = _
  rw [h]
  cases a with
  | true => exact k
  | false => rfl
theorem ev_cat {e1 e2 : SE} {ρ : Env} {xs ys : List D} (h1 : e1 ρ = some (.lst xs)) (h2 : e2 ρ = some (.lst ys)) (hl : xs.length + ys.length ≤ 10000) : eBin .add e1 e2 ρ = some (.lst (xs ++ ys)) := by
  show (e1 ρ).bind _ = _
  rw [h1]
  show (e2 ρ).bind _ = _
  rw [h2]
  show (if xs.length + ys.length ≤ big then some (D.lst (xs ++ ys)) else none) = _
  rw [if_pos (Nat.le_trans hl (by decide))]
theorem enum_eq : ∀ (k : Nat) (rows : List (Bool × D)), enumFrom k (rows.map eR) = (rows.zipIdx k).map fun p => D.tup [.int (p.2 : Nat), eR p.1]
  | _, [] => rfl
  | k, r :: rows => by
    rw [List.map_cons, List.zipIdx_cons, List.map_cons, ← enum_eq (k + 1) rows]
    rfl
theorem from_eq (B : WorB w) {s : Stg} (S : StgB w s) {t e : Int} {rows : List (Bool × D)} (ht : -10000 ≤ t ∧ t ≤ 10000) (he : -10000 ≤ e ∧ e ≤ 10000) (hr : rows.length ≤ 10000) :
    ∃ b x, s__from_here [eWor w, eStg s, .int t, .int e, .lst (rows.map eR)] = some (eR (b, x)) ∧ (b = true → failB w s.po e t = true) := by
  have g1 := S.ag0
  have g2 := S.ag1
  have g3 := S.iv0
  have hF := forced_eq (due := t + s.ag) (first := t + 1) (last := e + 1) B S (by unfold Fit; omega) (by unfold Fit; omega) (by unfold Fit; omega)
  have t1 : tNot (tVal (eCall s_can_fail (aCons (eVar 0) (aCons (eVar 1) (aCons (eVar 3) (aCons (eVar 2) aNil)))))) (entry 7 [eWor w, eStg s, .int t, .int e, .lst (rows.map eR)]) = some (!failB w s.po e t) :=
    ev_not (ev_val (ev_call4 (a := eWor w) (b := eStg s) (c := .int e) (d := .int t) rfl rfl rfl rfl (fail_eq B S)) rfl)
  have t2 : tNot (tVal (eCall s_is_forced (aCons (eVar 0) (aCons (eVar 1) (aCons (eBin .add (eVar 2) (eIx (bVar 1) (eCon (.int 3)))) (aCons (eBin .add (eVar 2) (eCon (.int 1))) (aCons (eBin .add (eVar 3) (eCon (.int 1))) aNil))))))) (entry 7 [eWor w, eStg s, .int t, .int e, .lst (rows.map eR)]) = some (!forcedB w s.mu (t + s.ag) (t + 1) (e + 1)) :=
    ev_not (ev_val (ev_call5 (a := eWor w) (b := eStg s) (c := .int (t + s.ag)) (d := .int (t + 1)) (e := .int (e + 1)) rfl rfl (ev_add rfl rfl) (ev_add rfl rfl) (ev_add rfl rfl) hF) rfl)
  cases c1 : failB w s.po e t with
  | false =>
    rw [c1] at t1
    exact ⟨false, .non, run_rt rfl (ev_seqR (ev_ifT t1 rfl)), fun q => by cases q⟩
  | true =>
    rw [c1] at t1
    cases c2 : forcedB w s.mu (t + s.ag) (t + 1) (e + 1) with
    | false =>
      rw [c2] at t2
      exact ⟨true, .non, run_rt rfl (ev_seq (ev_ifF t1 rfl) (ev_seqR (ev_ifT t2 rfl))), fun _ => rfl⟩
    | true =>
      rw [c2] at t2
      have A := for_gen (f := forTurn (gTup [5, 6]) (sIf (tAnd (tVal (eIx (bVar 6) (eCon (.int 0)))) (tVal (eCall s_can_follow (aCons (eVar 0) (aCons (eVar 1) (aCons (eVar 2) (aCons (eBin .add (eBin .add (eVar 2) (eCon (.int 1))) (eVar 5)) aNil)))))))
          (sRet (eTup (aCons (eCon (.bl true)) (aCons (eBin .add (eBin .add (eVar 2) (eCon (.int 1))) (eVar 5)) aNil)))) sNext)) (enc := fun p : (Bool × D) × Nat => D.tup [.int (p.2 : Nat), eR p.1])
        (fun _ ρ => ∃ a b, ρ = [.val (eWor w), .val (eStg s), .val (.int t), .val (.int e), .val (.lst (rows.map eR)), a, b]) (fun _ d => ∃ x, d = eR (true, x)) (rows.zipIdx 0) [] (entry 7 [eWor w, eStg s, .int t, .int e, .lst (rows.map eR)]) (by
          rintro pre ⟨⟨b, x⟩, i⟩ post ρ he ⟨a1, a2, rfl⟩
          have hi : i < rows.length := by
            have hm : ((b, x), i) ∈ rows.zipIdx 0 := by
              rw [List.nil_append] at he
              rw [he]
              simp
            have := List.mem_zipIdx hm
            omega
          have q1 : tVal (eIx (bVar 6) (eCon (.int 0))) [.val (eWor w), .val (eStg s), .val (.int t), .val (.int e), .val (.lst (rows.map eR)), .val (.int (i : Nat)), .val (eR (b, x))] = some b := ev_val (ev_ix rfl rfl rfl) rfl
          obtain ⟨c, hc⟩ := follow_eq (t := t) (u := t + 1 + (i : Nat)) B S (by omega) (by omega)
          have q2 : tVal (eCall s_can_follow (aCons (eVar 0) (aCons (eVar 1) (aCons (eVar 2) (aCons (eBin .add (eBin .add (eVar 2) (eCon (.int 1))) (eVar 5)) aNil))))) [.val (eWor w), .val (eStg s), .val (.int t), .val (.int e), .val (.lst (rows.map eR)), .val (.int (i : Nat)), .val (eR (b, x))] = some c :=
            ev_val (ev_call4 (a := eWor w) (b := eStg s) (c := .int t) (d := .int (t + 1 + (i : Nat))) rfl rfl rfl (ev_add (ev_add rfl rfl) rfl) hc) rfl
          have q3 := ev_and2 q1 q2
          show (∃ ρ', sIf _ _ _ [.val (eWor w), .val (eStg s), .val (.int t), .val (.int e), .val (.lst (rows.map eR)), .val (.int (i : Nat)), .val (eR (b, x))] = some (.nx ρ') ∧ _) ∨ ∃ d, sIf _ _ _ [.val (eWor w), .val (eStg s), .val (.int t), .val (.int e), .val (.lst (rows.map eR)), .val (.int (i : Nat)), .val (eR (b, x))] = some (.rt d) ∧ _
          cases b with
          | false => exact .inl ⟨_, ev_ifF q3 rfl, _, _, rfl⟩
          | true =>
            cases c with
            | false => exact .inl ⟨_, ev_ifF q3 rfl, _, _, rfl⟩
            | true => exact .inr ⟨_, ev_ifT (ev_andT q1 q2) (ev_ret (ev_tup (ev_a2 (a := .bl true) (b := .int (t + 1 + (i : Nat))) rfl (ev_add (ev_add rfl rfl) rfl)) (by simp))), _, rfl⟩) ⟨_, _, rfl⟩
      have hit : iEnum (eVar 4) (entry 7 [eWor w, eStg s, .int t, .int e, .lst (rows.map eR)]) = some ((rows.zipIdx 0).map fun p => D.tup [.int (p.2 : Nat), eR p.1]) := by
        rw [← enum_eq]
        rfl
      rcases A with ⟨ρ', h1, _⟩ | ⟨d, pre, post, h1, ⟨x, rfl⟩, _⟩
      · exact ⟨false, .non, run_rt rfl (ev_seq (ev_ifF t1 rfl) (ev_seq (ev_ifF t2 rfl) (ev_seq (ev_for hit h1) rfl))), fun q => by cases q⟩
      · exact ⟨true, x, run_rt rfl (ev_seq (ev_ifF t1 rfl) (ev_seq (ev_ifF t2 rfl) (ev_seqR (ev_for hit h1)))), fun _ => rfl⟩
theorem ev_rng3 {e1 e2 e3 : SE} {ρ : Env} {i j : Int} (h1 : e1 ρ = some (.int i)) (h2 : e2 ρ = some (.int j)) (h3 : e3 ρ = some (.int (-1))) (hi : -1000000 ≤ i ∧ i ≤ 1000000) (hj : -1000000 ≤ j ∧ j ≤ 1000000) :
    iRng rng3 (aCons e1 (aCons e2 (aCons e3 aNil))) ρ = some ((List.range (i - j).toNat).map fun k : Nat => D.int (i - (k : Int))) := by
  show (aCons e1 (aCons e2 (aCons e3 aNil)) ρ).bind _ = _
  rw [ev_a3 h1 h2 h3]
  show (if (small62 i && small62 j) = true then (if (-1 : Int) = -1 then some (byStep i (-1) (i - j).toNat) else if (-1 : Int) = 2 ∧ i = 0 ∧ j = 5 then some (byStep 0 2 3) else none) else none) = _
  rw [small62_of hi.1 hi.2, small62_of hj.1 hj.2]
  show some (byStep i (-1) (i - j).toNat) = _
  unfold byStep
  congr 1
  apply List.map_congr_left
  intro k _
  congr 1
  omega
def RowsOk (w : Wor) (po : Str) (first e : Int) (rows : List (Bool × D)) : Prop := ∀ (i : Nat) (r : Bool × D), rows[i]? = some r → r.1 = true → failB w po e (first + i) = true
theorem failing_eq (B : WorB w) {s : Stg} (S : StgB w s) {first e : Int} (hf : 0 ≤ first) (hfe : first ≤ e) (he : e ≤ 1000) :
    ∃ rows : List (Bool × D), s_failing [eWor w, eStg s, .int first, .int e] = some (.lst (rows.map eR)) ∧ rows.length = (e - first + 1).toNat ∧ RowsOk w s.po first e rows := by
  obtain ⟨ρ1, k1, a, rows, h1, h2, h3⟩ := for_inv (f := forTurn (gName 5) (sAsg (gName 4) (eBin .add (eLst (aCons (eCall s__from_here (aCons (eVar 0) (aCons (eVar 1) (aCons (eVar 5) (aCons (eVar 3) (aCons (eVar 4) aNil)))))) aNil)) (eVar 4)))) (enc := fun k : Nat => D.int (e - (k : Int)))
    (fun pre ρ => ∃ a rows, ρ = [.val (eWor w), .val (eStg s), .val (.int first), .val (.int e), .val (.lst (rows.map eR)), a] ∧ rows.length = pre.length ∧ RowsOk w s.po (e + 1 - pre.length) e rows) (List.range (e - (first - 1)).toNat)
    [.val (eWor w), .val (eStg s), .val (.int first), .val (.int e), .val (.lst []), .no] (by
      rintro pre k post ρ hk ⟨a, rows, rfl, hl, hr⟩
      obtain ⟨hx, hlt⟩ := range_pre hk
      subst hx
      obtain ⟨b, x, hb, hb2⟩ := from_eq (t := e - (pre.length : Int)) (e := e) (rows := rows) B S (by omega) (by omega) (by omega)
      have hlst : eLst (aCons (eCall s__from_here (aCons (eVar 0) (aCons (eVar 1) (aCons (eVar 5) (aCons (eVar 3) (aCons (eVar 4) aNil)))))) aNil) [.val (eWor w), .val (eStg s), .val (.int first), .val (.int e), .val (.lst (rows.map eR)), .val (.int (e - (pre.length : Int)))] = some (.lst [eR (b, x)]) := by
        show ((eCall s__from_here _ _).bind _).bind _ = _
        rw [ev_call5 (a := eWor w) (b := eStg s) (c := .int (e - (pre.length : Int))) (d := .int e) (e := .lst (rows.map eR)) rfl rfl rfl rfl rfl hb]
        rfl
      refine ⟨[.val (eWor w), .val (eStg s), .val (.int first), .val (.int e), .val (.lst (((b, x) :: rows).map eR)), .val (.int (e - (pre.length : Int)))], ?_, _, (b, x) :: rows, rfl, by simp [hl], fun i r hi hr1 => ?_⟩
      · exact ev_asg (ev_cat hlst rfl (by simp; omega))
      · cases i with
        | zero =>
          cases hi
          have := hb2 hr1
          rw [show e + 1 - ((pre ++ [pre.length]).length : Int) + ((0 : Nat) : Int) = e - (pre.length : Int) by simp; omega]
          exact this
        | succ i =>
          have := hr i r (by simpa using hi) hr1
          rw [show e + 1 - ((pre ++ [pre.length]).length : Int) + ((i + 1 : Nat) : Int) = e + 1 - (pre.length : Int) + (i : Int) by simp; omega]
          exact this) ⟨_, [], rfl, rfl, fun i r hi => by simp at hi⟩
  refine ⟨rows, run_rt rfl (ev_seq (ρ1 := [.val (eWor w), .val (eStg s), .val (.int first), .val (.int e), .val (.lst []), .no]) rfl (ev_seq (ev_for (ev_rng3 (i := e) (j := first - 1) rfl (ev_sub rfl rfl) rfl (by omega) (by omega)) k1) ?_)), ?_, ?_⟩
  · rw [h1]
    rfl
  · rw [h2, List.length_range]
    congr 1
    omega
  · rw [List.length_range] at h3
    rw [show e + 1 - (((e - (first - 1)).toNat : Nat) : Int) = first by omega] at h3
    exact h3
theorem script_eq (B : WorB w) {s : Stg} (S : StgB w s) {start e : Int} {b : Option Int} {rows : List (Bool × D)} (hs : 0 ≤ start) (hse : start ≤ e) (he : e ≤ 1000) (hb : ∀ x, b = some x → 0 ≤ x ∧ x < start) (hl : rows.length = (e - start + 1).toNat) (hr : RowsOk w s.po start e rows)
    (h1 : forcedB w s.mu (dueI s start b) start (e + 1) = true) (h2 : ∀ t, start ≤ t → t ≤ e → mutedB w s.mu t = false → forcedB w s.mu (dueI s start b) start t = false → failB w s.po e t = false) :
    s__script [eWor w, eStg s, .int start, .int e, eI b, .lst (rows.map eR)] = some .non := by
  have hF := forced_eq (due := dueI s start b) (first := start) (last := e + 1) B S (dueI_fit S (by omega) hb) (by unfold Fit; omega) (by unfold Fit; omega)
  have t1 : tNot (tVal (eCall s_is_forced (aCons (eVar 0) (aCons (eVar 1) (aCons (eCall s_first_due (aCons (eVar 1) (aCons (eVar 2) (aCons (eVar 4) aNil)))) (aCons (eVar 2) (aCons (eBin .add (eVar 3) (eCon (.int 1))) aNil))))))) (entry 7 [eWor w, eStg s, .int start, .int e, eI b, .lst (rows.map eR)]) = some false := by
    have := ev_not (ev_val (ev_call5 (f := s_is_forced) (ρ := entry 7 [eWor w, eStg s, .int start, .int e, eI b, .lst (rows.map eR)]) (e1 := eVar 0) (e2 := eVar 1) (e3 := eCall s_first_due (aCons (eVar 1) (aCons (eVar 2) (aCons (eVar 4) aNil)))) (e4 := eVar 2) (e5 := eBin .add (eVar 3) (eCon (.int 1)))
      (a := eWor w) (b := eStg s) (c := .int (dueI s start b)) (d := .int start) (e := .int (e + 1)) rfl rfl (ev_call3 (a := eStg s) (b := .int start) (c := eI b) rfl rfl rfl due_eq) rfl (ev_add rfl rfl) hF) rfl)
    rw [this, h1]
    rfl
  obtain ⟨ρ1, k1, _⟩ := for_inv (f := forTurn (gName 6) (sIf (tAnd (tVal (eIx (eIx (bVar 5) (eBin .sub (eVar 6) (eVar 2))) (eCon (.int 0)))) (tVal (eCall s_can_begin (aCons (eVar 0) (aCons (eVar 1) (aCons (eVar 2) (aCons (eVar 4) (aCons (eVar 6) aNil))))))))
      (sRet (eTup (aCons (eVar 2) (aCons (eVar 4) (aCons (eCall s__pages (aCons (eVar 5) (aCons (eVar 2) (aCons (eVar 6) aNil)))) aNil))))) sNext)) (enc := fun k : Nat => D.int (start + (k : Int)))
    (fun _ ρ => ∃ a, ρ = [.val (eWor w), .val (eStg s), .val (.int start), .val (.int e), .val (eI b), .val (.lst (rows.map eR)), a]) (List.range (e + 1 - start).toNat) (entry 7 [eWor w, eStg s, .int start, .int e, eI b, .lst (rows.map eR)]) (by
      rintro pre k post ρ hk ⟨a, rfl⟩
      obtain ⟨hx, hlt⟩ := range_pre hk
      subst hx
      have hi : pre.length < rows.length := by omega
      have q1 : tVal (eIx (eIx (bVar 5) (eBin .sub (eVar 6) (eVar 2))) (eCon (.int 0))) [.val (eWor w), .val (eStg s), .val (.int start), .val (.int e), .val (eI b), .val (.lst (rows.map eR)), .val (.int (start + (pre.length : Int)))] = some rows[pre.length].1 := by
        refine ev_val (d := .bl rows[pre.length].1) (ev_ix (a := eR rows[pre.length]) (ev_ix rfl (ev_sub rfl rfl) ?_) rfl rfl) rfl
        show atD (rows.map eR) (start + (pre.length : Int) - start) = _
        rw [show start + (pre.length : Int) - start = (pre.length : Int) by omega]
        unfold atD
        rw [if_pos (by omega), Int.toNat_natCast, List.getElem?_map, List.getElem?_eq_getElem hi]
        rfl
      obtain ⟨c, hc, hc2⟩ := begin_eq (start := start) (t := start + (pre.length : Int)) (b := b) B S (by omega) (by omega) hb
      have q2 : tVal (eCall s_can_begin (aCons (eVar 0) (aCons (eVar 1) (aCons (eVar 2) (aCons (eVar 4) (aCons (eVar 6) aNil)))))) [.val (eWor w), .val (eStg s), .val (.int start), .val (.int e), .val (eI b), .val (.lst (rows.map eR)), .val (.int (start + (pre.length : Int)))] = some c :=
        ev_val (ev_call5 (a := eWor w) (b := eStg s) (c := .int start) (d := eI b) (e := .int (start + (pre.length : Int))) rfl rfl rfl rfl rfl hc) rfl
      have q3 := ev_and2 q1 q2
      cases hb1 : rows[pre.length].1 with
      | false =>
        rw [hb1] at q3
        exact ⟨_, ev_ifF q3 rfl, _, rfl⟩
      | true =>
        rw [hb1] at q3
        cases c with
        | false => exact ⟨_, ev_ifF q3 rfl, _, rfl⟩
        | true =>
          exfalso
          obtain ⟨d1, d2, d3⟩ := hc2 rfl
          have f1 := hr pre.length _ (List.getElem?_eq_getElem hi) hb1
          have f2 := h2 (start + (pre.length : Int)) d1 (by omega) d2 d3
          rw [f1] at f2
          cases f2) ⟨_, rfl⟩
  exact run_rt rfl (ev_seq (ev_ifF t1 rfl) (ev_seq (ev_for (ev_rng2 (i := start) (j := e + 1) rfl (ev_add rfl rfl) (by omega) (by omega)) k1) rfl))
theorem while_done {t : ST} {s : SS} {ρ : Env} {n : Nat} (h : t ρ = some false) : whileLoop t s (n + 1) ρ = some (.nx ρ) := by
  show (t ρ).bind _ = _
  rw [h]
  rfl
theorem while_step {t : ST} {s : SS} {ρ ρ' : Env} {n : Nat} {o : Option Out} (h : t ρ = some true) (h2 : s ρ = some (.nx ρ')) (h3 : whileLoop t s n ρ' = o) : whileLoop t s (n + 1) ρ = o := by
  show (t ρ).bind _ = _
  rw [h]
  show (s ρ).bind _ = _
  rw [h2]
  exact h3
theorem gap_eq (B : WorB w) {s : Stg} (S : StgB w s) {lab : D} {i : Int} {r : Rou} {start lim : Int} (he : s_end_of [.lst (w.ro.map eRou), lab] = some (.int i)) (hi : atD w.ro i = some r) (hs : r.se = s) (h0 : 0 ≤ start) (h00 : start ≤ 400) (hl0 : 0 ≤ lim) (hl1 : lim ≤ 100)
    (h1 : ∀ b, (∀ x, b = some x → 0 ≤ x ∧ x < start) → forcedB w s.mu (dueI s start b) start (start + lim + 1) = true)
    (h2 : ∀ b, (∀ x, b = some x → 0 ≤ x ∧ x < start) → ∀ t, start ≤ t → t ≤ start + lim → mutedB w s.mu t = false → forcedB w s.mu (dueI s start b) start t = false → failB w s.po (start + lim) t = false) :
    s_gap [eWor w, lab, .int start, .int lim] = some .non := by
  subst hs
  obtain ⟨rows, k1, k2, k3⟩ := failing_eq (first := start) (e := start + lim) B S h0 (by omega) (by omega)
  have sc := fun b hb => script_eq (start := start) (e := start + lim) (b := b) (rows := rows) B S h0 (by omega) (by omega) hb k2 k3 (h1 b hb) (h2 b hb)
  have s1 : sAsg (gName 4) (eIx (eIx (eFld (eVar 0) "routes") (eCall s_end_of (aCons (eFld (eVar 0) "routes") (aCons (eVar 1) aNil)))) (eCon (.int 2))) (entry 9 [eWor w, lab, .int start, .int lim]) =
      some (.nx [.val (eWor w), .val lab, .val (.int start), .val (.int lim), .val (eStg r.se), .no, .no, .no, .no]) := by
    refine ev_asg (ev_ix (a := eRou r) (ev_ix (a := .lst (w.ro.map eRou)) (f_rou w) (ev_call2 (a := .lst (w.ro.map eRou)) (b := lab) (f_rou w) rfl he) ?_) rfl rfl)
    exact atD_map hi
  have loop : ∀ (n : Nat) (tm : Int), 0 ≤ tm → tm ≤ start → start - tm < n → whileLoop (tAnd (tCmp .is (eVar 7) (eCon .non)) (tCmp .lt (eVar 8) (bVar 2)))
      (sSeq (sIf (tVal (eCall s_can_precede (aCons (eVar 0) (aCons (eVar 4) (aCons (eVar 2) (aCons (eVar 8) aNil))))))
        (sAsg (gName 7) (eCall s__script (aCons (eVar 0) (aCons (eVar 4) (aCons (eVar 2) (aCons (eVar 5) (aCons (eVar 8) (aCons (eVar 6) aNil))))))))
        sNext)
      (sAsg (gName 8) (eBin .add (eVar 8) (eCon (.int 1))))) n [.val (eWor w), .val lab, .val (.int start), .val (.int lim), .val (eStg r.se), .val (.int (start + lim)), .val (.lst (rows.map eR)), .val .non, .val (.int tm)] =
      some (.nx [.val (eWor w), .val lab, .val (.int start), .val (.int lim), .val (eStg r.se), .val (.int (start + lim)), .val (.lst (rows.map eR)), .val .non, .val (.int start)]) := by
    intro n
    induction n with
    | zero =>
      intro tm a b c
      omega
    | succ n ih =>
      intro tm a b c
      have t1 : tCmp .is (eVar 7) (eCon .non) [.val (eWor w), .val lab, .val (.int start), .val (.int lim), .val (eStg r.se), .val (.int (start + lim)), .val (.lst (rows.map eR)), .val .non, .val (.int tm)] = some true := rfl
      have t2 : tCmp .lt (eVar 8) (bVar 2) [.val (eWor w), .val lab, .val (.int start), .val (.int lim), .val (eStg r.se), .val (.int (start + lim)), .val (.lst (rows.map eR)), .val .non, .val (.int tm)] = some (decide (tm < start)) := rfl
      by_cases q : tm < start
      · rw [decide_eq_true q] at t2
        obtain ⟨p, hp⟩ := precede_eq (start := start) (t := tm) B S (by omega) (by omega)
        have hp2 : tVal (eCall s_can_precede (aCons (eVar 0) (aCons (eVar 4) (aCons (eVar 2) (aCons (eVar 8) aNil))))) [.val (eWor w), .val lab, .val (.int start), .val (.int lim), .val (eStg r.se), .val (.int (start + lim)), .val (.lst (rows.map eR)), .val .non, .val (.int tm)] = some p :=
          ev_val (ev_call4 (a := eWor w) (b := eStg r.se) (c := .int start) (d := .int tm) rfl rfl rfl rfl hp) rfl
        have hb : ∀ x, (some tm : Option Int) = some x → 0 ≤ x ∧ x < start := fun x e => by cases e; exact ⟨a, q⟩
        have hst : eCall s__script (aCons (eVar 0) (aCons (eVar 4) (aCons (eVar 2) (aCons (eVar 5) (aCons (eVar 8) (aCons (eVar 6) aNil)))))) [.val (eWor w), .val lab, .val (.int start), .val (.int lim), .val (eStg r.se), .val (.int (start + lim)), .val (.lst (rows.map eR)), .val .non, .val (.int tm)] = some .non := sc (some tm) hb
        refine while_step (ρ' := [.val (eWor w), .val lab, .val (.int start), .val (.int lim), .val (eStg r.se), .val (.int (start + lim)), .val (.lst (rows.map eR)), .val .non, .val (.int (tm + 1))]) (ev_andT t1 t2) ?_ (ih (tm + 1) (by omega) (by omega) (by omega))
        cases p with
        | true => exact ev_seq (ev_ifT hp2 (ev_asg hst)) rfl
        | false => exact ev_seq (ev_ifF hp2 rfl) rfl
      · rw [decide_eq_false q] at t2
        have : tm = start := by omega
        subst this
        exact while_done (ev_andT t1 t2)
  have s3 : sAsg (gName 6) (eCall s_failing (aCons (eVar 0) (aCons (eVar 4) (aCons (eVar 2) (aCons (eVar 5) aNil))))) [.val (eWor w), .val lab, .val (.int start), .val (.int lim), .val (eStg r.se), .val (.int (start + lim)), .no, .no, .no] =
      some (.nx [.val (eWor w), .val lab, .val (.int start), .val (.int lim), .val (eStg r.se), .val (.int (start + lim)), .val (.lst (rows.map eR)), .no, .no]) := ev_asg k1
  have s4 : sAsg (gName 7) (eCall s__script (aCons (eVar 0) (aCons (eVar 4) (aCons (eVar 2) (aCons (eVar 5) (aCons (eCon .non) (aCons (eVar 6) aNil))))))) [.val (eWor w), .val lab, .val (.int start), .val (.int lim), .val (eStg r.se), .val (.int (start + lim)), .val (.lst (rows.map eR)), .no, .no] =
      some (.nx [.val (eWor w), .val lab, .val (.int start), .val (.int lim), .val (eStg r.se), .val (.int (start + lim)), .val (.lst (rows.map eR)), .val .non, .no]) := ev_asg (sc none fun x e => by cases e)
  refine run_rt rfl (ev_seq s1 (ev_seq (ev_asg (ev_add rfl rfl)) (ev_seq s3 (ev_seq s4 (ev_seq (ρ1 := [.val (eWor w), .val lab, .val (.int start), .val (.int lim), .val (eStg r.se), .val (.int (start + lim)), .val (.lst (rows.map eR)), .val .non, .val (.int 0)]) rfl (ev_seq (loop whileFuel 0 (by omega) h0 (by unfold whileFuel; omega)) rfl))))))
end
end WF
end
/-! text M12 -/
section
set_option Elab.async false
set_option linter.all false
set_option maxHeartbeats 1000000
/-! _horizon, sure_limit. -/
namespace WF
open PySem
section
variable {w : Wor}
def lvM (w : Wor) (lv : List (Str × Int)) : Nat := lv.foldl (fun m l => Nat.lcm m (perN w.wk (schOf w l.1))) 1
def lvB (w : Wor) (lv : List (Str × Int)) (t : Int) : Int := lv.foldl (fun b l => mx b (setl (schOf w l.1))) t
def horM (w : Wor) (s : Stg) : Nat := if s.mu.isEmpty = true then lvM w (polLv w s.po) else Nat.lcm (lvM w (polLv w s.po)) w.wk.toNat
theorem lvM_ok (B : WorB w) : ∀ (lv : List (Str × Int)) (m : Nat), (∀ l ∈ lv, l.1 ∈ w.sc.map (·.nm)) → m ∣ LL → 1 ≤ m → lv.foldl (fun m l => Nat.lcm m (perN w.wk (schOf w l.1))) m ∣ LL ∧ 1 ≤ lv.foldl (fun m l => Nat.lcm m (perN w.wk (schOf w l.1))) m
  | [], m, _, h, h1 => ⟨h, h1⟩
  | l :: lv, m, hl, h, h1 => by
    obtain ⟨p1, p2⟩ := perN_ok B.wk (B.sb _ (sch_eq (hl l (List.mem_cons_self ..))).1)
    exact lvM_ok B lv _ (fun x hx => hl x (List.mem_cons_of_mem _ hx)) (Nat.lcm_dvd h p1) (Nat.lcm_pos h1 p2)
theorem lvB_le (B : WorB w) : ∀ (lv : List (Str × Int)) (t : Int), (∀ l ∈ lv, l.1 ∈ w.sc.map (·.nm)) → t ≤ lvB w lv t ∧ (∀ c, 42 ≤ c → t ≤ c → lvB w lv t ≤ c) ∧ ∀ l ∈ lv, setl (schOf w l.1) ≤ lvB w lv t
  | [], t, _ => ⟨Int.le_refl _, fun c _ h => h, fun l hl => by cases hl⟩
  | l :: lv, t, hl => by
    obtain ⟨h1, h2, h3⟩ := lvB_le B lv (mx t (setl (schOf w l.1))) fun x hx => hl x (List.mem_cons_of_mem _ hx)
    have hs := setl_le (B.sb _ (sch_eq (hl l (List.mem_cons_self ..))).1)
    refine ⟨Int.le_trans (mx_l _ _) h1, fun c hc ht => h2 c hc (mx_le ht (by omega)), fun x hx => ?_⟩
    rcases List.mem_cons.mp hx with rfl | hx
    · exact Int.le_trans (mx_r _ _) h1
    · exact h3 x hx
theorem pol_ok (B : WorB w) {s : Stg} (S : StgB w s) : (∀ l ∈ polLv w s.po, l.1 ∈ w.sc.map (·.nm) ∧ 0 ≤ l.2 ∧ l.2 ≤ 8) ∧ (polLv w s.po).length ≤ 3 := by
  obtain ⟨x, hx, e1, _⟩ := pol_eq S.po
  obtain ⟨b1, b2, b3⟩ := B.pb x hx
  rw [e1]
  exact ⟨b3, b2⟩
theorem horM_ok (B : WorB w) {s : Stg} (S : StgB w s) : horM w s ∣ LL ∧ 1 ≤ horM w s := by
  obtain ⟨a, b⟩ := lvM_ok B (polLv w s.po) 1 (fun l hl => ((pol_ok B S).1 l hl).1) (Nat.one_dvd _) (Nat.le_refl _)
  unfold horM
  split
  · exact ⟨a, b⟩
  · exact ⟨Nat.lcm_dvd a B.wk.dv, Nat.lcm_pos b (by have := B.wk.w0; omega)⟩
theorem horizon_eq (B : WorB w) {s : Stg} (S : StgB w s) {t : Int} : s__horizon [eWor w, eStg s, .int t] = if 2000 < horM w s then some none else some (some (.tup [.int (horM w s : Nat), .int (lvB w (polLv w s.po) t)])) := by
  obtain ⟨x, hx, e1, e2, _⟩ := pol_eq S.po
  have hb := (pol_ok B S).1
  obtain ⟨ρ1, k1, a5, a6, a7, h1⟩ := for_inv (f := forTurn (gTup [5, 6]) (sSeq (sAsg (gName 7) (eCall s_schedule_of (aCons (eVar 0) (aCons (eVar 5) aNil))))
    (sSeq (sAsg (gName 3) (eBlt .lcm (aCons (eVar 3) (aCons (eCall s_period (aCons (eFld (eVar 0) "week") (aCons (eVar 7) aNil))) aNil))))
    (sAsg (gName 4) (eBlt .max (aCons (eVar 4) (aCons (eCall s_settled (aCons (eVar 7) aNil)) aNil))))))) (enc := eLev)
    (fun pre ρ => ∃ a5 a6 a7, ρ = [.val (eWor w), .val (eStg s), .val (.int t), .val (.int (lvM w pre : Nat)), .val (.int (lvB w pre t)), a5, a6, a7]) (polLv w s.po) [.val (eWor w), .val (eStg s), .val (.int t), .val (.int 1), .val (.int t), .no, .no, .no] (by
      rintro pre l post ρ e ⟨a5, a6, a7, rfl⟩
      have hl := (hb l (by rw [e]; simp)).1
      obtain ⟨c1, c2, _⟩ := sch_eq hl
      obtain ⟨p1, p2⟩ := perN_ok B.wk (B.sb _ c1)
      obtain ⟨q1, q2⟩ := lvM_ok B pre 1 (fun y hy => (hb y (by rw [e]; exact List.mem_append_left _ hy)).1) (Nat.one_dvd _) (Nat.le_refl _)
      have hM : lvM w (pre ++ [l]) = Nat.lcm (lvM w pre) (perN w.wk (schOf w l.1)) := by unfold lvM; rw [List.foldl_append]; rfl
      have hB : lvB w (pre ++ [l]) t = mx (lvB w pre t) (setl (schOf w l.1)) := by unfold lvB; rw [List.foldl_append]; rfl
      rw [hM, hB]
      have z1 : sAsg (gName 7) (eCall s_schedule_of (aCons (eVar 0) (aCons (eVar 5) aNil))) [.val (eWor w), .val (eStg s), .val (.int t), .val (.int (lvM w pre : Nat)), .val (.int (lvB w pre t)), .val (.str l.1), .val (.int l.2), a7] =
          some (.nx [.val (eWor w), .val (eStg s), .val (.int t), .val (.int (lvM w pre : Nat)), .val (.int (lvB w pre t)), .val (.str l.1), .val (.int l.2), .val (eSch (schOf w l.1))]) := ev_asg (ev_call2 (a := eWor w) (b := .str l.1) rfl rfl c2)
      have z2 : sAsg (gName 3) (eBlt .lcm (aCons (eVar 3) (aCons (eCall s_period (aCons (eFld (eVar 0) "week") (aCons (eVar 7) aNil))) aNil))) [.val (eWor w), .val (eStg s), .val (.int t), .val (.int (lvM w pre : Nat)), .val (.int (lvB w pre t)), .val (.str l.1), .val (.int l.2), .val (eSch (schOf w l.1))] =
          some (.nx [.val (eWor w), .val (eStg s), .val (.int t), .val (.int (Nat.lcm (lvM w pre) (perN w.wk (schOf w l.1)) : Nat)), .val (.int (lvB w pre t)), .val (.str l.1), .val (.int l.2), .val (eSch (schOf w l.1))]) :=
        ev_asg (ev_lcm (a := lvM w pre) (b := perN w.wk (schOf w l.1)) rfl (ev_call2 (a := .int w.wk) (b := eSch (schOf w l.1)) (f_week w) rfl (period_eq B.wk (B.sb _ c1))) q1 p1)
      have z3 : sAsg (gName 4) (eBlt .max (aCons (eVar 4) (aCons (eCall s_settled (aCons (eVar 7) aNil)) aNil))) [.val (eWor w), .val (eStg s), .val (.int t), .val (.int (Nat.lcm (lvM w pre) (perN w.wk (schOf w l.1)) : Nat)), .val (.int (lvB w pre t)), .val (.str l.1), .val (.int l.2), .val (eSch (schOf w l.1))] =
          some (.nx [.val (eWor w), .val (eStg s), .val (.int t), .val (.int (Nat.lcm (lvM w pre) (perN w.wk (schOf w l.1)) : Nat)), .val (.int (mx (lvB w pre t) (setl (schOf w l.1)))), .val (.str l.1), .val (.int l.2), .val (eSch (schOf w l.1))]) :=
        ev_asg (ev_blt2 (a := .int (lvB w pre t)) (b := .int (setl (schOf w l.1))) rfl (ev_call1 (d := eSch (schOf w l.1)) rfl (settled_eq (B.sb _ c1))) rfl)
      exact ⟨_, ev_seq z1 (ev_seq z2 z3), _, _, _, rfl⟩) ⟨_, _, _, rfl⟩
  obtain ⟨q1, q2⟩ := lvM_ok B (polLv w s.po) 1 (fun y hy => (hb y hy).1) (Nat.one_dvd _) (Nat.le_refl _)
  have hpre : b__horizon_0 (entry 8 [eWor w, eStg s, .int t]) = some (.nx [.val (eWor w), .val (eStg s), .val (.int t), .val (.int (horM w s : Nat)), .val (.int (lvB w (polLv w s.po) t)), a5, a6, a7]) := by
    refine ev_seq (ρ1 := [.val (eWor w), .val (eStg s), .val (.int t), .val (.int 1), .no, .no, .no, .no]) rfl (ev_seq (ρ1 := [.val (eWor w), .val (eStg s), .val (.int t), .val (.int 1), .val (.int t), .no, .no, .no]) rfl (ev_seq (ev_for (ds := (polLv w s.po).map eLev) (by rw [e1]; exact ev_seqI (ev_ix (ev_call2 (a := eWor w) (b := .str s.po) rfl rfl e2) rfl (r := some (.tup (x.lv.map eLev))) rfl) rfl) k1) ?_))
    rw [h1]
    unfold horM
    cases hmu : s.mu.isEmpty with
    | true => exact ev_ifF (ev_val (ev_ix (r := some (.tup (s.mu.map .str))) rfl rfl rfl) (by simp [hmu])) rfl
    | false =>
      refine ev_ifT (ev_val (ev_ix (r := some (.tup (s.mu.map .str))) rfl rfl rfl) (by simp [hmu])) (ev_asg (ev_lcm (a := lvM w (polLv w s.po)) (b := w.wk.toNat) rfl ?_ q1 B.wk.dv))
      rw [B.wk.cast]
      exact f_week w
  unfold s__horizon
  rw [if_pos (show ([eWor w, eStg s, D.int t] : List D).length = 3 from rfl), hpre]
  show (some (decide ((2000 : Int) < ((horM w s : Nat) : Int)))).bind (fun c => if c = true then some none else some (some (D.tup [.int (horM w s : Nat), .int (lvB w (polLv w s.po) t)]))) = _
  by_cases c : 2000 < horM w s
  · rw [if_pos c, show decide ((2000 : Int) < ((horM w s : Nat) : Int)) = true from decide_eq_true (by omega)]
    rfl
  · rw [if_neg c, show decide ((2000 : Int) < ((horM w s : Nat) : Int)) = false from decide_eq_false (by omega)]
    rfl
/-- what sure_limit finds: the times time .. N - 1 looked at -/
structure Told (w : Wor) (s : Stg) (time N : Int) (muted most : Int) : Prop where
  m0 : 0 ≤ muted
  m1 : muted ≤ N - time
  mm : ∀ u, N - muted ≤ u → u < N → mutedB w s.mu u = true
  mf : muted < N - time → mutedB w s.mu (N - muted - 1) = false
  o0 : 0 ≤ most
  o1 : most ≤ 100000
  un : ∀ u, time ≤ u → u < N → mutedB w s.mu u = false → ∃ d, delayO w (polLv w s.po) u = some d ∧ ∀ T, time ≤ T → T ≤ u → (∀ v, T ≤ v → v < u → mutedB w s.mu v = true) → d + (u - T) ≤ most
theorem delay_le (B : WorB w) {s : Stg} (S : StgB w s) {t d : Int} (h : delayO w (polLv w s.po) t = some d) : 0 ≤ d ∧ d ≤ 8 := by
  obtain ⟨l, hl, _, e⟩ := delay_some h
  rw [← e]
  exact ((pol_ok B S).1 l hl).2
theorem sure_loop (B : WorB w) {s : Stg} (S : StgB w s) {lab : D} {time many beg : Int} (h0 : 0 ≤ time) (h1 : time ≤ 100) (hb : time ≤ beg) (hb2 : beg ≤ 100) (hm : 1 ≤ many) (hm2 : many ≤ 2000) :
    (∃ muted most, Told w s time (beg + 2 * many) muted most ∧ finD (b_sure_limit_1 [.val (eWor w), .val lab, .val (.int time), .val (eStg s), .val (.int many), .val (.int beg), .no, .no, .no, .no]) =
      some (if many ≤ muted then .non else .int (mx s.wt (s.iv - 1) + slk w + most))) ∨
    (∃ u, time ≤ u ∧ u < beg + 2 * many ∧ mutedB w s.mu u = false ∧ delayO w (polLv w s.po) u = none) ∧ finD (b_sure_limit_1 [.val (eWor w), .val lab, .val (.int time), .val (eStg s), .val (.int many), .val (.int beg), .no, .no, .no, .no]) = some .non := by
  have A := for_gen (f := forTurn (gName 8) (sIf (tVal (eCall s_is_muted (aCons (eVar 0) (aCons (eIx (bVar 3) (eCon (.int 4))) (aCons (eVar 8) aNil)))))
      (sAsg (gName 6) (eBin .add (eVar 6) (eCon (.int 1))))
      (sSeq (sAsg (gName 9) (eCall s_delay (aCons (eVar 0) (aCons (eIx (bVar 3) (eCon (.int 5))) (aCons (eVar 8) aNil)))))
      (sSeq (sIf (tCmp .is (eVar 9) (eCon .non))
        (sRet (eCon .non))
        sNext)
      (sSeq (sAsg (gName 7) (eBlt .max (aCons (eVar 7) (aCons (eBin .add (eVar 6) (eVar 9)) aNil))))
      (sAsg (gName 6) (eCon (.int 0)))))))) (enc := fun k : Nat => D.int (time + (k : Int)))
    (fun pre ρ => ∃ muted most a b, ρ = [.val (eWor w), .val lab, .val (.int time), .val (eStg s), .val (.int many), .val (.int beg), .val (.int muted), .val (.int most), a, b] ∧ pre.length ≤ 5000 ∧ most ≤ 10000 + pre.length ∧ Told w s time (time + pre.length) muted most)
    (fun pre d => d = .non ∧ ∃ u, time ≤ u ∧ u < time + (pre.length : Int) ∧ mutedB w s.mu u = false ∧ delayO w (polLv w s.po) u = none) (List.range (beg + 2 * many - time).toNat) []
    [.val (eWor w), .val lab, .val (.int time), .val (eStg s), .val (.int many), .val (.int beg), .val (.int 0), .val (.int 0), .no, .no] (by
      rintro pre k post ρ hk ⟨muted, most, a, b, rfl, hp, ho, T⟩
      rw [List.nil_append] at hk
      obtain ⟨hx, hlt⟩ := range_pre hk
      subst hx
      have hN : ((pre ++ [pre.length]).length : Int) = (pre.length : Int) + 1 := by simp
      have hNn : (pre ++ [pre.length]).length = pre.length + 1 := by simp
      have ht : tVal (eCall s_is_muted (aCons (eVar 0) (aCons (eIx (bVar 3) (eCon (.int 4))) (aCons (eVar 8) aNil)))) [.val (eWor w), .val lab, .val (.int time), .val (eStg s), .val (.int many), .val (.int beg), .val (.int muted), .val (.int most), .val (.int (time + (pre.length : Int))), b] = some (mutedB w s.mu (time + (pre.length : Int))) :=
        ev_val (ev_call3 (a := eWor w) (b := .tup (s.mu.map .str)) (c := .int (time + (pre.length : Int))) rfl rfl rfl (muted_eq B S.mu S.ml)) rfl
      cases hmu : mutedB w s.mu (time + (pre.length : Int)) with
      | true =>
        rw [hmu] at ht
        refine .inl ⟨_, ev_ifT ht (ev_asg (ev_add rfl rfl)), muted + 1, most, _, _, rfl, by omega, by omega, ?_⟩
        rw [hN]
        refine ⟨by have := T.m0; omega, by have := T.m1; omega, fun u a b => ?_, fun hlt2 => ?_, T.o0, T.o1, fun u a b c => ?_⟩
        · by_cases q : u = time + (pre.length : Int)
          · rw [q]
            exact hmu
          · exact T.mm u (by omega) (by omega)
        · have := T.mf (by omega)
          rw [show time + ((pre.length : Int) + 1) - (muted + 1) - 1 = time + (pre.length : Int) - muted - 1 by omega]
          exact this
        · by_cases q : u = time + (pre.length : Int)
          · rw [q, hmu] at c
            cases c
          · exact T.un u a (by omega) c
      | false =>
        rw [hmu] at ht
        have z1 : sAsg (gName 9) (eCall s_delay (aCons (eVar 0) (aCons (eIx (bVar 3) (eCon (.int 5))) (aCons (eVar 8) aNil)))) [.val (eWor w), .val lab, .val (.int time), .val (eStg s), .val (.int many), .val (.int beg), .val (.int muted), .val (.int most), .val (.int (time + (pre.length : Int))), b] =
            some (.nx [.val (eWor w), .val lab, .val (.int time), .val (eStg s), .val (.int many), .val (.int beg), .val (.int muted), .val (.int most), .val (.int (time + (pre.length : Int))), .val (eI (delayO w (polLv w s.po) (time + (pre.length : Int))))]) :=
          ev_asg (ev_call3 (a := eWor w) (b := .str s.po) (c := .int (time + (pre.length : Int))) rfl rfl rfl (delay_eq B S.po))
        cases hd : delayO w (polLv w s.po) (time + (pre.length : Int)) with
        | none =>
          rw [hd] at z1
          exact .inr ⟨.non, ev_ifF ht (ev_seq z1 (ev_seqR (ev_ifT (ev_cmp (a := .non) (b := .non) rfl rfl rfl) rfl))), rfl, _, by omega, by rw [hN]; omega, hmu, hd⟩
        | some d =>
          rw [hd] at z1
          have hdl := delay_le B S hd
          have hm0 := T.m0
          have hm1 := T.m1
          refine .inl ⟨[.val (eWor w), .val lab, .val (.int time), .val (eStg s), .val (.int many), .val (.int beg), .val (.int 0), .val (.int (mx most (muted + d))), .val (.int (time + (pre.length : Int))), .val (.int d)], ev_ifF ht (ev_seq z1 (ev_seq (ev_ifF (ev_cmp (a := .int d) (b := .non) rfl rfl rfl) rfl) (ev_seq (ev_asg (ev_blt2 (a := .int most) (b := .int (muted + d)) rfl (ev_add rfl rfl) rfl)) rfl))), 0, mx most (muted + d), _, _, rfl, by omega, mx_le (by omega) (by omega), ?_⟩
          rw [hN]
          refine ⟨by omega, by omega, fun u a b => by omega, fun _ => by rw [show time + ((pre.length : Int) + 1) - 0 - 1 = time + (pre.length : Int) by omega]; exact hmu, Int.le_trans T.o0 (mx_l _ _), mx_le (by have := T.o1; omega) (by omega), fun u a b c => ?_⟩
          by_cases q : u = time + (pre.length : Int)
          · subst q
            refine ⟨d, hd, fun T0 t1 t2 t3 => Int.le_trans ?_ (mx_r _ _)⟩
            by_cases q2 : muted < (pre.length : Int)
            · have f1 := T.mf (by omega)
              by_cases q3 : T0 ≤ time + (pre.length : Int) - muted - 1
              · have := t3 _ q3 (by omega)
                rw [f1] at this
                cases this
              · omega
            · omega
          · obtain ⟨d', e1, e2⟩ := T.un u a (by omega) c
            exact ⟨d', e1, fun T0 t1 t2 t3 => Int.le_trans (e2 T0 t1 t2 t3) (mx_l _ _)⟩)
      ⟨0, 0, _, _, rfl, by simp, by simp, ⟨by omega, by simp, fun u a b => by simp at b; omega, fun h => by simp at h, by omega, by omega, fun u a b => by simp at b; omega⟩⟩
  rw [List.nil_append] at A
  have hit : iRng rng2 (aCons (eVar 2) (aCons (eBin .add (eVar 5) (eBin .mul (eCon (.int 2)) (eVar 4))) aNil)) [.val (eWor w), .val lab, .val (.int time), .val (eStg s), .val (.int many), .val (.int beg), .val (.int 0), .val (.int 0), .no, .no] =
      some ((List.range (beg + 2 * many - time).toNat).map fun k : Nat => D.int (time + (k : Int))) := by
    refine ev_rng2 (i := time) (j := beg + 2 * many) rfl (ev_add (b := 2 * many) rfl ?_) (by omega) (by omega)
    show (if (small64 2 || small64 many) = true then some (D.int (2 * many)) else none) = _
    rw [small64_of (show -1000000 ≤ (2 : Int) by omega) (by omega)]
    rfl
  have hlen : (((List.range (beg + 2 * many - time).toNat).length : Nat) : Int) = beg + 2 * many - time := by rw [List.length_range]; omega
  rcases A with ⟨ρ', k1, muted, most, a, b, rfl, _, ho, T⟩ | ⟨d, pre, post, k1, ⟨rfl, u, u1, u2, u3, u4⟩, hpp⟩
  · rw [hlen, show time + (beg + 2 * many - time) = beg + 2 * many by omega] at T
    refine .inl ⟨muted, most, T, ?_⟩
    have hmid : b_sure_limit_1 [.val (eWor w), .val lab, .val (.int time), .val (eStg s), .val (.int many), .val (.int beg), .no, .no, .no, .no] = some (.rt (if many ≤ muted then .non else .int (mx s.wt (s.iv - 1) + slk w + most))) := by
      refine ev_seq (ρ1 := [.val (eWor w), .val lab, .val (.int time), .val (eStg s), .val (.int many), .val (.int beg), .val (.int 0), .no, .no, .no]) rfl (ev_seq (ρ1 := [.val (eWor w), .val lab, .val (.int time), .val (eStg s), .val (.int many), .val (.int beg), .val (.int 0), .val (.int 0), .no, .no]) rfl (ev_seq (ev_for hit k1) ?_))
      by_cases c : many ≤ muted
      · rw [if_pos c]
        exact ev_seqR (ev_ifT (by rw [← show decide (many ≤ muted) = true from decide_eq_true c]; rfl) rfl)
      · rw [if_neg c]
        refine ev_seq (ev_ifF (by rw [← show decide (many ≤ muted) = false from decide_eq_false c]; rfl) rfl) (ev_ret (ev_add (a := mx s.wt (s.iv - 1) + slk w) (ev_add (a := mx s.wt (s.iv - 1)) (ev_blt2 (a := .int s.wt) (b := .int (s.iv - 1)) rfl (ev_sub rfl rfl) rfl) (ev_call1 (d := eWor w) rfl (slack_eq B))) rfl))
    rw [hmid]
    rfl
  · have hle : (pre.length : Int) ≤ beg + 2 * many - time := by
      have := congrArg List.length hpp
      rw [List.length_append] at this
      omega
    refine .inr ⟨⟨u, u1, by omega, u3, u4⟩, ?_⟩
    have hmid : b_sure_limit_1 [.val (eWor w), .val lab, .val (.int time), .val (eStg s), .val (.int many), .val (.int beg), .no, .no, .no, .no] = some (.rt .non) :=
      ev_seq (ρ1 := [.val (eWor w), .val lab, .val (.int time), .val (eStg s), .val (.int many), .val (.int beg), .val (.int 0), .no, .no, .no]) rfl (ev_seq (ρ1 := [.val (eWor w), .val lab, .val (.int time), .val (eStg s), .val (.int many), .val (.int beg), .val (.int 0), .val (.int 0), .no, .no]) rfl (ev_seqR (ev_for hit k1)))
    rw [hmid]
    rfl
end
end WF
end
/-! text M13 -/
section
set_option Elab.async false
set_option linter.all false
set_option maxHeartbeats 1000000
/-! The plain law: periods, told, gap. -/
namespace WF
open PySem
section
variable {w : Wor}
theorem inS_per {wk : Int} {sp : List Span} {t q : Int} : inS wk sp (t + wk * q) = inS wk sp t := by
  unfold inS
  rw [Int.add_mul_emod_self_left]
theorem muted_per {mu : List Str} {t q : Int} : mutedB w mu (t + w.wk * q) = mutedB w mu t := by
  unfold mutedB
  congr 1
  funext n
  exact inS_per
theorem dvd_of_nat {a : Int} {n : Nat} {m : Nat} (ha : ((n : Nat) : Int) = a) (h : n ∣ m) : ∃ q : Int, (m : Int) = a * q := by
  obtain ⟨c, hc⟩ := h
  exact ⟨(c : Int), by rw [← ha, hc]; exact Int.natCast_mul _ _⟩
theorem muted_perM (B : WorB w) {s : Stg} (S : StgB w s) {t q : Int} : mutedB w s.mu (t + (horM w s : Int) * q) = mutedB w s.mu t := by
  cases hmu : s.mu with
  | nil => rfl
  | cons a r =>
    have hd : w.wk.toNat ∣ horM w s := by
      unfold horM
      rw [hmu]
      exact Nat.dvd_lcm_right _ _
    obtain ⟨c, hc⟩ := dvd_of_nat B.wk.cast hd
    rw [hc, Int.mul_assoc]
    exact muted_per
theorem foldP_dvd {wk : Int} : ∀ (ls : List Lay) (m : Nat), m ∣ ls.foldl (stepP wk) m ∧ ∀ l ∈ ls, (1 < l.ms.length → l.sh.toNat * l.ms.length ∣ ls.foldl (stepP wk) m) ∧ (l.sp.isEmpty = false → wk.toNat ∣ ls.foldl (stepP wk) m)
  | [], m => ⟨Nat.dvd_refl _, fun l hl => by cases hl⟩
  | l :: ls, m => by
    obtain ⟨h1, h2⟩ := foldP_dvd (wk := wk) ls (stepP wk m l)
    have k1 : (if 1 < l.ms.length then Nat.lcm m (l.sh.toNat * l.ms.length) else m) ∣ stepP wk m l := by
      unfold stepP
      dsimp only
      generalize (if 1 < l.ms.length then Nat.lcm m (l.sh.toNat * l.ms.length) else m) = m1
      split
      · exact Nat.dvd_refl _
      · exact Nat.dvd_lcm_left _ _
    have k2 : m ∣ stepP wk m l := by
      refine Nat.dvd_trans ?_ k1
      split
      · exact Nat.dvd_lcm_left _ _
      · exact Nat.dvd_refl _
    refine ⟨Nat.dvd_trans k2 h1, fun x hx => ?_⟩
    rcases List.mem_cons.mp hx with rfl | hx
    · refine ⟨fun hl => Nat.dvd_trans (Nat.dvd_trans ?_ k1) h1, fun he => Nat.dvd_trans ?_ h1⟩
      · rw [if_pos hl]
        exact Nat.dvd_lcm_right _ _
      · unfold stepP
        dsimp only
        rw [he, if_neg Bool.false_ne_true]
        exact Nat.dvd_lcm_right _ _
    · exact h2 x hx
theorem onL_per {wk : Int} {l : Lay} {t P : Int} (W : WkB wk) (B : LayB l) (ht : l.st ≤ t) (hP : 0 ≤ P) (h1 : 1 < l.ms.length → ∃ q, P = (l.sh * (l.ms.length : Int)) * q) (h2 : l.sp.isEmpty = false → ∃ q, P = wk * q) : onL wk l (t + P) = onL wk l t := by
  unfold onL
  rw [if_neg (show ¬ t + P < l.st by omega), if_neg (show ¬ t < l.st by omega)]
  have hs : (!l.sp.isEmpty && !inS wk l.sp (t + P)) = (!l.sp.isEmpty && !inS wk l.sp t) := by
    cases e : l.sp.isEmpty with
    | true => rfl
    | false =>
      obtain ⟨q, hq⟩ := h2 e
      rw [hq, inS_per]
  rw [hs]
  have hi : (t + P - l.st) / l.sh % (l.ms.length : Int) = (t - l.st) / l.sh % (l.ms.length : Int) := by
    by_cases c : 1 < l.ms.length
    · obtain ⟨q, hq⟩ := h1 c
      have hsh : l.sh ≠ 0 := by have := B.sh0; omega
      rw [show t + P - l.st = (t - l.st) + l.sh * ((l.ms.length : Int) * q) by rw [hq, Int.mul_assoc]; omega, Int.add_mul_ediv_left _ _ hsh, Int.add_mul_emod_self_left]
    · have hl : l.ms.length = 1 := by
        have := List.length_pos_iff.mpr B.ms
        omega
      rw [hl]
      omega
  rw [hi]
theorem fs_none {α β : Type} {p : α → Option β} : ∀ {xs : List α}, (∀ x ∈ xs, p x = none) → xs.findSome? p = none
  | [], _ => rfl
  | x :: xs, h => by
    rw [List.findSome?_cons, h x (List.mem_cons_self ..)]
    exact fs_none fun y hy => h y (List.mem_cons_of_mem _ hy)
theorem fs_congr {α β : Type} {p q : α → Option β} : ∀ {xs : List α}, (∀ x ∈ xs, p x = q x) → xs.findSome? p = xs.findSome? q
  | [], _ => rfl
  | x :: xs, h => by
    rw [List.findSome?_cons, List.findSome?_cons, h x (List.mem_cons_self ..), fs_congr fun y hy => h y (List.mem_cons_of_mem _ hy)]
theorem onC_per {wk : Int} {s : Sch} {t : Int} {P : Nat} (W : WkB wk) (B : SchB s) (ht : setl s ≤ t) (hP : perN wk s ∣ P) : onC wk s (t + (P : Int)) = onC wk s t := by
  have hP0 : (0 : Int) ≤ (P : Int) := by omega
  have none : ∀ u, setl s ≤ u → s.ss.reverse.findSome? (fun x => if x.1 ≤ u ∧ u < x.2.1 then some x.2.2 else none) = none := fun u hu => fs_none fun x hx => by
    have := setl_std (List.mem_reverse.mp hx)
    rw [if_neg (by omega)]
  unfold onC
  rw [none t ht, none (t + (P : Int)) (by omega)]
  refine fs_congr fun l hl => ?_
  have hl2 := List.mem_reverse.mp hl
  obtain ⟨d1, d2⟩ := (foldP_dvd (wk := wk) s.ls 1).2 l hl2
  exact onL_per W (B.lb l hl2) (by have := setl_lay hl2; omega) hP0 (fun c => dvd_of_nat (sh_cast (B.lb l hl2)) (Nat.dvd_trans (d1 c) hP)) fun c => dvd_of_nat W.cast (Nat.dvd_trans (d2 c) hP)
theorem lvM_dvd : ∀ (lv : List (Str × Int)) (m : Nat), m ∣ lv.foldl (fun m l => Nat.lcm m (perN w.wk (schOf w l.1))) m ∧ ∀ l ∈ lv, perN w.wk (schOf w l.1) ∣ lv.foldl (fun m l => Nat.lcm m (perN w.wk (schOf w l.1))) m
  | [], m => ⟨Nat.dvd_refl _, fun l hl => by cases hl⟩
  | l :: lv, m => by
    obtain ⟨h1, h2⟩ := lvM_dvd lv (Nat.lcm m (perN w.wk (schOf w l.1)))
    refine ⟨Nat.dvd_trans (Nat.dvd_lcm_left _ _) h1, fun x hx => ?_⟩
    rcases List.mem_cons.mp hx with rfl | hx
    · exact Nat.dvd_trans (Nat.dvd_lcm_right _ _) h1
    · exact h2 x hx
theorem hor_dvd {s : Stg} : ∀ l ∈ polLv w s.po, perN w.wk (schOf w l.1) ∣ horM w s := fun l hl => by
  have h := (lvM_dvd (w := w) (polLv w s.po) 1).2 l hl
  unfold horM
  split
  · exact h
  · exact Nat.dvd_trans h (Nat.dvd_lcm_left _ _)
theorem delay_per (B : WorB w) {s : Stg} (S : StgB w s) {t time : Int} (ht : lvB w (polLv w s.po) time ≤ t) : delayO w (polLv w s.po) (t + (horM w s : Int)) = delayO w (polLv w s.po) t := by
  have hb := (pol_ok B S).1
  obtain ⟨_, _, h3⟩ := lvB_le B (polLv w s.po) time fun l hl => (hb l hl).1
  unfold delayO
  congr 2
  refine List.filter_congr fun l hl => ?_
  obtain ⟨c1, c2, c3⟩ := hb l hl
  have hs := (sch_eq c1).1
  have := h3 l hl
  unfold lvSure
  rw [show t + (horM w s : Int) + l.2 = (t + l.2) + (horM w s : Int) by omega, onC_per B.wk (B.sb _ hs) (by omega) (hor_dvd l hl)]
/-- told: for all times -/
theorem told_all (B : WorB w) {s : Stg} (S : StgB w s) {time muted most : Int} (T : Told w s time (lvB w (polLv w s.po) time + 2 * (horM w s : Int)) muted most) :
    ∀ (n : Nat) (u : Int), time ≤ u → u - time < n → mutedB w s.mu u = false → ∃ d, delayO w (polLv w s.po) u = some d ∧ ∀ T0, time ≤ T0 → T0 ≤ u → (∀ v, T0 ≤ v → v < u → mutedB w s.mu v = true) → d + (u - T0) ≤ most := by
  have hb := (pol_ok B S).1
  obtain ⟨g1, _, _⟩ := lvB_le B (polLv w s.po) time fun l hl => (hb l hl).1
  have hM := (horM_ok B S).2
  have per : ∀ v, mutedB w s.mu (v - (horM w s : Int)) = mutedB w s.mu v := fun v => by
    have := muted_perM (t := v - (horM w s : Int)) (q := 1) B S
    rw [Int.mul_one, Int.sub_add_cancel] at this
    exact this.symm
  intro n
  induction n with
  | zero =>
    intro u h1 h2
    omega
  | succ n ih =>
    intro u h1 h2 hu
    by_cases c : u < lvB w (polLv w s.po) time + 2 * (horM w s : Int)
    · exact T.un u h1 c hu
    · obtain ⟨d, e1, e2⟩ := ih (u - (horM w s : Int)) (by omega) (by omega) (by rw [per]; exact hu)
      have hd := delay_per (t := u - (horM w s : Int)) (time := time) B S (by omega)
      rw [Int.sub_add_cancel] at hd
      refine ⟨d, by rw [hd]; exact e1, fun T0 t1 t2 t3 => ?_⟩
      have hT : u - (horM w s : Int) < T0 := by
        refine Decidable.byContradiction fun z => ?_
        have := t3 (u - (horM w s : Int)) (by omega) (by omega)
        rw [per, hu] at this
        cases this
      have := e2 (T0 - (horM w s : Int)) (by omega) (by omega) fun v v1 v2 => by
        have := t3 (v + (horM w s : Int)) (by omega) (by omega)
        rw [← per, Int.add_sub_cancel] at this
        exact this
      omega
theorem first_un {mu : List Str} : ∀ (n : Nat) (T : Int), (∃ v, T ≤ v ∧ v < T + n ∧ mutedB w mu v = false) → ∃ u, T ≤ u ∧ mutedB w mu u = false ∧ ∀ v, T ≤ v → v < u → mutedB w mu v = true
  | 0, T, ⟨v, h1, h2, _⟩ => by omega
  | n + 1, T, ⟨v, h1, h2, h3⟩ => by
    cases c : mutedB w mu T with
    | false => exact ⟨T, Int.le_refl _, c, fun v a b => by omega⟩
    | true =>
      have hne : v ≠ T := fun z => by rw [z, c] at h3; cases h3
      obtain ⟨u, u1, u2, u3⟩ := first_un n (T + 1) ⟨v, by omega, by omega, h3⟩
      refine ⟨u, by omega, u2, fun x a b => ?_⟩
      by_cases q : x = T
      · rw [q]
        exact c
      · exact u3 x (by omega) b
theorem next_un (B : WorB w) {s : Stg} (S : StgB w s) {time muted most : Int} (T : Told w s time (lvB w (polLv w s.po) time + 2 * (horM w s : Int)) muted most) (hm : muted < (horM w s : Int)) {T0 : Int} (h0 : time ≤ T0) :
    ∃ u, T0 ≤ u ∧ mutedB w s.mu u = false ∧ ∀ v, T0 ≤ v → v < u → mutedB w s.mu v = true := by
  have hb := (pol_ok B S).1
  obtain ⟨g1, _, _⟩ := lvB_le B (polLv w s.po) time fun l hl => (hb l hl).1
  have hM := (horM_ok B S).2
  have hv := T.mf (by omega)
  generalize lvB w (polLv w s.po) time + 2 * (horM w s : Int) - muted - 1 = v at hv
  -- far enough
  have hk : ∃ k : Int, 0 ≤ k ∧ T0 ≤ v + (horM w s : Int) * k := by
    refine ⟨(T0 - v).natAbs, by omega, ?_⟩
    have : ((T0 - v).natAbs : Int) ≤ (horM w s : Int) * ((T0 - v).natAbs : Int) := by
      have h1 : (1 : Int) * ((T0 - v).natAbs : Int) ≤ (horM w s : Int) * ((T0 - v).natAbs : Int) := Int.mul_le_mul_of_nonneg_right (by omega) (by omega)
      omega
    omega
  obtain ⟨k, _, hk⟩ := hk
  refine first_un (v + (horM w s : Int) * k + 1 - T0).toNat T0 ⟨v + (horM w s : Int) * k, hk, by omega, ?_⟩
  rw [muted_perM B S]
  exact hv
theorem told_gap (B : WorB w) {s : Stg} (S : StgB w s) {time muted most start : Int} (T : Told w s time (lvB w (polLv w s.po) time + 2 * (horM w s : Int)) muted most) (hm : muted < (horM w s : Int)) (hs : time ≤ start) {b : Option Int} (hb : ∀ x, b = some x → 0 ≤ x ∧ x < start) :
    forcedB w s.mu (dueI s start b) start (start + (mx s.wt (s.iv - 1) + slk w + most) + 1) = true ∧
    ∀ t, start ≤ t → t ≤ start + (mx s.wt (s.iv - 1) + slk w + most) → mutedB w s.mu t = false → forcedB w s.mu (dueI s start b) start t = false → failB w s.po (start + (mx s.wt (s.iv - 1) + slk w + most)) t = false := by
  have sb := slk_b B
  have hT0 : mx start (dueI s start b + slk w) ≤ start + (mx s.wt (s.iv - 1) + slk w) := by
    have a1 := mx_l s.wt (s.iv - 1)
    have a2 := mx_r s.wt (s.iv - 1)
    have a3 := S.wt0
    refine mx_le (by omega) ?_
    cases b with
    | none =>
      unfold dueI
      dsimp only
      omega
    | some x =>
      have := hb x rfl
      unfold dueI
      dsimp only
      omega
  have hT1 := mx_l start (dueI s start b + slk w)
  constructor
  · obtain ⟨u, u1, u2, u3⟩ := next_un (T0 := mx start (dueI s start b + slk w)) B S T hm (by omega)
    obtain ⟨d, e1, e2⟩ := told_all B S T (u - time + 1).toNat u (by omega) (by omega) u2
    have h3 := e2 _ (by omega) u1 u3
    have h4 := delay_le B S e1
    exact forced_true.mpr ⟨u, u1, by omega, u2⟩
  · intro t t1 t2 t3 t4
    obtain ⟨d, e1, e2⟩ := told_all B S T (t - time + 1).toNat t (by omega) (by omega) t3
    have nf : ∀ v, mx start (dueI s start b + slk w) ≤ v → v < t → mutedB w s.mu v = true := fun v a b' => by
      cases q : mutedB w s.mu v with
      | true => rfl
      | false =>
        have := forced_true.mpr ⟨v, a, b', q⟩
        rw [t4] at this
        cases this
    have hd : t + d ≤ start + (mx s.wt (s.iv - 1) + slk w + most) := by
      by_cases c : mx start (dueI s start b + slk w) ≤ t
      · have := e2 _ (by omega) c nf
        omega
      · have := e2 t (by omega) (Int.le_refl _) fun v a b' => by omega
        omega
    obtain ⟨l, l1, l2, l3⟩ := delay_some e1
    unfold failB
    rw [Bool.not_eq_false', List.any_eq_true]
    exact ⟨l, l1, by rw [l2, l3, decide_eq_true hd]; rfl⟩
/-- a bad time stands below settled + common -/
theorem bad_low (B : WorB w) {s : Stg} (S : StgB w s) {time u : Int} (h1 : time ≤ u) (h2 : u < lvB w (polLv w s.po) time + 2 * (horM w s : Int)) (h3 : mutedB w s.mu u = false) (h4 : delayO w (polLv w s.po) u = none) :
    ∃ v, time ≤ v ∧ v < lvB w (polLv w s.po) time + (horM w s : Int) ∧ mutedB w s.mu v = false ∧ delayO w (polLv w s.po) v = none := by
  by_cases c : u < lvB w (polLv w s.po) time + (horM w s : Int)
  · exact ⟨u, h1, c, h3, h4⟩
  · have hb := (pol_ok B S).1
    obtain ⟨g1, _, _⟩ := lvB_le B (polLv w s.po) time fun l hl => (hb l hl).1
    refine ⟨u - (horM w s : Int), by omega, by omega, ?_, ?_⟩
    · have := muted_perM (t := u - (horM w s : Int)) (q := 1) B S
      rw [Int.mul_one, Int.sub_add_cancel] at this
      rw [← this]
      exact h3
    · have hd := delay_per (t := u - (horM w s : Int)) (time := time) B S (by omega)
      rw [Int.sub_add_cancel] at hd
      rw [← hd]
      exact h4
/-- a stretch of a whole period is muted: every time is -/
theorem all_muted (B : WorB w) {s : Stg} (S : StgB w s) {time muted most : Int} (T : Told w s time (lvB w (polLv w s.po) time + 2 * (horM w s : Int)) muted most) (hm : (horM w s : Int) ≤ muted) (t : Int) : mutedB w s.mu t = true := by
  have hM := (horM_ok B S).2
  generalize hN : lvB w (polLv w s.po) time + 2 * (horM w s : Int) = N at T
  have r0 := Int.emod_nonneg (t - (N - (horM w s : Int))) (show (horM w s : Int) ≠ 0 by omega)
  have r1 := Int.emod_lt_of_pos (t - (N - (horM w s : Int))) (show 0 < (horM w s : Int) by omega)
  have e := Int.emod_add_mul_ediv (t - (N - (horM w s : Int))) (horM w s : Int)
  have h1 := T.mm (N - (horM w s : Int) + (t - (N - (horM w s : Int))) % (horM w s : Int)) (by omega) (by omega)
  rw [← muted_perM (q := (t - (N - (horM w s : Int))) / (horM w s : Int)) B S] at h1
  rw [show N - (horM w s : Int) + (t - (N - (horM w s : Int))) % (horM w s : Int) + (horM w s : Int) * ((t - (N - (horM w s : Int))) / (horM w s : Int)) = t by omega] at h1
  exact h1
end
end WF
end
/-! text M10 -/
section
set_option Elab.async false
set_option linter.all false
set_option maxHeartbeats 1000000
/-! Labels, matchers, the way down the routes: the program's and the law's. -/
namespace WF
open PySem
def valO (qs : List (Str × Str)) (n : Str) : Str := match qs.findSome? (fun p => if p.1 = n then some p.2 else none) with
  | some v => v
  | none => ""
theorem val_loop {qs : List (Str × Str)} {n : Str} : (∀ v, qs.findSome? (fun p => if p.1 = n then some p.2 else none) = some v → forLoop (forTurn (gName 2) (sIf (tCmp .eq (eIx (bVar 2) (eCon (.int 0))) (bVar 1)) (sRet (eIx (bVar 2) (eCon (.int 1)))) sNext)) (qs.map pairD) [.val (labD qs), .val (.str n), .no] = some (.rt (.str v))) ∧
    (qs.findSome? (fun p => if p.1 = n then some p.2 else none) = none → ∃ ρ', forLoop (forTurn (gName 2) (sIf (tCmp .eq (eIx (bVar 2) (eCon (.int 0))) (bVar 1)) (sRet (eIx (bVar 2) (eCon (.int 1)))) sNext)) (qs.map pairD) [.val (labD qs), .val (.str n), .no] = some (.nx ρ')) := by
  have A := for_find (f := forTurn (gName 2) (sIf (tCmp .eq (eIx (bVar 2) (eCon (.int 0))) (bVar 1)) (sRet (eIx (bVar 2) (eCon (.int 1)))) sNext)) (enc := pairD) (fun ρ => ∃ a, ρ = [.val (labD qs), .val (.str n), a]) (fun p => (if p.1 = n then some p.2 else none).map D.str) qs [.val (labD qs), .val (.str n), .no] (by
    rintro p hp ρ ⟨a, rfl⟩
    have t1 : tCmp .eq (eIx (bVar 2) (eCon (.int 0))) (bVar 1) [.val (labD qs), .val (.str n), .val (pairD p)] = some (decide (p.1 = n)) := ev_cmp (ev_ix rfl rfl rfl) rfl rfl
    by_cases c : p.1 = n
    · rw [decide_eq_true c] at t1
      rw [if_pos c]
      exact ⟨fun d q => (by cases q; exact ev_ifT t1 (ev_ret (ev_ix rfl rfl rfl))), fun q => (by cases q)⟩
    · rw [decide_eq_false c] at t1
      rw [if_neg c]
      exact ⟨fun d q => (by cases q), fun _ => ⟨_, ev_ifF t1 rfl, _, rfl⟩⟩) ⟨_, rfl⟩
  rw [fs_map] at A
  exact ⟨fun v hv => A.1 _ (by rw [hv]; rfl), fun hv => by
    obtain ⟨ρ', h, _⟩ := A.2 (by rw [hv]; rfl)
    exact ⟨ρ', h⟩⟩
theorem value_eq {qs : List (Str × Str)} {n : Str} : s_value_of [labD qs, .str n] = some (.str (valO qs n)) ∧ s__law_value [labD qs, .str n] = some (.str (valO qs n)) := by
  unfold valO
  obtain ⟨h1, h2⟩ := val_loop (qs := qs) (n := n)
  cases e : qs.findSome? (fun p => if p.1 = n then some p.2 else none) with
  | some v => exact ⟨run_rt rfl (ev_seqR (ev_for (ds := qs.map pairD) rfl (h1 v e))), run_rt rfl (ev_seqR (ev_for (ds := qs.map pairD) rfl (h1 v e)))⟩
  | none =>
    obtain ⟨ρ', h⟩ := h2 e
    exact ⟨run_rt rfl (ev_seq (ev_for (ds := qs.map pairD) rfl h) rfl), run_rt rfl (ev_seq (ev_for (ds := qs.map pairD) rfl h) rfl)⟩
def matB (qs : List (Str × Str)) (m : Mat) : Bool := decide (decide (valO qs m.nm ∈ m.vs) = m.ins)
theorem in_strs2 {x : Str} {vs : List Str} : cmpD .inn (.str x) (.tup (vs.map .str)) = some (decide (x ∈ vs)) := by
  show (strsOf (vs.map D.str)).map (fun l => decide (x ∈ l)) = _
  have h : strsOf (vs.map D.str) = some vs := by
    have := strsOf_map (xs := vs) (g := fun x => x)
    rw [List.map_id'] at this
    exact this
  rw [h]
  rfl
theorem ev_test {t : ST} {ρ : Env} {b : Bool} (h : t ρ = some b) : eTest t ρ = some (.bl b) := by
  show (t ρ).map _ = _
  rw [h]
  rfl
theorem matches_eq {qs : List (Str × Str)} {m : Mat} : s_matches [eMat m, labD qs] = some (.bl (matB qs m)) := by
  refine run_rt rfl (ev_seq (ρ1 := [.val (eMat m), .val (labD qs), .val (.str m.nm), .val (.tup (m.vs.map .str)), .val (.bl m.ins), .no]) rfl (ev_seq (ev_asg (ev_test (ev_cmp (ev_call2 (a := labD qs) (b := .str m.nm) rfl rfl value_eq.1) rfl in_strs2))) (ev_ret (ev_test (ev_cmp rfl rfl rfl)))))
theorem matches_all_eq {qs : List (Str × Str)} {ms : List Mat} : s_matches_all [.tup (ms.map eMat), labD qs] = some (.bl (ms.all (matB qs))) := by
  have A := for_find (f := forTurn (gName 2) (sIf (tNot (tVal (eCall s_matches (aCons (eVar 2) (aCons (eVar 1) aNil))))) (sRet (eCon (.bl false))) sNext)) (enc := eMat) (fun ρ => ∃ a, ρ = [.val (.tup (ms.map eMat)), .val (labD qs), a]) (fun m => if (!matB qs m) = true then some (.bl false) else none) ms [.val (.tup (ms.map eMat)), .val (labD qs), .no] (by
    rintro m hm ρ ⟨a, rfl⟩
    have t1 : tNot (tVal (eCall s_matches (aCons (eVar 2) (aCons (eVar 1) aNil)))) [.val (.tup (ms.map eMat)), .val (labD qs), .val (eMat m)] = some (!matB qs m) := ev_not (ev_val (ev_call2 (a := eMat m) (b := labD qs) rfl rfl matches_eq) rfl)
    cases e : matB qs m with
    | false =>
      rw [e] at t1
      exact ⟨fun d q => (by cases q; exact ev_ifT t1 rfl), fun q => (by cases q)⟩
    | true =>
      rw [e] at t1
      exact ⟨fun d q => (by cases q), fun _ => ⟨_, ev_ifF t1 rfl, _, rfl⟩⟩) ⟨_, rfl⟩
  rw [findSome_any] at A
  have hn : ms.all (matB qs) = !ms.any (fun m => !matB qs m) := by rw [List.not_any_eq_all_not]; simp
  rw [hn]
  cases e : ms.any (fun m => !matB qs m) with
  | true =>
    rw [e] at A
    exact run_rt rfl (ev_seqR (ev_for (ds := ms.map eMat) rfl (A.1 _ rfl)))
  | false =>
    rw [e] at A
    obtain ⟨ρ', h, _⟩ := A.2 rfl
    exact run_rt rfl (ev_seq (ev_for (ds := ms.map eMat) rfl h) rfl)
theorem law_matches_eq {qs : List (Str × Str)} {ms : List Mat} : s__law_matches [.tup (ms.map eMat), labD qs] = some (.bl (ms.all (matB qs))) := by
  have A := for_find (f := forTurn (gTup [2, 3, 4]) (sIf (tCmp .ne (eTest (tCmp .inn (eCall s__law_value (aCons (eVar 1) (aCons (eVar 2) aNil))) (bVar 3))) (bVar 4)) (sRet (eCon (.bl false))) sNext)) (enc := eMat) (fun ρ => ∃ a b c, ρ = [.val (.tup (ms.map eMat)), .val (labD qs), a, b, c]) (fun m => if (!matB qs m) = true then some (.bl false) else none) ms [.val (.tup (ms.map eMat)), .val (labD qs), .no, .no, .no] (by
    rintro m hm ρ ⟨a, b, c, rfl⟩
    have t1 : tCmp .ne (eTest (tCmp .inn (eCall s__law_value (aCons (eVar 1) (aCons (eVar 2) aNil))) (bVar 3))) (bVar 4) [.val (.tup (ms.map eMat)), .val (labD qs), .val (.str m.nm), .val (.tup (m.vs.map .str)), .val (.bl m.ins)] = some (!matB qs m) :=
      ev_cmp (ev_test (ev_cmp (ev_call2 (a := labD qs) (b := .str m.nm) rfl rfl value_eq.2) rfl in_strs2)) rfl rfl
    cases e : matB qs m with
    | false =>
      rw [e] at t1
      exact ⟨fun d q => (by cases q; exact ev_ifT t1 rfl), fun q => (by cases q)⟩
    | true =>
      rw [e] at t1
      exact ⟨fun d q => (by cases q), fun _ => ⟨_, ev_ifF t1 rfl, _, _, _, rfl⟩⟩) ⟨_, _, _, rfl⟩
  rw [findSome_any] at A
  have hn : ms.all (matB qs) = !ms.any (fun m => !matB qs m) := by rw [List.not_any_eq_all_not]; simp
  rw [hn]
  cases e : ms.any (fun m => !matB qs m) with
  | true =>
    rw [e] at A
    exact run_rt rfl (ev_seqR (ev_for (ds := ms.map eMat) rfl (A.1 _ rfl)))
  | false =>
    rw [e] at A
    obtain ⟨ρ', h, _⟩ := A.2 rfl
    exact run_rt rfl (ev_seq (ev_for (ds := ms.map eMat) rfl h) rfl)
/-! ### the way -/
def condR (ro : List Rou) (qs : List (Str × Str)) (cur : Nat) (k : Nat) : Bool := match ro[k]? with
  | some r => (match r.pa with
    | some p => decide (p = (cur : Int))
    | none => false) && r.mt.all (matB qs)
  | none => false
def nxR (ro : List Rou) (qs : List (Str × Str)) (cur : Nat) : Option Nat := (List.range ro.length).find? (condR ro qs cur)
def RoB (ro : List Rou) : Prop := ∀ (k : Nat) (r : Rou), ro[k]? = some r → ∀ p, r.pa = some p → 0 ≤ p ∧ p < (k : Int)
section
variable {ro : List Rou} {qs : List (Str × Str)}
theorem cond_gt (R : RoB ro) {cur k : Nat} (h : condR ro qs cur k = true) : cur < k := by
  unfold condR at h
  split at h
  · rename_i r hr
    split at h
    · rename_i p hp
      obtain ⟨a, b⟩ := Bool.and_eq_true_iff.mp h
      have := of_decide_eq_true a
      have := (R k r hr p hp).2
      omega
    · simp at h
  · cases h
theorem nx_some (R : RoB ro) {cur j : Nat} (h : nxR ro qs cur = some j) : cur < j ∧ j < ro.length := by
  have h1 := List.find?_some h
  have h2 := List.mem_of_find?_eq_some h
  exact ⟨cond_gt R h1, List.mem_range.mp h2⟩
theorem find_from {c : Nat → Bool} {n m : Nat} (h : ∀ k, k < m → c k = false) (hm : m ≤ n) : (List.range (n - m)).findSome? (fun k => if c (m + k) = true then some (D.int ((m + k : Nat) : Int)) else none) = ((List.range n).find? c).map fun k => D.int ((k : Nat) : Int) := by
  have e : List.range n = List.range m ++ (List.range (n - m)).map (m + ·) := by
    conv => lhs; rw [show n = m + (n - m) by omega]
    rw [List.range_add]
  rw [e, List.find?_append]
  have h0 : (List.range m).find? c = none := List.find?_eq_none.mpr fun k hk => by rw [h k (List.mem_range.mp hk)]; simp
  rw [h0, Option.none_or]
  generalize List.range (n - m) = l
  induction l with
  | nil => rfl
  | cons x l ih =>
    rw [List.findSome?_cons, List.map_cons, List.find?_cons]
    cases q : c (m + x) with
    | true => rfl
    | false => simpa using ih
theorem rou_ix {i : Nat} {r : Rou} (h : ro[i]? = some r) : ixD (.lst (ro.map eRou)) (.int (i : Nat)) = some (eRou r) := by
  show atD (ro.map eRou) ((i : Nat) : Int) = _
  unfold atD
  rw [if_pos (by omega), Int.toNat_natCast, List.getElem?_map, h]
  rfl
theorem pa_eq (r : Rou) (cur : Nat) : cmpD .eq (eOpt r.pa) (.int (cur : Nat)) = some (match r.pa with
    | some p => decide (p = (cur : Int))
    | none => false) := by
  cases r.pa <;> rfl
theorem turn_name {i : Nat} {s : SS} {d : D} {ρ : Env} : forTurn (gName i) s d ρ = s (ρ.set i (.val d)) := rfl
theorem later_eq (R : RoB ro) (hl : ro.length ≤ 100) {cur : Nat} (hc : cur < ro.length) : s__later [.lst (ro.map eRou), .int (cur : Nat), labD qs] = some (eI ((nxR ro qs cur).map fun k => ((k : Nat) : Int))) := by
  have A := for_find (f := forTurn (gName 3) (sIf (tAnd (tCmp .eq (eIx (eIx (bVar 0) (eVar 3)) (eCon (.int 0))) (bVar 1)) (tVal (eCall s_matches_all (aCons (eIx (eIx (bVar 0) (eVar 3)) (eCon (.int 1))) (aCons (eVar 2) aNil))))) (sRet (eVar 3)) sNext)) (enc := fun k : Nat => D.int ((cur : Int) + 1 + (k : Int)))
    (fun ρ => ∃ a, ρ = [.val (.lst (ro.map eRou)), .val (.int (cur : Nat)), .val (labD qs), a]) (fun k => if condR ro qs cur (cur + 1 + k) = true then some (D.int ((cur + 1 + k : Nat) : Int)) else none) (List.range (ro.length - (cur + 1))) [.val (.lst (ro.map eRou)), .val (.int (cur : Nat)), .val (labD qs), .no] (by
      rintro k hk ρ ⟨a, rfl⟩
      have hk2 := List.mem_range.mp hk
      have hlt : cur + 1 + k < ro.length := by omega
      have hg := List.getElem?_eq_getElem hlt
      generalize ro[cur + 1 + k] = r at hg
      have hix := rou_ix hg
      rw [show ((cur + 1 + k : Nat) : Int) = (cur : Int) + 1 + (k : Int) by omega] at hix
      have t1 : tCmp .eq (eIx (eIx (bVar 0) (eVar 3)) (eCon (.int 0))) (bVar 1) [.val (.lst (ro.map eRou)), .val (.int (cur : Nat)), .val (labD qs), .val (.int ((cur : Int) + 1 + (k : Int)))] = some (match r.pa with
          | some p => decide (p = (cur : Int))
          | none => false) := ev_cmp (ev_ix (ev_ix rfl rfl hix) rfl rfl) rfl (pa_eq r cur)
      have t2 : tVal (eCall s_matches_all (aCons (eIx (eIx (bVar 0) (eVar 3)) (eCon (.int 1))) (aCons (eVar 2) aNil))) [.val (.lst (ro.map eRou)), .val (.int (cur : Nat)), .val (labD qs), .val (.int ((cur : Int) + 1 + (k : Int)))] = some (r.mt.all (matB qs)) :=
        ev_val (ev_call2 (a := .tup (r.mt.map eMat)) (b := labD qs) (ev_ix (ev_ix rfl rfl hix) rfl rfl) rfl matches_all_eq) rfl
      have t3 := ev_and2 t1 t2
      have hcd : condR ro qs cur (cur + 1 + k) = ((match r.pa with
          | some p => decide (p = (cur : Int))
          | none => false) && r.mt.all (matB qs)) := by unfold condR; rw [hg]
      rw [← hcd] at t3
      cases e : condR ro qs cur (cur + 1 + k) with
      | true =>
        rw [e] at t3
        refine ⟨fun d q => ?_, fun q => (by cases q)⟩
        have q2 : some (D.int ((cur + 1 + k : Nat) : Int)) = some d := q
        cases q2
        rw [show ((cur + 1 + k : Nat) : Int) = (cur : Int) + 1 + (k : Int) by omega]
        exact ev_ifT t3 rfl
      | false =>
        rw [e] at t3
        exact ⟨fun d q => (by cases q), fun _ => ⟨_, ev_ifF t3 rfl, _, rfl⟩⟩) ⟨_, rfl⟩
  rw [find_from (c := condR ro qs cur) (n := ro.length) (m := cur + 1) (fun k hk => by
    cases q : condR ro qs cur k with
    | false => rfl
    | true =>
      have := cond_gt R q
      omega) (by omega)] at A
  have hit : iRng rng2 (aCons (eBin .add (eVar 1) (eCon (.int 1))) (aCons (eBlt .len (aCons (bVar 0) aNil)) aNil)) [.val (.lst (ro.map eRou)), .val (.int (cur : Nat)), .val (labD qs), .no] = some ((List.range (ro.length - (cur + 1))).map fun k : Nat => D.int ((cur : Int) + 1 + (k : Int))) := by
    rw [ev_rng2 (i := (cur : Int) + 1) (j := (ro.length : Int)) (ev_add rfl rfl) (ev_blt1 (d := .lst (ro.map eRou)) rfl (by show some (D.int ((ro.map eRou).length : Nat)) = _; rw [List.length_map])) (by omega) (by omega)]
    rw [show ((ro.length : Int) - ((cur : Int) + 1)).toNat = ro.length - (cur + 1) by omega]
  change _ at A
  cases e : nxR ro qs cur with
  | some j =>
    have e2 : (List.range ro.length).find? (condR ro qs cur) = some j := e
    rw [e2] at A
    exact run_rt rfl (ev_seqR (ev_for hit (A.1 _ rfl)))
  | none =>
    have e2 : (List.range ro.length).find? (condR ro qs cur) = none := e
    rw [e2] at A
    obtain ⟨ρ', h, _⟩ := A.2 rfl
    exact run_rt rfl (ev_seq (ev_for hit h) rfl)
def stW (ro : List Rou) (qs : List (Str × Str)) (p : List Nat × Nat) : List Nat × Nat := match nxR ro qs p.2 with
  | none => p
  | some j => (p.1 ++ [j], j)
def itW (ro : List Rou) (qs : List (Str × Str)) : Nat → List Nat × Nat → List Nat × Nat
  | 0, p => p
  | n + 1, p => itW ro qs n (stW ro qs p)
theorem itW_snoc : ∀ (n : Nat) (p : List Nat × Nat), itW ro qs (n + 1) p = stW ro qs (itW ro qs n p)
  | 0, _ => rfl
  | n + 1, p => itW_snoc n (stW ro qs p)
theorem itW_stop {p : List Nat × Nat} (h : nxR ro qs p.2 = none) : ∀ n, itW ro qs n p = p
  | 0 => rfl
  | n + 1 => by
    show itW ro qs n (stW ro qs p) = p
    have : stW ro qs p = p := by unfold stW; rw [h]
    rw [this]
    exact itW_stop h n
theorem itW_far (R : RoB ro) : ∀ (f g : Nat) (p : List Nat × Nat), p.2 < ro.length → ro.length - p.2 ≤ f → ro.length - p.2 ≤ g → itW ro qs f p = itW ro qs g p
  | 0, _, p, h, hf, _ => by omega
  | _ + 1, 0, p, h, _, hg => by omega
  | f + 1, g + 1, p, h, hf, hg => by
    cases e : nxR ro qs p.2 with
    | none => rw [itW_stop e, itW_stop e]
    | some j =>
      obtain ⟨h1, h2⟩ := nx_some R e
      have hs : stW ro qs p = (p.1 ++ [j], j) := by unfold stW; rw [e]
      show itW ro qs f (stW ro qs p) = itW ro qs g (stW ro qs p)
      rw [hs]
      exact itW_far R f g (p.1 ++ [j], j) h2 (by show ro.length - j ≤ f; omega) (by show ro.length - j ≤ g; omega)
/-- the list's last item is where one stands -/
def WayOk (ro : List Rou) (p : List Nat × Nat) : Prop := p.2 < ro.length ∧ p.1.length ≤ p.2 + 1 ∧ ∃ xs, p.1 = xs ++ [p.2]
theorem stW_ok (R : RoB ro) {p : List Nat × Nat} (h : WayOk ro p) : WayOk ro (stW ro qs p) := by
  unfold stW
  cases e : nxR ro qs p.2 with
  | none => exact h
  | some j =>
    obtain ⟨h1, h2⟩ := nx_some R e
    obtain ⟨_, a, _⟩ := h
    exact ⟨h2, by simp; omega, p.1, rfl⟩
theorem itW_ok (R : RoB ro) : ∀ (n : Nat) {p : List Nat × Nat}, WayOk ro p → WayOk ro (itW ro qs n p)
  | 0, _, h => h
  | n + 1, _, h => itW_ok R n (stW_ok R h)
def eN (k : Nat) : D := .int (k : Nat)
theorem last_at {xs : List Nat} {c : Nat} : atD ((xs ++ [c]).map eN) (-1) = some (eN c) := by
  unfold atD
  rw [if_neg (by omega), if_pos (by simp; omega)]
  have : ((-1 : Int) + (((xs ++ [c]).map eN).length : Int)).toNat = xs.length := by
    simp
    omega
  rw [this, List.getElem?_map, List.getElem?_append_right (Nat.le_refl _), Nat.sub_self]
  rfl
theorem way_loop (R : RoB ro) (hl : ro.length ≤ 100) : ∀ (f : Nat) (p : List Nat × Nat), WayOk ro p → ro.length - p.2 ≤ f →
    whileLoop (tCmp .isNot (eVar 3) (eCon .non)) (sSeq (sApp 2 (eVar 3)) (sAsg (gName 3) (eCall s__later (aCons (eVar 0) (aCons (eVar 3) (aCons (eVar 1) aNil)))))) (f + 1)
      [.val (.lst (ro.map eRou)), .val (labD qs), .own (p.1.map eN), .val (eI ((nxR ro qs p.2).map fun k => ((k : Nat) : Int)))] =
    some (.nx [.val (.lst (ro.map eRou)), .val (labD qs), .own ((itW ro qs f p).1.map eN), .val .non])
  | 0, p, h, hf => by
    have := h.1
    omega
  | f + 1, p, h, hf => by
    cases e : nxR ro qs p.2 with
    | none =>
      rw [itW_stop e]
      exact while_done rfl
    | some j =>
      obtain ⟨h1, h2⟩ := nx_some R e
      have hs : stW ro qs p = (p.1 ++ [j], j) := by unfold stW; rw [e]
      have ih := way_loop R hl f (p.1 ++ [j], j) (by have := stW_ok (qs := qs) R h; rw [hs] at this; exact this) (by show ro.length - j ≤ f; omega)
      have hi : itW ro qs (f + 1) p = itW ro qs f (p.1 ++ [j], j) := by
        show itW ro qs f (stW ro qs p) = _
        rw [hs]
      rw [hi]
      obtain ⟨a, b, _⟩ := h
      refine while_step (ρ' := [.val (.lst (ro.map eRou)), .val (labD qs), .own ((p.1 ++ [j]).map eN), .val (eI ((nxR ro qs j).map fun k => ((k : Nat) : Int)))]) rfl (ev_seq (ev_app (d := .int (j : Nat)) (ds := p.1.map eN) rfl rfl (by rw [List.length_map]; omega)) ?_) ih
      rw [List.map_append]
      exact ev_asg (ev_call3 (a := .lst (ro.map eRou)) (b := .int (j : Nat)) (c := labD qs) rfl rfl rfl (later_eq R hl h2))
theorem way_eq (R : RoB ro) (hl : ro.length ≤ 100) (h0 : 0 < ro.length) : s_way [.lst (ro.map eRou), labD qs] = some (.lst ((itW ro qs ro.length ([0], 0)).1.map eN)) := by
  have h : WayOk ro ([0], 0) := ⟨h0, by simp, [], rfl⟩
  have k := way_loop (qs := qs) R hl 999 ([0], 0) h (by show ro.length - 0 ≤ 999; omega)
  rw [itW_far R 999 ro.length ([0], 0) h0 (by show ro.length - 0 ≤ 999; omega) (by show ro.length - 0 ≤ ro.length; omega)] at k
  refine run_rt rfl (ev_seq (ρ1 := [.val (.lst (ro.map eRou)), .val (labD qs), .own [.int 0], .no]) rfl (ev_seq (ev_asg (ev_call3 (a := .lst (ro.map eRou)) (b := .int 0) (c := labD qs) rfl rfl rfl (later_eq (cur := 0) R hl h0))) (ev_seq (ρ1 := [.val (.lst (ro.map eRou)), .val (labD qs), .own ((itW ro qs ro.length ([0], 0)).1.map eN), .val .non]) k rfl)))
theorem end_eq (R : RoB ro) (hl : ro.length ≤ 100) (h0 : 0 < ro.length) : s_end_of [.lst (ro.map eRou), labD qs] = some (.int ((itW ro qs ro.length ([0], 0)).2 : Nat)) := by
  have h := itW_ok (qs := qs) R ro.length (p := ([0], 0)) ⟨h0, by simp, [], rfl⟩
  obtain ⟨_, _, xs, e⟩ := h
  refine run_rt rfl (ev_ret (ev_ix (ev_call2 (a := .lst (ro.map eRou)) (b := labD qs) rfl rfl (way_eq R hl h0)) rfl ?_))
  show atD ((itW ro qs ro.length ([0], 0)).1.map eN) (-1) = _
  rw [e]
  exact last_at
theorem law_way_eq (R : RoB ro) (hl : ro.length ≤ 100) (h0 : 0 < ro.length) : s__law_way [.lst (ro.map eRou), labD qs] = some (.lst ((itW ro qs ro.length ([0], 0)).1.map eN)) := by
  have hW : ∀ n, WayOk ro (itW ro qs n ([0], 0)) := fun n => itW_ok R n ⟨h0, by simp, [], rfl⟩
  obtain ⟨ρ1, k1, a3, a4, a5, e1⟩ := for_inv (f := forTurn (gName 3) (sSeq (sAsg (gName 4) (eCon .non))
    (sSeq (sFor (gName 5) (iRng rng2 (aCons (eCon (.int 1)) (aCons (eBlt .len (aCons (bVar 0) aNil)) aNil)))
      (sIf (tAnd (tCmp .is (eVar 4) (eCon .non)) (tAnd (tCmp .eq (eIx (eIx (bVar 0) (eVar 5)) (eCon (.int 0))) (eIx (bVar 2) (eNeg (eCon (.int 1))))) (tVal (eCall s__law_matches (aCons (eIx (eIx (bVar 0) (eVar 5)) (eCon (.int 1))) (aCons (eVar 1) aNil))))))
        (sAsg (gName 4) (eVar 5))
        sNext))
    (sIf (tCmp .isNot (eVar 4) (eCon .non))
      (sApp 2 (eVar 4))
      sNext)))) (enc := fun k : Nat => D.int (0 + (k : Int)))
    (fun pre ρ => ∃ a3 a4 a5, ρ = [.val (.lst (ro.map eRou)), .val (labD qs), .own ((itW ro qs pre.length ([0], 0)).1.map eN), a3, a4, a5]) (List.range ro.length) [.val (.lst (ro.map eRou)), .val (labD qs), .own [.int 0], .no, .no, .no] (by
      rintro pre x post ρ hx ⟨a3, a4, a5, rfl⟩
      have hW1 := hW pre.length
      have hst := itW_snoc (ro := ro) (qs := qs) pre.length ([0], 0)
      rw [List.length_append, List.length_singleton, hst]
      generalize itW ro qs pre.length ([0], 0) = p at hW1
      obtain ⟨w1, w2, xs, w3⟩ := hW1
      obtain ⟨ρ2, k2, b5, e2⟩ := for_inv (f := forTurn (gName 5) (sIf (tAnd (tCmp .is (eVar 4) (eCon .non)) (tAnd (tCmp .eq (eIx (eIx (bVar 0) (eVar 5)) (eCon (.int 0))) (eIx (bVar 2) (eNeg (eCon (.int 1))))) (tVal (eCall s__law_matches (aCons (eIx (eIx (bVar 0) (eVar 5)) (eCon (.int 1))) (aCons (eVar 1) aNil))))))
        (sAsg (gName 4) (eVar 5)) sNext)) (enc := fun k : Nat => D.int (1 + (k : Int)))
        (fun pre2 ρ => ∃ b5, ρ = [.val (.lst (ro.map eRou)), .val (labD qs), .own (p.1.map eN), .val (.int (0 + (x : Int))), .val (match pre2.findSome? (fun k => if condR ro qs p.2 (1 + k) = true then some (D.int ((1 + k : Nat) : Int)) else none) with
          | some d => d
          | none => .non), b5]) (List.range (ro.length - 1)) [.val (.lst (ro.map eRou)), .val (labD qs), .own (p.1.map eN), .val (.int (0 + (x : Int))), .val .non, a5] (by
          rintro pre2 y post2 ρ hy ⟨b5, rfl⟩
          obtain ⟨hy1, hy2⟩ := range_pre hy
          subst hy1
          have hlt : 1 + pre2.length < ro.length := by omega
          have hg := List.getElem?_eq_getElem hlt
          generalize ro[1 + pre2.length] = r at hg
          have hix := rou_ix hg
          rw [show ((1 + pre2.length : Nat) : Int) = 1 + (pre2.length : Int) by omega] at hix
          rw [List.findSome?_append]
          cases ef : pre2.findSome? (fun k => if condR ro qs p.2 (1 + k) = true then some (D.int ((1 + k : Nat) : Int)) else none) with
          | some d =>
            obtain ⟨k0, hk0, hd⟩ := List.exists_of_findSome?_eq_some ef
            have hd2 : ∃ i : Int, d = .int i := by
              split at hd
              · exact ⟨_, (Option.some.inj hd).symm⟩
              · cases hd
            obtain ⟨i, rfl⟩ := hd2
            have t0 : tCmp .is (eVar 4) (eCon .non) [.val (.lst (ro.map eRou)), .val (labD qs), .own (p.1.map eN), .val (.int (0 + (x : Int))), .val (.int i), .val (.int (1 + (pre2.length : Int)))] = some false := rfl
            rw [Option.some_or]
            refine ⟨[.val (.lst (ro.map eRou)), .val (labD qs), .own (p.1.map eN), .val (.int (0 + (x : Int))), .val (.int i), .val (.int (1 + (pre2.length : Int)))], ?_, _, rfl⟩
            have t4 := ev_ifF (a := sAsg (gName 4) (eVar 5)) (b := sNext) (o := some (.nx [.val (.lst (ro.map eRou)), .val (labD qs), .own (p.1.map eN), .val (.int (0 + (x : Int))), .val (.int i), .val (.int (1 + (pre2.length : Int)))])) (ev_andF (u := tAnd (tCmp .eq (eIx (eIx (bVar 0) (eVar 5)) (eCon (.int 0))) (eIx (bVar 2) (eNeg (eCon (.int 1))))) (tVal (eCall s__law_matches (aCons (eIx (eIx (bVar 0) (eVar 5)) (eCon (.int 1))) (aCons (eVar 1) aNil))))) t0) rfl
            exact t4
          | none =>
            have t0 : tCmp .is (eVar 4) (eCon .non) [.val (.lst (ro.map eRou)), .val (labD qs), .own (p.1.map eN), .val (.int (0 + (x : Int))), .val .non, .val (.int (1 + (pre2.length : Int)))] = some true := rfl
            have t1 : tCmp .eq (eIx (eIx (bVar 0) (eVar 5)) (eCon (.int 0))) (eIx (bVar 2) (eNeg (eCon (.int 1)))) [.val (.lst (ro.map eRou)), .val (labD qs), .own (p.1.map eN), .val (.int (0 + (x : Int))), .val .non, .val (.int (1 + (pre2.length : Int)))] = some (match r.pa with
                | some q => decide (q = ((p.2 : Nat) : Int))
                | none => false) := ev_cmp (b := .int (p.2 : Nat)) (ev_ix (ev_ix rfl rfl hix) rfl rfl) (ev_ix (a := .lst (p.1.map eN)) (b := .int (-1)) rfl rfl (by rw [w3]; exact last_at)) (pa_eq r p.2)
            have t2 : tVal (eCall s__law_matches (aCons (eIx (eIx (bVar 0) (eVar 5)) (eCon (.int 1))) (aCons (eVar 1) aNil))) [.val (.lst (ro.map eRou)), .val (labD qs), .own (p.1.map eN), .val (.int (0 + (x : Int))), .val .non, .val (.int (1 + (pre2.length : Int)))] = some (r.mt.all (matB qs)) :=
              ev_val (ev_call2 (a := .tup (r.mt.map eMat)) (b := labD qs) (ev_ix (ev_ix rfl rfl hix) rfl rfl) rfl law_matches_eq) rfl
            have hcd : condR ro qs p.2 (1 + pre2.length) = ((match r.pa with
              | some q => decide (q = ((p.2 : Nat) : Int))
              | none => false) && r.mt.all (matB qs)) := by unfold condR; rw [hg]
            have t3 := ev_and2 t0 (ev_and2 t1 t2)
            rw [← hcd, Bool.true_and] at t3
            rw [Option.none_or, List.findSome?_cons, List.findSome?_nil]
            cases ec : condR ro qs p.2 (1 + pre2.length) with
            | true =>
              rw [ec] at t3
              refine ⟨[.val (.lst (ro.map eRou)), .val (labD qs), .own (p.1.map eN), .val (.int (0 + (x : Int))), .val (.int (1 + (pre2.length : Int))), .val (.int (1 + (pre2.length : Int)))], ev_ifT t3 (ev_asg rfl), .val (.int (1 + (pre2.length : Int))), ?_⟩
              show [Slot.val (.lst (ro.map eRou)), .val (labD qs), .own (p.1.map eN), .val (.int (0 + (x : Int))), .val (.int (1 + (pre2.length : Int))), .val (.int (1 + (pre2.length : Int)))] = [.val (.lst (ro.map eRou)), .val (labD qs), .own (p.1.map eN), .val (.int (0 + (x : Int))), .val (.int ((1 + pre2.length : Nat) : Int)), _]
              rw [show ((1 + pre2.length : Nat) : Int) = 1 + (pre2.length : Int) by omega]
            | false =>
              rw [ec] at t3
              exact ⟨[.val (.lst (ro.map eRou)), .val (labD qs), .own (p.1.map eN), .val (.int (0 + (x : Int))), .val .non, .val (.int (1 + (pre2.length : Int)))], ev_ifF t3 rfl, .val (.int (1 + (pre2.length : Int))), rfl⟩) ⟨a5, rfl⟩
      rw [find_from (c := condR ro qs p.2) (n := ro.length) (m := 1) (fun k hk => by
        cases q : condR ro qs p.2 k with
        | false => rfl
        | true =>
          have := cond_gt R q
          omega) (by omega)] at e2
      have hit : iRng rng2 (aCons (eCon (.int 1)) (aCons (eBlt .len (aCons (bVar 0) aNil)) aNil)) [.val (.lst (ro.map eRou)), .val (labD qs), .own (p.1.map eN), .val (.int (0 + (x : Int))), .val .non, a5] = some ((List.range (ro.length - 1)).map fun k : Nat => D.int (1 + (k : Int))) := by
        rw [ev_rng2 (i := 1) (j := (ro.length : Int)) rfl (ev_blt1 (d := .lst (ro.map eRou)) rfl (by show some (D.int ((ro.map eRou).length : Nat)) = _; rw [List.length_map])) (by omega) (by omega)]
        rw [show ((ro.length : Int) - 1).toNat = ro.length - 1 by omega]
      have mid : ∀ o, (sIf (tCmp .isNot (eVar 4) (eCon .non)) (sApp 2 (eVar 4)) sNext) ρ2 = o → forTurn (gName 3) (sSeq (sAsg (gName 4) (eCon .non))
          (sSeq (sFor (gName 5) (iRng rng2 (aCons (eCon (.int 1)) (aCons (eBlt .len (aCons (bVar 0) aNil)) aNil)))
            (sIf (tAnd (tCmp .is (eVar 4) (eCon .non)) (tAnd (tCmp .eq (eIx (eIx (bVar 0) (eVar 5)) (eCon (.int 0))) (eIx (bVar 2) (eNeg (eCon (.int 1))))) (tVal (eCall s__law_matches (aCons (eIx (eIx (bVar 0) (eVar 5)) (eCon (.int 1))) (aCons (eVar 1) aNil))))))
              (sAsg (gName 4) (eVar 5))
              sNext))
          (sIf (tCmp .isNot (eVar 4) (eCon .non))
            (sApp 2 (eVar 4))
            sNext))) (D.int (0 + (x : Int))) [.val (.lst (ro.map eRou)), .val (labD qs), .own (p.1.map eN), a3, a4, a5] = o := fun o ho => by
        rw [turn_name]
        have z1 : sAsg (gName 4) (eCon .non) [.val (.lst (ro.map eRou)), .val (labD qs), .own (p.1.map eN), .val (.int (0 + (x : Int))), a4, a5] = some (.nx [.val (.lst (ro.map eRou)), .val (labD qs), .own (p.1.map eN), .val (.int (0 + (x : Int))), .val .non, a5]) := rfl
        exact ev_seq z1 (ev_seq (ev_for hit k2) ho)
      have e3 : (List.range ro.length).find? (condR ro qs p.2) = nxR ro qs p.2 := rfl
      rw [e3] at e2
      unfold stW
      cases en : nxR ro qs p.2 with
      | none =>
        rw [en] at e2
        have e4 : ρ2 = [.val (.lst (ro.map eRou)), .val (labD qs), .own (p.1.map eN), .val (.int (0 + (x : Int))), .val .non, b5] := e2
        refine ⟨[.val (.lst (ro.map eRou)), .val (labD qs), .own (p.1.map eN), .val (.int (0 + (x : Int))), .val .non, b5], mid _ ?_, _, _, _, rfl⟩
        rw [e4]
        exact ev_ifF (b := sNext) (ev_cmp (a := .non) (b := .non) rfl rfl rfl) rfl
      | some j =>
        rw [en] at e2
        have e4 : ρ2 = [.val (.lst (ro.map eRou)), .val (labD qs), .own (p.1.map eN), .val (.int (0 + (x : Int))), .val (.int (j : Nat)), b5] := e2
        refine ⟨[.val (.lst (ro.map eRou)), .val (labD qs), .own ((p.1 ++ [j]).map eN), .val (.int (0 + (x : Int))), .val (.int (j : Nat)), b5], mid _ ?_, _, _, _, rfl⟩
        rw [e4, List.map_append]
        exact ev_ifT (ev_cmp (a := .int (j : Nat)) (b := .non) rfl rfl rfl) (ev_app (d := .int (j : Nat)) (ds := p.1.map eN) rfl rfl (by rw [List.length_map]; omega))) ⟨.no, .no, .no, rfl⟩
  have hle : ro.length ≤ 100000 := by omega
  have hln : eBlt .len (aCons (bVar 0) aNil) [.val (.lst (ro.map eRou)), .val (labD qs), .own [.int 0], .no, .no, .no] = some (.int (ro.length : Nat)) := ev_blt1 (d := .lst (ro.map eRou)) rfl (by show some (D.int ((ro.map eRou).length : Nat)) = _; rw [List.length_map])
  have hit := ev_rng1 hln (rng1_nat hle)
  refine run_rt rfl (ev_seq (ρ1 := [.val (.lst (ro.map eRou)), .val (labD qs), .own [.int 0], .no, .no, .no]) rfl (ev_seq (ev_for hit k1) ?_))
  rw [e1, List.length_range]
  rfl
end
end WF
end
/-! text M11 -/
section
set_option Elab.async false
set_option linter.all false
set_option maxHeartbeats 1000000
/-! The script's cells and draws. -/
namespace WF
open PySem
theorem cell_eq {ns : List Int} {k : Int} (hk : 0 ≤ k) : ∃ v : Int, s__law_cell [.scr ns, .int k] = some (.int v) := by
  have t1 : tCmp .lt (eVar 1) (eBlt .len (aCons (bVar 0) aNil)) (entry 2 [.scr ns, .int k]) = some (decide (k < (ns.length : Int))) := ev_cmp (b := .int (ns.length : Nat)) rfl (ev_blt1 (d := .scr ns) rfl rfl) rfl
  by_cases c : k < (ns.length : Int)
  · rw [decide_eq_true c] at t1
    have hl : k.toNat < ns.length := by omega
    refine ⟨ns[k.toNat], run_rt rfl (ev_seqR (ev_ifT t1 (ev_ret (ev_blt1 (d := .int ns[k.toNat]) (ev_ix rfl rfl ?_) rfl))))⟩
    show (atD ns k).map D.int = _
    unfold atD
    rw [if_pos hk, List.getElem?_eq_getElem hl]
    rfl
  · rw [decide_eq_false c] at t1
    exact ⟨0, run_rt rfl (ev_seq (ev_ifF t1 rfl) rfl)⟩
theorem ev_mul {e1 e2 : SE} {ρ : Env} {a b : Int} (h1 : e1 ρ = some (.int a)) (h2 : e2 ρ = some (.int b)) (hs : small64 b = true) : eBin .mul e1 e2 ρ = some (.int (a * b)) := by
  show (e1 ρ).bind _ = _
  rw [h1]
  show (e2 ρ).bind _ = _
  rw [h2]
  show (if (small64 a || small64 b) = true then some (D.int (a * b)) else none) = _
  rw [hs, Bool.or_true]
  rfl
theorem ev_mul2 {e1 e2 : SE} {ρ : Env} {a b : Int} (h1 : e1 ρ = some (.int a)) (h2 : e2 ρ = some (.int b)) (hs : small64 a = true) : eBin .mul e1 e2 ρ = some (.int (a * b)) := by
  show (e1 ρ).bind _ = _
  rw [h1]
  show (e2 ρ).bind _ = _
  rw [h2]
  show (if (small64 a || small64 b) = true then some (D.int (a * b)) else none) = _
  rw [hs, Bool.true_or]
  rfl
theorem ev_mod {e1 e2 : SE} {ρ : Env} {a b : Int} (h1 : e1 ρ = some (.int a)) (h2 : e2 ρ = some (.int b)) (hb : 0 < b) : eBin .mod e1 e2 ρ = some (.int (a % b)) := by
  show (e1 ρ).bind _ = _
  rw [h1]
  show (e2 ρ).bind _ = _
  rw [h2]
  show (if 0 < b then some (D.int (a % b)) else none) = _
  rw [if_pos hb]
theorem ev_fdiv {e1 e2 : SE} {ρ : Env} {a b : Int} (h1 : e1 ρ = some (.int a)) (h2 : e2 ρ = some (.int b)) (hb : 0 < b ∧ b < 1073741824) : eBin .fdiv e1 e2 ρ = some (.int (a / b)) := by
  show (e1 ρ).bind _ = _
  rw [h1]
  show (e2 ρ).bind _ = _
  rw [h2]
  show (if 0 < b ∧ b < 1073741824 then some (D.int (a / b)) else none) = _
  rw [if_pos hb]
theorem ev_int {e : SE} {ρ : Env} {a : Int} (h : e ρ = some (.int a)) : eBlt .int (aCons e aNil) ρ = some (.int a) := ev_blt1 h rfl
theorem ev_set {i : Nat} {e : SE} {ρ ρ' : Env} {d : D} (h : e ρ = some d) (h2 : ρ.set i (.val d) = ρ') : sAsg (gName i) e ρ = some (.nx ρ') := by
  rw [← h2]
  exact ev_asg h
def In1000 (xs : List Int) : Prop := ∀ x ∈ xs, 0 ≤ x ∧ x < 1000
theorem in1000_snoc {xs : List Int} {v : Int} (h : In1000 xs) : In1000 (xs ++ [v % 1000]) := fun x hx => by
  rcases List.mem_append.mp hx with hx | hx
  · exact h x hx
  · rw [List.mem_singleton] at hx
    rw [hx]
    exact ⟨Int.emod_nonneg _ (by omega), Int.emod_lt_of_pos _ (by omega)⟩
theorem map_snoc {xs : List Int} {v : Int} : xs.map D.int ++ [D.int v] = (xs ++ [v]).map D.int := by rw [List.map_append]; rfl
theorem draws_eq {c : Int} {n : Nat} (hn : n ≤ 40) : ∃ xs : List Int, s__law_draws [.int c, .int (n : Nat)] = some (.lst (xs.map .int)) ∧ xs.length = n ∧ In1000 xs := by
  have s48 : small64 48271 = true := small64_of (by omega) (by omega)
  have s69 : small64 69621 = true := small64_of (by omega) (by omega)
  -- the digits
  have A : ∃ ρ1, (sIf (tCmp .ge (eVar 3) (eBin .pow (eCon (.int 10)) (eCon (.int 18))))
    (sFor (gName 4) (iRng rng1 (aCons (eVar 1) aNil))
      (sIf (tCmp .gt (eVar 3) (eCon (.int 0)))
        (sSeq (sApp 2 (eBin .mod (eBlt .int (aCons (eVar 3) aNil)) (eCon (.int 1000))))
        (sAsg (gName 3) (eBin .fdiv (eVar 3) (eCon (.int 1000)))))
        sNext))
    sNext) [.val (.int c), .val (.int (n : Nat)), .own [], .val (.int c), .no, .no] = some (.nx ρ1) ∧ ∃ xs r a, ρ1 = [.val (.int c), .val (.int (n : Nat)), .own (xs.map .int), .val (.int r), a, .no] ∧ xs.length ≤ n ∧ In1000 xs := by
    have hpow : eBin .pow (eCon (.int 10)) (eCon (.int 18)) [.val (.int c), .val (.int (n : Nat)), .own [], .val (.int c), .no, .no] = some (.int (10 ^ 18)) := by
      show (if (0 : Int) ≤ 18 ∧ (18 : Int) ≤ 1000000 ∧ (10 : Int).natAbs < 2 ^ 64 then some (D.int (10 ^ (18 : Int).toNat)) else none) = _
      rw [if_pos (by decide)]
      rfl
    have t1 : tCmp .ge (eVar 3) (eBin .pow (eCon (.int 10)) (eCon (.int 18))) [.val (.int c), .val (.int (n : Nat)), .own [], .val (.int c), .no, .no] = some (decide ((10 : Int) ^ 18 ≤ c)) := ev_cmp rfl hpow rfl
    cases e : decide ((10 : Int) ^ 18 ≤ c) with
    | false =>
      rw [e] at t1
      exact ⟨_, ev_ifF t1 rfl, [], c, .no, rfl, Nat.zero_le _, fun x hx => by cases hx⟩
    | true =>
      rw [e] at t1
      obtain ⟨ρ1, k1, xs, r, a, e1, h1, h2⟩ := for_inv (f := forTurn (gName 4) (sIf (tCmp .gt (eVar 3) (eCon (.int 0)))
        (sSeq (sApp 2 (eBin .mod (eBlt .int (aCons (eVar 3) aNil)) (eCon (.int 1000))))
        (sAsg (gName 3) (eBin .fdiv (eVar 3) (eCon (.int 1000)))))
        sNext)) (enc := fun k : Nat => D.int (0 + (k : Int)))
        (fun pre ρ => ∃ xs r a, ρ = [.val (.int c), .val (.int (n : Nat)), .own (xs.map .int), .val (.int r), a, .no] ∧ xs.length ≤ pre.length ∧ In1000 xs) (List.range n) [.val (.int c), .val (.int (n : Nat)), .own [], .val (.int c), .no, .no] (by
          rintro pre x post ρ hx ⟨xs, r, a, rfl, h1, h2⟩
          obtain ⟨hx1, hx2⟩ := range_pre hx
          subst hx1
          have hl : (pre ++ [pre.length]).length = pre.length + 1 := by simp
          have t2 : tCmp .gt (eVar 3) (eCon (.int 0)) [.val (.int c), .val (.int (n : Nat)), .own (xs.map .int), .val (.int r), .val (.int (0 + (pre.length : Int))), .no] = some (decide (0 < r)) := rfl
          rw [turn_name]
          cases e2 : decide (0 < r) with
          | false =>
            rw [e2] at t2
            exact ⟨[.val (.int c), .val (.int (n : Nat)), .own (xs.map .int), .val (.int r), .val (.int (0 + (pre.length : Int))), .no], ev_ifF t2 rfl, xs, r, _, rfl, by omega, h2⟩
          | true =>
            rw [e2] at t2
            have z1 : sApp 2 (eBin .mod (eBlt .int (aCons (eVar 3) aNil)) (eCon (.int 1000))) [.val (.int c), .val (.int (n : Nat)), .own (xs.map .int), .val (.int r), .val (.int (0 + (pre.length : Int))), .no] =
                some (.nx [.val (.int c), .val (.int (n : Nat)), .own ((xs ++ [r % 1000]).map .int), .val (.int r), .val (.int (0 + (pre.length : Int))), .no]) := by
              rw [← map_snoc]
              exact ev_app (ds := xs.map .int) (ev_mod (ev_int rfl) rfl (by omega)) rfl (by rw [List.length_map]; omega)
            have z2 : sAsg (gName 3) (eBin .fdiv (eVar 3) (eCon (.int 1000))) [.val (.int c), .val (.int (n : Nat)), .own ((xs ++ [r % 1000]).map .int), .val (.int r), .val (.int (0 + (pre.length : Int))), .no] =
                some (.nx [.val (.int c), .val (.int (n : Nat)), .own ((xs ++ [r % 1000]).map .int), .val (.int (r / 1000)), .val (.int (0 + (pre.length : Int))), .no]) := ev_set (ev_fdiv rfl rfl (by omega)) rfl
            exact ⟨_, ev_ifT t2 (ev_seq z1 z2), xs ++ [r % 1000], r / 1000, _, rfl, by simp; omega, in1000_snoc h2⟩) ⟨[], c, .no, rfl, Nat.le_refl _, fun x hx => by cases hx⟩
      rw [List.length_range] at h1
      exact ⟨ρ1, ev_ifT t1 (ev_for (ev_rng1 (j := (n : Nat)) rfl (rng1_nat (b := n) (by omega))) k1), xs, r, a, e1, h1, h2⟩
  obtain ⟨ρ1, k1, xs, r, a, e1, h1, h2⟩ := A
  obtain ⟨ρ2, k2, ys, b, st, e2, h3, h4, h5⟩ := for_inv (f := forTurn (gName 4) (sSeq (sAsg (gName 5) (eBin .mod (eBlt .int (aCons (eBin .add (eBin .add (eBin .mul (eVar 5) (eCon (.int 48271))) (eBin .mul (eVar 4) (eCon (.int 69621)))) (eCon (.int 7))) aNil)) (eCon (.int 2147483647))))
    (sIf (tCmp .lt (eBlt .len (aCons (bVar 2) aNil)) (bVar 1))
      (sApp 2 (eBin .mod (eBlt .int (aCons (eBin .mod (eBlt .int (aCons (eBin .add (eBin .mul (eVar 5) (eCon (.int 69621))) (eCon (.int 5))) aNil)) (eCon (.int 2147483629))) aNil)) (eCon (.int 1000))))
      sNext))) (enc := fun k : Nat => D.int (0 + (k : Int)))
    (fun pre ρ => ∃ ys b st, ρ = [.val (.int c), .val (.int (n : Nat)), .own (ys.map .int), .val (.int r), b, .val (.int st)] ∧ ys.length ≤ n ∧ (pre.length ≤ ys.length) ∧ In1000 ys) (List.range n) [.val (.int c), .val (.int (n : Nat)), .own (xs.map .int), .val (.int r), a, .val (.int ((c * 48271 + 11) % 2147483647))] (by
      rintro pre x post ρ hx ⟨ys, b, st, rfl, g1, g2, g3⟩
      obtain ⟨hx1, hx2⟩ := range_pre hx
      subst hx1
      have hl : (pre ++ [pre.length]).length = pre.length + 1 := by simp
      rw [turn_name]
      generalize hst : (st * 48271 + (0 + (pre.length : Int)) * 69621 + 7) % 2147483647 = st2
      have z1 : sAsg (gName 5) (eBin .mod (eBlt .int (aCons (eBin .add (eBin .add (eBin .mul (eVar 5) (eCon (.int 48271))) (eBin .mul (eVar 4) (eCon (.int 69621)))) (eCon (.int 7))) aNil)) (eCon (.int 2147483647))) [.val (.int c), .val (.int (n : Nat)), .own (ys.map .int), .val (.int r), .val (.int (0 + (pre.length : Int))), .val (.int st)] =
          some (.nx [.val (.int c), .val (.int (n : Nat)), .own (ys.map .int), .val (.int r), .val (.int (0 + (pre.length : Int))), .val (.int st2)]) := by
        rw [← hst]
        exact ev_set (ev_mod (ev_int (ev_add (ev_add (ev_mul rfl rfl s48) (ev_mul rfl rfl s69)) rfl)) rfl (by omega)) rfl
      have t2 : tCmp .lt (eBlt .len (aCons (bVar 2) aNil)) (bVar 1) [.val (.int c), .val (.int (n : Nat)), .own (ys.map .int), .val (.int r), .val (.int (0 + (pre.length : Int))), .val (.int st2)] = some (decide ((ys.length : Int) < (n : Int))) :=
        ev_cmp (a := .int (ys.length : Nat)) (ev_blt1 (d := .lst (ys.map .int)) rfl (by show some (D.int ((ys.map D.int).length : Nat)) = _; rw [List.length_map])) rfl rfl
      by_cases q : ys.length < n
      · rw [decide_eq_true (by omega)] at t2
        have z2 : sApp 2 (eBin .mod (eBlt .int (aCons (eBin .mod (eBlt .int (aCons (eBin .add (eBin .mul (eVar 5) (eCon (.int 69621))) (eCon (.int 5))) aNil)) (eCon (.int 2147483629))) aNil)) (eCon (.int 1000))) [.val (.int c), .val (.int (n : Nat)), .own (ys.map .int), .val (.int r), .val (.int (0 + (pre.length : Int))), .val (.int st2)] =
            some (.nx [.val (.int c), .val (.int (n : Nat)), .own ((ys ++ [(st2 * 69621 + 5) % 2147483629 % 1000]).map .int), .val (.int r), .val (.int (0 + (pre.length : Int))), .val (.int st2)]) := by
          rw [← map_snoc]
          exact ev_app (ds := ys.map .int) (ev_mod (ev_int (ev_mod (ev_int (ev_add (ev_mul rfl rfl s69) rfl)) rfl (by omega))) rfl (by omega)) rfl (by rw [List.length_map]; omega)
        exact ⟨_, ev_seq z1 (ev_ifT t2 z2), ys ++ [(st2 * 69621 + 5) % 2147483629 % 1000], _, st2, rfl, by simp; omega, by simp; omega, in1000_snoc g3⟩
      · rw [decide_eq_false (by omega)] at t2
        exact ⟨[.val (.int c), .val (.int (n : Nat)), .own (ys.map .int), .val (.int r), .val (.int (0 + (pre.length : Int))), .val (.int st2)], ev_seq z1 (ev_ifF t2 rfl), ys, _, st2, rfl, g1, by omega, g3⟩) ⟨xs, a, _, rfl, h1, Nat.zero_le _, h2⟩
  rw [List.length_range] at h4
  refine ⟨ys, run_rt rfl (ev_seq (ρ1 := [.val (.int c), .val (.int (n : Nat)), .own [], .no, .no, .no]) rfl (ev_seq (ρ1 := [.val (.int c), .val (.int (n : Nat)), .own [], .val (.int c), .no, .no]) rfl (ev_seq k1 ?_))), by omega, h5⟩
  rw [e1]
  refine ev_seq (ρ1 := [.val (.int c), .val (.int (n : Nat)), .own (xs.map .int), .val (.int r), a, .val (.int ((c * 48271 + 11) % 2147483647))]) (ev_set (ev_mod (ev_int (ev_add (ev_mul (ev_int rfl) rfl s48) rfl)) rfl (by omega)) rfl) (ev_seq (ev_for (ev_rng1 (j := (n : Nat)) rfl (rng1_nat (b := n) (by omega))) k2) ?_)
  rw [e2]
  rfl
end WF
end
/-! text M14 -/
section
set_option Elab.async false
set_option linter.all false
set_option maxHeartbeats 1000000
/-! The law's own readings: muted, bad. -/
namespace WF
open PySem
section
variable {w : Wor}
theorem turn_tup {is : List Nat} {s : SS} {d : D} {ρ ρ' : Env} {o : Option Out} (h : gTup is d ρ = some ρ') (k : s ρ' = o) : forTurn (gTup is) s d ρ = o := by
  show (gTup is d ρ).bind s = o
  rw [h]
  exact k
theorem ev_fld {e : SE} {ρ : Env} {f : Str} {d : D} {r : Option D} (h : e ρ = some d) (k : fldD d f = r) : eFld e f ρ = r := by
  show (e ρ).bind _ = r
  rw [h]
  exact k
theorem ev_chain {o o' : Cop} {e1 e2 e3 : SE} {ρ : Env} {a b c : D} {x y : Bool} (h1 : e1 ρ = some a) (h2 : e2 ρ = some b) (h3 : e3 ρ = some c) (k1 : cmpD o a b = some x) (k2 : cmpD o' b c = some y) : tChain o e1 e2 (tLast o' e3) ρ = some (x && y) := by
  show (e1 ρ).bind _ = _
  rw [h1]
  show (e2 ρ).bind _ = _
  rw [h2]
  show (cmpD o a b).bind _ = _
  rw [k1]
  cases x with
  | false => rfl
  | true =>
    show (e3 ρ).bind _ = _
    rw [h3]
    exact k2
theorem law_muted_eq (B : WorB w) {mu : List Str} {t : Int} (hm : ∀ n ∈ mu, n ∈ w.wi.map (·.nm)) : s__law_muted [eWor w, .tup (mu.map .str), .int t] = some (.bl (mutedB w mu t)) := by
  have hw : 0 < w.wk := by have := B.wk.w0; omega
  have A := for_find (f := forTurn (gName 3) (sFor (gTup [4, 5]) (iSeq (eIx (eCall s__law_find (aCons (eFld (eVar 0) "windows") (aCons (eVar 3) aNil))) (eCon (.int 1))))
      (sIf (tChain .le (eVar 4) (eBin .mod (eBlt .int (aCons (eVar 2) aNil)) (eFld (eVar 0) "week")) (tLast .lt (bVar 5)))
        (sRet (eCon (.bl true)))
        sNext))) (enc := D.str) (fun ρ => ∃ a b c, ρ = [.val (eWor w), .val (.tup (mu.map .str)), .val (.int t), a, b, c]) (fun n => if inS w.wk (winSp w n) t = true then some (.bl true) else none) mu [.val (eWor w), .val (.tup (mu.map .str)), .val (.int t), .no, .no, .no] (by
    rintro n hn ρ ⟨a, b, c, rfl⟩
    obtain ⟨x, hx, e1, _, e2⟩ := win_eq (hm n hn)
    have A2 := for_find (f := forTurn (gTup [4, 5]) (sIf (tChain .le (eVar 4) (eBin .mod (eBlt .int (aCons (eVar 2) aNil)) (eFld (eVar 0) "week")) (tLast .lt (bVar 5))) (sRet (eCon (.bl true))) sNext)) (enc := eSpan)
      (fun ρ => ∃ b c, ρ = [.val (eWor w), .val (.tup (mu.map .str)), .val (.int t), .val (.str n), b, c]) (fun s => if (decide (s.1 ≤ t % w.wk) && decide (t % w.wk < s.2)) = true then some (.bl true) else none) x.sp [.val (eWor w), .val (.tup (mu.map .str)), .val (.int t), .val (.str n), b, c] (by
        rintro s hs ρ ⟨b, c, rfl⟩
        have t1 : tChain .le (eVar 4) (eBin .mod (eBlt .int (aCons (eVar 2) aNil)) (eFld (eVar 0) "week")) (tLast .lt (bVar 5)) [.val (eWor w), .val (.tup (mu.map .str)), .val (.int t), .val (.str n), .val (.int s.1), .val (.int s.2)] = some (decide (s.1 ≤ t % w.wk) && decide (t % w.wk < s.2)) :=
          ev_chain (a := .int s.1) (b := .int (t % w.wk)) (c := .int s.2) rfl (ev_mod (ev_int rfl) (ev_fld rfl (f_week w)) hw) rfl rfl rfl
        cases e : (decide (s.1 ≤ t % w.wk) && decide (t % w.wk < s.2)) with
        | true =>
          rw [e] at t1
          exact ⟨fun d q => (by cases q; exact turn_tup rfl (ev_ifT t1 rfl)), fun q => (by cases q)⟩
        | false =>
          rw [e] at t1
          exact ⟨fun d q => (by cases q), fun _ => ⟨_, turn_tup rfl (ev_ifF (b := sNext) t1 rfl), _, _, rfl⟩⟩) ⟨_, _, rfl⟩
    rw [findSome_any] at A2
    have hit : iSeq (eIx (eCall s__law_find (aCons (eFld (eVar 0) "windows") (aCons (eVar 3) aNil))) (eCon (.int 1))) [.val (eWor w), .val (.tup (mu.map .str)), .val (.int t), .val (.str n), b, c] = some (x.sp.map eSpan) :=
      ev_seqI (d := .tup (x.sp.map eSpan)) (ev_ix (ev_call2 (a := .lst (w.wi.map eWin)) (b := .str n) (ev_fld rfl (f_win w)) rfl e2) rfl rfl) rfl
    rw [turn_name]
    have hin : inS w.wk (winSp w n) t = x.sp.any (fun s => decide (s.1 ≤ t % w.wk) && decide (t % w.wk < s.2)) := by rw [e1]; rfl
    rw [hin]
    cases e : x.sp.any (fun s => decide (s.1 ≤ t % w.wk) && decide (t % w.wk < s.2)) with
    | true =>
      rw [e] at A2
      exact ⟨fun d q => (by cases q; exact ev_for hit (A2.1 _ rfl)), fun q => (by cases q)⟩
    | false =>
      rw [e] at A2
      obtain ⟨ρ', h1, b', c', h2⟩ := A2.2 rfl
      exact ⟨fun d q => (by cases q), fun _ => ⟨ρ', ev_for hit h1, _, b', c', h2⟩⟩) ⟨_, _, _, rfl⟩
  rw [findSome_any] at A
  unfold mutedB
  cases e : mu.any (fun n => inS w.wk (winSp w n) t) with
  | true =>
    rw [e] at A
    exact run_rt rfl (ev_seqR (ev_for (ds := mu.map .str) rfl (A.1 _ rfl)))
  | false =>
    rw [e] at A
    obtain ⟨ρ', h1, _⟩ := A.2 rfl
    exact run_rt rfl (ev_seq (ev_for (ds := mu.map .str) rfl h1) rfl)
def badB (w : Wor) (s : Stg) (t : Int) : Bool := !mutedB w s.mu t && !(polLv w s.po).any fun l => lvSure w t l
theorem bad_eq (B : WorB w) {s : Stg} (S : StgB w s) {t : Int} : s__law_is_bad [eWor w, eStg s, .int t] = some (.bl (badB w s t)) := by
  obtain ⟨x, hx, e1, _, e2⟩ := pol_eq S.po
  obtain ⟨b1, b2, b3⟩ := B.pb x hx
  have t1 : tVal (eCall s__law_muted (aCons (eVar 0) (aCons (eIx (bVar 1) (eCon (.int 4))) (aCons (eVar 2) aNil)))) (entry 6 [eWor w, eStg s, .int t]) = some (mutedB w s.mu t) :=
    ev_val (ev_call3 (a := eWor w) (b := .tup (s.mu.map .str)) (c := .int t) rfl rfl rfl (law_muted_eq B S.mu)) rfl
  unfold badB
  cases hm : mutedB w s.mu t with
  | true =>
    rw [hm] at t1
    exact run_rt rfl (ev_seqR (ev_ifT t1 rfl))
  | false =>
    rw [hm] at t1
    have A := for_find (f := forTurn (gTup [3, 4]) (sSeq (sAsg (gName 5) (eCall s__law_on (aCons (eFld (eVar 0) "week") (aCons (eCall s__law_find (aCons (eFld (eVar 0) "schedules") (aCons (eVar 3) aNil))) (aCons (eBin .add (eVar 2) (eVar 4)) aNil)))))
      (sIf (tAnd (tCmp .isNot (eVar 5) (eCon .non)) (tCmp .gt (eIx (eCall s__law_find (aCons (eFld (eVar 0) "people") (aCons (eVar 5) aNil))) (eCon (.int 1))) (eFld (eVar 0) "down")))
        (sRet (eCon (.bl false)))
        sNext))) (enc := eLev) (fun ρ => ∃ a b c, ρ = [.val (eWor w), .val (eStg s), .val (.int t), a, b, c]) (fun l => if lvSure w t l = true then some (.bl false) else none) x.lv [.val (eWor w), .val (eStg s), .val (.int t), .no, .no, .no] (by
      rintro l hl ρ ⟨a, b, c, rfl⟩
      have hl2 := (b3 l hl).1
      obtain ⟨_, c1, c3⟩ := lev_eq (t := t) B hl2
      have first : sAsg (gName 5) (eCall s__law_on (aCons (eFld (eVar 0) "week") (aCons (eCall s__law_find (aCons (eFld (eVar 0) "schedules") (aCons (eVar 3) aNil))) (aCons (eBin .add (eVar 2) (eVar 4)) aNil)))) [.val (eWor w), .val (eStg s), .val (.int t), .val (.str l.1), .val (.int l.2), c] =
          some (.nx [.val (eWor w), .val (eStg s), .val (.int t), .val (.str l.1), .val (.int l.2), .val (eO (onC w.wk (schOf w l.1) (t + l.2)))]) :=
        ev_set (ev_call3 (a := .int w.wk) (b := eSch (schOf w l.1)) (c := .int (t + l.2)) (ev_fld rfl (f_week w)) (ev_call2 (a := .lst (w.sc.map eSch)) (b := .str l.1) (ev_fld rfl (f_sch w)) rfl (sch_eq hl2).2.2) (ev_add rfl rfl) c1) rfl
      unfold lvSure
      cases ec : onC w.wk (schOf w l.1) (t + l.2) with
      | none =>
        rw [ec] at first
        have t2 : tAnd (tCmp .isNot (eVar 5) (eCon .non)) (tCmp .gt (eIx (eCall s__law_find (aCons (eFld (eVar 0) "people") (aCons (eVar 5) aNil))) (eCon (.int 1))) (eFld (eVar 0) "down")) [.val (eWor w), .val (eStg s), .val (.int t), .val (.str l.1), .val (.int l.2), .val .non] = some false := ev_andF rfl
        exact ⟨fun d q => (by cases q), fun _ => ⟨_, turn_tup rfl (ev_seq first (ev_ifF (b := sNext) t2 rfl)), _, _, _, rfl⟩⟩
      | some p =>
        rw [ec] at first
        obtain ⟨y, hy, e3, _, e4⟩ := per_eq (c3 p ec)
        have t2 : tAnd (tCmp .isNot (eVar 5) (eCon .non)) (tCmp .gt (eIx (eCall s__law_find (aCons (eFld (eVar 0) "people") (aCons (eVar 5) aNil))) (eCon (.int 1))) (eFld (eVar 0) "down")) [.val (eWor w), .val (eStg s), .val (.int t), .val (.str l.1), .val (.int l.2), .val (.str p)] = some (sureB w p) := by
          refine ev_andT rfl (ev_cmp (a := .int y.2) (b := .int w.dn) (ev_ix (ev_call2 (a := .lst (w.pe.map ePer)) (b := .str p) (ev_fld rfl (f_people w)) rfl e4) rfl rfl) (ev_fld rfl (f_dwn w)) ?_)
          rw [e3]
          rfl
        show (∀ d, (if sureB w p = true then some (D.bl false) else none) = some d → _) ∧ ((if sureB w p = true then some (D.bl false) else none) = none → _)
        cases es : sureB w p with
        | true =>
          rw [es] at t2
          exact ⟨fun d q => (by cases q; exact turn_tup rfl (ev_seq first (ev_ifT t2 rfl))), fun q => (by cases q)⟩
        | false =>
          rw [es] at t2
          exact ⟨fun d q => (by cases q), fun _ => ⟨_, turn_tup rfl (ev_seq first (ev_ifF (b := sNext) t2 rfl)), _, _, _, rfl⟩⟩) ⟨_, _, _, rfl⟩
    rw [findSome_any] at A
    have hit : iSeq (eIx (eCall s__law_find (aCons (eFld (eVar 0) "policies") (aCons (eIx (bVar 1) (eCon (.int 5))) aNil))) (eCon (.int 1))) (entry 6 [eWor w, eStg s, .int t]) = some (x.lv.map eLev) :=
      ev_seqI (d := .tup (x.lv.map eLev)) (ev_ix (ev_call2 (a := .lst (w.po.map ePol)) (b := .str s.po) (ev_fld rfl (f_pol w)) rfl e2) rfl rfl) rfl
    rw [e1]
    cases ea : x.lv.any (fun l => lvSure w t l) with
    | true =>
      rw [ea] at A
      exact run_rt rfl (ev_seq (ev_ifF (b := sNext) t1 rfl) (ev_seqR (ev_for hit (A.1 _ rfl))))
    | false =>
      rw [ea] at A
      obtain ⟨ρ', h1, _⟩ := A.2 rfl
      exact run_rt rfl (ev_seq (ev_ifF (b := sNext) t1 rfl) (ev_seq (ev_for hit h1) rfl))
/-- the law's common: saturating -/
def SatOk (C M : Nat) : Prop := 1 ≤ C ∧ ((C ≤ 2000 ∧ C = M) ∨ (2000 < C ∧ 2000 < M))
theorem lcm_le_l {a b : Nat} (ha : 1 ≤ a) (hb : 1 ≤ b) : a ≤ Nat.lcm a b := Nat.le_of_dvd (Nat.lcm_pos ha hb) (Nat.dvd_lcm_left a b)
theorem lcm_le_r {a b : Nat} (ha : 1 ≤ a) (hb : 1 ≤ b) : b ≤ Nat.lcm a b := Nat.le_of_dvd (Nat.lcm_pos ha hb) (Nat.dvd_lcm_right a b)
theorem law1_eq (B : WorB w) (R : RoB w.ro) (hl : w.ro.length ≤ 100) (h0 : 0 < w.ro.length) {ns : List Int} {qs : List (Str × Str)} {nm wo dr : D} {x14 x15 x16 x17 : Slot} :
    ∃ (more : List Int) (bg : Int) (r : Rou) (i : Nat) (C : Nat) (a11 a12 a13 : Slot), more.length = 6 ∧ In1000 more ∧ 0 ≤ bg ∧ bg < 12 ∧ w.ro[i]? = some r ∧ s_end_of [.lst (w.ro.map eRou), labD qs] = some (.int (i : Nat)) ∧ SatOk C (horM w r.se) ∧
      b_law_1 [.val (.scr ns), .val (eWor w), .val nm, .val wo, .val dr, .val (labD qs), .no, .no, .no, .no, .no, .no, .no, .no, .no, .no, .no, .no] =
        some (.nx [.val (.scr ns), .val (eWor w), .val nm, .val wo, .val dr, .val (labD qs), .val (.lst (more.map .int)), .val (.int bg), .val (eStg r.se), .val (.int (C : Nat)), .val (.int (lvB w (polLv w r.se.po) bg)), a11, a12, a13, .no, .no, .no, .no]) := by
  obtain ⟨v, hv⟩ := cell_eq (ns := ns) (k := 13) (by omega)
  obtain ⟨more, m1, m2, m3⟩ := draws_eq (c := v) (n := 6) (by omega)
  have hm0 : atD (more.map D.int) 0 = some (.int more[0]) := by
    unfold atD
    rw [if_pos (by omega)]
    show (more.map D.int)[0]? = _
    rw [List.getElem?_map, List.getElem?_eq_getElem (by omega)]
    rfl
  generalize hbg : more[0] % 12 = bg
  have hb0 : 0 ≤ bg ∧ bg < 12 := by
    rw [← hbg]
    exact ⟨Int.emod_nonneg _ (by omega), Int.emod_lt_of_pos _ (by omega)⟩
  have hW := itW_ok (qs := qs) R w.ro.length (p := ([0], 0)) ⟨h0, by simp, [], rfl⟩
  have hend := end_eq (qs := qs) R hl h0
  have hway := law_way_eq (qs := qs) R hl h0
  generalize itW w.ro qs w.ro.length ([0], 0) = p at hW hend hway
  obtain ⟨w1, _, xs, w3⟩ := hW
  have hr := List.getElem?_eq_getElem w1
  generalize w.ro[p.2] = r at hr
  have S := B.rb r (List.mem_of_getElem? hr)
  obtain ⟨x, hx, e1, _, e2⟩ := pol_eq S.po
  have hb := (pol_ok B S).1
  obtain ⟨ρ1, k1, C, a11, a12, a13, h1, hC⟩ := for_inv (f := forTurn (gName 11) (sSeq (sAsg (gName 12) (eCall s__law_find (aCons (eFld (eVar 1) "schedules") (aCons (eIx (bVar 11) (eCon (.int 0))) aNil))))
    (sSeq (sAsg (gName 13) (eCall s__law_period (aCons (eFld (eVar 1) "week") (aCons (eVar 12) aNil))))
    (sSeq (sIf (tOr (tCmp .gt (eVar 9) (eCon (.int 2000))) (tCmp .gt (eVar 13) (eCon (.int 2000))))
      (sAsg (gName 9) (eCon (.int 2001)))
      (sAsg (gName 9) (eCall s__law_lcm (aCons (eVar 9) (aCons (eVar 13) aNil)))))
    (sAsg (gName 10) (eBlt .max (aCons (eVar 10) (aCons (eCall s__law_settled (aCons (eVar 12) aNil)) aNil)))))))) (enc := eLev)
    (fun pre ρ => ∃ (C : Nat) (a11 a12 a13 : Slot), ρ = [.val (.scr ns), .val (eWor w), .val nm, .val wo, .val dr, .val (labD qs), .val (.lst (more.map .int)), .val (.int bg), .val (eStg r.se), .val (.int (C : Nat)), .val (.int (lvB w pre bg)), a11, a12, a13, .no, .no, .no, .no] ∧ SatOk C (lvM w pre)) (polLv w r.se.po)
    [.val (.scr ns), .val (eWor w), .val nm, .val wo, .val dr, .val (labD qs), .val (.lst (more.map .int)), .val (.int bg), .val (eStg r.se), .val (.int 1), .val (.int bg), .no, .no, .no, .no, .no, .no, .no] (by
      rintro pre l post ρ e ⟨C, a11, a12, a13, rfl, hC⟩
      have hl2 := (hb l (by rw [e]; simp)).1
      obtain ⟨c1, _, c2⟩ := sch_eq hl2
      obtain ⟨p1, p2⟩ := perN_ok B.wk (B.sb _ c1)
      obtain ⟨q1, q2⟩ := lvM_ok B pre 1 (fun y hy => (hb y (by rw [e]; exact List.mem_append_left _ hy)).1) (Nat.one_dvd _) (Nat.le_refl _)
      have hM : lvM w (pre ++ [l]) = Nat.lcm (lvM w pre) (perN w.wk (schOf w l.1)) := by unfold lvM; rw [List.foldl_append]; rfl
      have hB : lvB w (pre ++ [l]) bg = mx (lvB w pre bg) (setl (schOf w l.1)) := by unfold lvB; rw [List.foldl_append]; rfl
      have q3 : 1 ≤ lvM w pre := q2
      rw [hM, hB, turn_name]
      have hper := law_period_eq B.wk (B.sb _ c1)
      have hset := law_settled_eq (s := schOf w l.1)
      generalize perN w.wk (schOf w l.1) = p at p2 hper
      generalize lvM w pre = M at hC q3
      have z1 : sAsg (gName 12) (eCall s__law_find (aCons (eFld (eVar 1) "schedules") (aCons (eIx (bVar 11) (eCon (.int 0))) aNil))) [.val (.scr ns), .val (eWor w), .val nm, .val wo, .val dr, .val (labD qs), .val (.lst (more.map .int)), .val (.int bg), .val (eStg r.se), .val (.int (C : Nat)), .val (.int (lvB w pre bg)), .val (eLev l), a12, a13, .no, .no, .no, .no] =
          some (.nx [.val (.scr ns), .val (eWor w), .val nm, .val wo, .val dr, .val (labD qs), .val (.lst (more.map .int)), .val (.int bg), .val (eStg r.se), .val (.int (C : Nat)), .val (.int (lvB w pre bg)), .val (eLev l), .val (eSch (schOf w l.1)), a13, .no, .no, .no, .no]) :=
        ev_set (ev_call2 (a := .lst (w.sc.map eSch)) (b := .str l.1) (ev_fld rfl (f_sch w)) (ev_ix rfl rfl rfl) c2) rfl
      have z2 : sAsg (gName 13) (eCall s__law_period (aCons (eFld (eVar 1) "week") (aCons (eVar 12) aNil))) [.val (.scr ns), .val (eWor w), .val nm, .val wo, .val dr, .val (labD qs), .val (.lst (more.map .int)), .val (.int bg), .val (eStg r.se), .val (.int (C : Nat)), .val (.int (lvB w pre bg)), .val (eLev l), .val (eSch (schOf w l.1)), a13, .no, .no, .no, .no] =
          some (.nx [.val (.scr ns), .val (eWor w), .val nm, .val wo, .val dr, .val (labD qs), .val (.lst (more.map .int)), .val (.int bg), .val (eStg r.se), .val (.int (C : Nat)), .val (.int (lvB w pre bg)), .val (eLev l), .val (eSch (schOf w l.1)), .val (.int (p : Nat)), .no, .no, .no, .no]) :=
        ev_set (ev_call2 (a := .int w.wk) (b := eSch (schOf w l.1)) (ev_fld rfl (f_week w)) rfl hper) rfl
      have t1 : tOr (tCmp .gt (eVar 9) (eCon (.int 2000))) (tCmp .gt (eVar 13) (eCon (.int 2000))) [.val (.scr ns), .val (eWor w), .val nm, .val wo, .val dr, .val (labD qs), .val (.lst (more.map .int)), .val (.int bg), .val (eStg r.se), .val (.int (C : Nat)), .val (.int (lvB w pre bg)), .val (eLev l), .val (eSch (schOf w l.1)), .val (.int (p : Nat)), .no, .no, .no, .no] = some (decide (2000 < C ∨ 2000 < p)) := by
        have u1 : tCmp .gt (eVar 9) (eCon (.int 2000)) [.val (.scr ns), .val (eWor w), .val nm, .val wo, .val dr, .val (labD qs), .val (.lst (more.map .int)), .val (.int bg), .val (eStg r.se), .val (.int (C : Nat)), .val (.int (lvB w pre bg)), .val (eLev l), .val (eSch (schOf w l.1)), .val (.int (p : Nat)), .no, .no, .no, .no] = some (decide ((2000 : Int) < (C : Int))) := rfl
        have u2 : tCmp .gt (eVar 13) (eCon (.int 2000)) [.val (.scr ns), .val (eWor w), .val nm, .val wo, .val dr, .val (labD qs), .val (.lst (more.map .int)), .val (.int bg), .val (eStg r.se), .val (.int (C : Nat)), .val (.int (lvB w pre bg)), .val (eLev l), .val (eSch (schOf w l.1)), .val (.int (p : Nat)), .no, .no, .no, .no] = some (decide ((2000 : Int) < (p : Int))) := rfl
        by_cases c3 : 2000 < C
        · rw [decide_eq_true (by omega)] at u1
          rw [decide_eq_true (.inl c3)]
          exact ev_orT u1
        · rw [decide_eq_false (by omega)] at u1
          rw [ev_orF u1 u2]
          by_cases c4 : 2000 < p
          · rw [decide_eq_true (by omega), decide_eq_true (.inr c4)]
          · rw [decide_eq_false (by omega), decide_eq_false (by omega)]
      have z4 : ∀ C2 : Nat, sAsg (gName 10) (eBlt .max (aCons (eVar 10) (aCons (eCall s__law_settled (aCons (eVar 12) aNil)) aNil))) [.val (.scr ns), .val (eWor w), .val nm, .val wo, .val dr, .val (labD qs), .val (.lst (more.map .int)), .val (.int bg), .val (eStg r.se), .val (.int (C2 : Nat)), .val (.int (lvB w pre bg)), .val (eLev l), .val (eSch (schOf w l.1)), .val (.int (p : Nat)), .no, .no, .no, .no] =
          some (.nx [.val (.scr ns), .val (eWor w), .val nm, .val wo, .val dr, .val (labD qs), .val (.lst (more.map .int)), .val (.int bg), .val (eStg r.se), .val (.int (C2 : Nat)), .val (.int (mx (lvB w pre bg) (setl (schOf w l.1)))), .val (eLev l), .val (eSch (schOf w l.1)), .val (.int (p : Nat)), .no, .no, .no, .no]) := fun C2 =>
        ev_set (ev_blt2 (a := .int (lvB w pre bg)) (b := .int (setl (schOf w l.1))) rfl (ev_call1 (d := eSch (schOf w l.1)) rfl hset) rfl) rfl
      by_cases c3 : 2000 < C ∨ 2000 < p
      · rw [decide_eq_true c3] at t1
        obtain ⟨c2001, hc⟩ : ∃ c : Nat, c = 2001 := ⟨2001, rfl⟩
        have hci : (2001 : Int) = (c2001 : Int) := by omega
        refine ⟨_, ev_seq z1 (ev_seq z2 (ev_seq (ev_ifT t1 (ev_set (d := .int (c2001 : Int)) (by rw [hci]; rfl) rfl)) (z4 c2001))), c2001, _, _, _, rfl, by omega, .inr ⟨by omega, ?_⟩⟩
        have g1 := lcm_le_l q3 p2
        have g2 := lcm_le_r q3 p2
        rcases hC.2 with ⟨a, b⟩ | ⟨a, b⟩ <;> omega
      · rw [decide_eq_false c3] at t1
        refine ⟨_, ev_seq z1 (ev_seq z2 (ev_seq (ev_ifF t1 (ev_set (d := .int (Nat.lcm C p : Nat)) (ev_call2 (a := .int (C : Nat)) (b := .int (p : Nat)) rfl rfl (law_lcm_eq hC.1 p2 (by omega))) rfl)) (z4 (Nat.lcm C p)))), Nat.lcm C p, _, _, _, rfl, Nat.lcm_pos hC.1 p2, ?_⟩
        rcases hC.2 with ⟨a, b⟩ | ⟨a, b⟩
        · rw [b]
          omega
        · omega) ⟨1, .no, .no, .no, rfl, by omega, .inl ⟨by omega, rfl⟩⟩
  obtain ⟨q1, q2⟩ := lvM_ok B (polLv w r.se.po) 1 (fun y hy => (hb y hy).1) (Nat.one_dvd _) (Nat.le_refl _)
  have q3 : 1 ≤ lvM w (polLv w r.se.po) := q2
  -- the week
  have hfin : ∃ C2 : Nat, SatOk C2 (horM w r.se) ∧ (sIf (tAnd (tCmp .gt (eBlt .len (aCons (eIx (bVar 8) (eCon (.int 4))) aNil)) (eCon (.int 0))) (tCmp .le (eVar 9) (eCon (.int 2000))))
      (sAsg (gName 9) (eCall s__law_lcm (aCons (eVar 9) (aCons (eFld (eVar 1) "week") aNil)))) sNext) ρ1 = some (.nx [.val (.scr ns), .val (eWor w), .val nm, .val wo, .val dr, .val (labD qs), .val (.lst (more.map .int)), .val (.int bg), .val (eStg r.se), .val (.int (C2 : Nat)), .val (.int (lvB w (polLv w r.se.po) bg)), a11, a12, a13, .no, .no, .no, .no]) := by
    rw [h1]
    have u1 : tCmp .gt (eBlt .len (aCons (eIx (bVar 8) (eCon (.int 4))) aNil)) (eCon (.int 0)) [.val (.scr ns), .val (eWor w), .val nm, .val wo, .val dr, .val (labD qs), .val (.lst (more.map .int)), .val (.int bg), .val (eStg r.se), .val (.int (C : Nat)), .val (.int (lvB w (polLv w r.se.po) bg)), a11, a12, a13, .no, .no, .no, .no] = some (!r.se.mu.isEmpty) := by
      refine ev_cmp (a := .int (r.se.mu.length : Nat)) (b := .int 0) (ev_blt1 (d := .tup (r.se.mu.map .str)) (ev_ix rfl rfl rfl) (by show some (D.int ((r.se.mu.map D.str).length : Nat)) = _; rw [List.length_map])) rfl ?_
      show some (decide ((0 : Int) < ((r.se.mu.length : Nat) : Int))) = _
      cases r.se.mu with
      | nil => rfl
      | cons a b => rw [decide_eq_true (by rw [List.length_cons]; omega)]; rfl
    have u2 : tCmp .le (eVar 9) (eCon (.int 2000)) [.val (.scr ns), .val (eWor w), .val nm, .val wo, .val dr, .val (labD qs), .val (.lst (more.map .int)), .val (.int bg), .val (eStg r.se), .val (.int (C : Nat)), .val (.int (lvB w (polLv w r.se.po) bg)), a11, a12, a13, .no, .no, .no, .no] = some (decide ((C : Int) ≤ 2000)) := rfl
    have u3 := ev_and2 u1 u2
    unfold horM
    have hwk := B.wk.w0
    have hwk1 := B.wk.w1
    cases hmu : r.se.mu.isEmpty with
    | true =>
      rw [hmu] at u3
      exact ⟨C, hC, ev_ifF (b := sNext) u3 rfl⟩
    | false =>
      rw [hmu] at u3
      by_cases c3 : C ≤ 2000
      · rw [decide_eq_true (by omega)] at u3
        refine ⟨Nat.lcm C w.wk.toNat, ⟨Nat.lcm_pos hC.1 (by omega), ?_⟩, ev_ifT u3 (ev_set (ev_call2 (a := .int (C : Nat)) (b := .int (w.wk.toNat : Nat)) rfl (by rw [B.wk.cast]; exact ev_fld rfl (f_week w)) (law_lcm_eq hC.1 (by omega) (by omega))) rfl)⟩
        rw [if_neg Bool.false_ne_true]
        rcases hC.2 with ⟨a, b⟩ | ⟨a, b⟩
        · rw [b]
          omega
        · omega
      · rw [decide_eq_false (by omega)] at u3
        refine ⟨C, ⟨hC.1, .inr ⟨by omega, ?_⟩⟩, ev_ifF (b := sNext) u3 rfl⟩
        rw [if_neg Bool.false_ne_true]
        have g1 := lcm_le_l q3 (show 1 ≤ w.wk.toNat by omega)
        rcases hC.2 with ⟨a, b⟩ | ⟨a, b⟩ <;> omega
  obtain ⟨C2, hC2, hfin⟩ := hfin
  refine ⟨more, bg, r, p.2, C2, a11, a12, a13, m2, m3, hb0.1, hb0.2, hr, hend, hC2, ?_⟩
  have z1 : sAsg (gName 6) (eCall s__law_draws (aCons (eCall s__law_cell (aCons (eVar 0) (aCons (eCon (.int 13)) aNil))) (aCons (eCon (.int 6)) aNil))) [.val (.scr ns), .val (eWor w), .val nm, .val wo, .val dr, .val (labD qs), .no, .no, .no, .no, .no, .no, .no, .no, .no, .no, .no, .no] =
      some (.nx [.val (.scr ns), .val (eWor w), .val nm, .val wo, .val dr, .val (labD qs), .val (.lst (more.map .int)), .no, .no, .no, .no, .no, .no, .no, .no, .no, .no, .no]) :=
    ev_set (ev_call2 (a := .int v) (b := .int 6) (ev_call2 (a := .scr ns) (b := .int 13) rfl rfl hv) rfl m1) rfl
  have z2 : sAsg (gName 7) (eBin .mod (eBlt .int (aCons (eIx (bVar 6) (eCon (.int 0))) aNil)) (eCon (.int 12))) [.val (.scr ns), .val (eWor w), .val nm, .val wo, .val dr, .val (labD qs), .val (.lst (more.map .int)), .no, .no, .no, .no, .no, .no, .no, .no, .no, .no, .no] =
      some (.nx [.val (.scr ns), .val (eWor w), .val nm, .val wo, .val dr, .val (labD qs), .val (.lst (more.map .int)), .val (.int bg), .no, .no, .no, .no, .no, .no, .no, .no, .no, .no]) := by
    rw [← hbg]
    exact ev_set (ev_mod (ev_int (ev_ix rfl rfl hm0)) rfl (by omega)) rfl
  have z3 : sAsg (gName 8) (eIx (eIx (eFld (eVar 1) "routes") (eIx (eCall s__law_way (aCons (eFld (eVar 1) "routes") (aCons (eVar 5) aNil))) (eNeg (eCon (.int 1))))) (eCon (.int 2))) [.val (.scr ns), .val (eWor w), .val nm, .val wo, .val dr, .val (labD qs), .val (.lst (more.map .int)), .val (.int bg), .no, .no, .no, .no, .no, .no, .no, .no, .no, .no] =
      some (.nx [.val (.scr ns), .val (eWor w), .val nm, .val wo, .val dr, .val (labD qs), .val (.lst (more.map .int)), .val (.int bg), .val (eStg r.se), .no, .no, .no, .no, .no, .no, .no, .no, .no]) := by
    refine ev_set (ev_ix (a := eRou r) (ev_ix (a := .lst (w.ro.map eRou)) (b := .int (p.2 : Nat)) (ev_fld rfl (f_rou w)) (ev_ix (a := .lst (p.1.map eN)) (b := .int (-1)) (ev_call2 (a := .lst (w.ro.map eRou)) (b := labD qs) (ev_fld rfl (f_rou w)) rfl hway) rfl ?_) (rou_ix hr)) rfl rfl) rfl
    rw [w3]
    exact last_at
  have hit : iSeq (eIx (eCall s__law_find (aCons (eFld (eVar 1) "policies") (aCons (eIx (bVar 8) (eCon (.int 5))) aNil))) (eCon (.int 1))) [.val (.scr ns), .val (eWor w), .val nm, .val wo, .val dr, .val (labD qs), .val (.lst (more.map .int)), .val (.int bg), .val (eStg r.se), .val (.int 1), .val (.int bg), .no, .no, .no, .no, .no, .no, .no] = some ((polLv w r.se.po).map eLev) := by
    rw [e1]
    exact ev_seqI (d := .tup (x.lv.map eLev)) (ev_ix (ev_call2 (a := .lst (w.po.map ePol)) (b := .str r.se.po) (ev_fld rfl (f_pol w)) (ev_ix rfl rfl rfl) e2) rfl rfl) rfl
  exact ev_seq z1 (ev_seq z2 (ev_seq z3 (ev_seq (ρ1 := [.val (.scr ns), .val (eWor w), .val nm, .val wo, .val dr, .val (labD qs), .val (.lst (more.map .int)), .val (.int bg), .val (eStg r.se), .val (.int 1), .no, .no, .no, .no, .no, .no, .no, .no]) rfl
    (ev_seq (ρ1 := [.val (.scr ns), .val (eWor w), .val nm, .val wo, .val dr, .val (labD qs), .val (.lst (more.map .int)), .val (.int bg), .val (eStg r.se), .val (.int 1), .val (.int bg), .no, .no, .no, .no, .no, .no, .no]) rfl (ev_seq (ev_for hit k1) hfin)))))
end
end WF
end
/-! text M15 -/
section
set_option Elab.async false
set_option linter.all false
set_option maxHeartbeats 1000000
/-! The law's second half. -/
namespace WF
open PySem
section
variable {w : Wor}
theorem sure_eq2 (B : WorB w) {qs : List (Str × Str)} {r : Rou} {i : Nat} {bg : Int} (S : StgB w r.se) (hr : w.ro[i]? = some r) (he : s_end_of [.lst (w.ro.map eRou), labD qs] = some (.int (i : Nat))) (b0 : 0 ≤ bg) (b1 : bg < 12) :
    (2000 < horM w r.se ∧ s_sure_limit [eWor w, labD qs, .int bg] = some none) ∨
    (horM w r.se ≤ 2000 ∧ ∃ muted most, Told w r.se bg (lvB w (polLv w r.se.po) bg + 2 * (horM w r.se : Int)) muted most ∧ s_sure_limit [eWor w, labD qs, .int bg] = some (some (if (horM w r.se : Int) ≤ muted then .non else .int (mx r.se.wt (r.se.iv - 1) + slk w + most)))) ∨
    (horM w r.se ≤ 2000 ∧ (∃ u, bg ≤ u ∧ u < lvB w (polLv w r.se.po) bg + 2 * (horM w r.se : Int) ∧ mutedB w r.se.mu u = false ∧ delayO w (polLv w r.se.po) u = none) ∧ s_sure_limit [eWor w, labD qs, .int bg] = some (some .non)) := by
  have hb := (pol_ok B S).1
  obtain ⟨g1, g2, _⟩ := lvB_le B (polLv w r.se.po) bg fun l hl => (hb l hl).1
  have g3 := g2 100 (by omega) (by omega)
  have hM := horM_ok B S
  have h0 : b_sure_limit_0 (entry 10 [eWor w, labD qs, .int bg]) = some (.nx [.val (eWor w), .val (labD qs), .val (.int bg), .val (eStg r.se), .no, .no, .no, .no, .no, .no]) :=
    ev_set (ev_ix (a := eRou r) (ev_ix (a := .lst (w.ro.map eRou)) (b := .int (i : Nat)) (ev_fld rfl (f_rou w)) (ev_call2 (a := .lst (w.ro.map eRou)) (b := labD qs) (ev_fld rfl (f_rou w)) rfl he) (rou_ix hr)) rfl rfl) rfl
  have hu : s_sure_limit [eWor w, labD qs, .int bg] = (s__horizon [eWor w, eStg r.se, .int bg]).bind fun r' => (match r' with
      | none => some none
      | some d => (gTup [4, 5] d [.val (eWor w), .val (labD qs), .val (.int bg), .val (eStg r.se), .no, .no, .no, .no, .no, .no]).bind fun ρ' => (finD (b_sure_limit_1 ρ')).map some) := by
    unfold s_sure_limit
    rw [if_pos (show ([eWor w, labD qs, D.int bg] : List D).length = 3 from rfl), h0]
    rfl
  rw [hu, horizon_eq B S]
  by_cases c : 2000 < horM w r.se
  · rw [if_pos c]
    exact .inl ⟨c, rfl⟩
  · rw [if_neg c]
    have L := sure_loop (lab := labD qs) (time := bg) (many := (horM w r.se : Int)) (beg := lvB w (polLv w r.se.po) bg) B S b0 (by omega) g1 g3 (by omega) (by omega)
    rcases L with ⟨muted, most, T, e⟩ | ⟨U, e⟩
    · refine .inr (.inl ⟨by omega, muted, most, T, ?_⟩)
      show (finD (b_sure_limit_1 [.val (eWor w), .val (labD qs), .val (.int bg), .val (eStg r.se), .val (.int (horM w r.se : Nat)), .val (.int (lvB w (polLv w r.se.po) bg)), .no, .no, .no, .no])).map some = _
      rw [e]
      rfl
    · refine .inr (.inr ⟨by omega, U, ?_⟩)
      show (finD (b_sure_limit_1 [.val (eWor w), .val (labD qs), .val (.int bg), .val (eStg r.se), .val (.int (horM w r.se : Nat)), .val (.int (lvB w (polLv w r.se.po) bg)), .no, .no, .no, .no])).map some = _
      rw [e]
      rfl
/-- told is None -/
theorem law2_none (B : WorB w) {s : Stg} (S : StgB w s) {x0 x2 x3 x4 x5 x6 x11 x12 x13 : Slot} {bg : Int} {C : Nat} (b0 : 0 ≤ bg) (b1 : bg < 12) (hC : C ≤ 2000)
    (h : (∀ t, mutedB w s.mu t = true) ∨ ∃ v, bg ≤ v ∧ v < lvB w (polLv w s.po) bg + (C : Int) ∧ badB w s v = true) :
    finD (b_law_2 [x0, .val (eWor w), x2, x3, x4, x5, x6, .val (.int bg), .val (eStg s), .val (.int (C : Nat)), .val (.int (lvB w (polLv w s.po) bg)), x11, x12, x13, .val .non, .no, .no, .no]) = some (.bl true) := by
  have hb := (pol_ok B S).1
  obtain ⟨g1, g2, _⟩ := lvB_le B (polLv w s.po) bg fun l hl => (hb l hl).1
  have g3 := g2 100 (by omega) (by omega)
  have hw0 := B.wk.w0
  have hw1 := B.wk.w1
  generalize lvB w (polLv w s.po) bg = BG at g1 g3 h
  have t1 : tCmp .gt (eVar 9) (eCon (.int 2000)) [x0, .val (eWor w), x2, x3, x4, x5, x6, .val (.int bg), .val (eStg s), .val (.int (C : Nat)), .val (.int BG), x11, x12, x13, .val .non, .no, .no, .no] = some false := by
    have : tCmp .gt (eVar 9) (eCon (.int 2000)) [x0, .val (eWor w), x2, x3, x4, x5, x6, .val (.int bg), .val (eStg s), .val (.int (C : Nat)), .val (.int BG), x11, x12, x13, .val .non, .no, .no, .no] = some (decide ((2000 : Int) < (C : Int))) := rfl
    rw [this, decide_eq_false (by omega)]
  have t2 : tCmp .is (eVar 14) (eCon .non) [x0, .val (eWor w), x2, x3, x4, x5, x6, .val (.int bg), .val (eStg s), .val (.int (C : Nat)), .val (.int BG), x11, x12, x13, .val .non, .no, .no, .no] = some true := rfl
  have t3 : tCmp .gt (eVar 9) (eCon (.int 240)) [x0, .val (eWor w), x2, x3, x4, x5, x6, .val (.int bg), .val (eStg s), .val (.int (C : Nat)), .val (.int BG), x11, x12, x13, .val .non, .no, .no, .no] = some (decide ((240 : Int) < (C : Int))) := rfl
  obtain ⟨ρ1, k1, a16, e1⟩ := for_inv (f := forTurn (gName 16) (sIf (tNot (tVal (eCall s__law_muted (aCons (eVar 1) (aCons (eIx (bVar 8) (eCon (.int 4))) (aCons (eVar 16) aNil)))))) (sAsg (gName 15) (eCon (.bl false))) sNext)) (enc := fun k : Nat => D.int (BG + (k : Int)))
    (fun pre ρ => ∃ a16, ρ = [x0, .val (eWor w), x2, x3, x4, x5, x6, .val (.int bg), .val (eStg s), .val (.int (C : Nat)), .val (.int BG), x11, x12, x13, .val .non, .val (.bl (pre.all fun k => mutedB w s.mu (BG + (k : Int)))), a16, .no]) (List.range w.wk.toNat)
    [x0, .val (eWor w), x2, x3, x4, x5, x6, .val (.int bg), .val (eStg s), .val (.int (C : Nat)), .val (.int BG), x11, x12, x13, .val .non, .val (.bl true), .no, .no] (by
      rintro pre k post ρ - ⟨a16, rfl⟩
      rw [turn_name, List.all_append]
      have u1 : tNot (tVal (eCall s__law_muted (aCons (eVar 1) (aCons (eIx (bVar 8) (eCon (.int 4))) (aCons (eVar 16) aNil))))) [x0, .val (eWor w), x2, x3, x4, x5, x6, .val (.int bg), .val (eStg s), .val (.int (C : Nat)), .val (.int BG), x11, x12, x13, .val .non, .val (.bl (pre.all fun k => mutedB w s.mu (BG + (k : Int)))), .val (.int (BG + (k : Int))), .no] = some (!mutedB w s.mu (BG + (k : Int))) :=
        ev_not (ev_val (ev_call3 (a := eWor w) (b := .tup (s.mu.map .str)) (c := .int (BG + (k : Int))) rfl (ev_ix rfl rfl rfl) rfl (law_muted_eq B S.mu)) rfl)
      rw [show [k].all (fun k => mutedB w s.mu (BG + (k : Int))) = mutedB w s.mu (BG + (k : Int)) by simp]
      cases e : mutedB w s.mu (BG + (k : Int)) with
      | true =>
        rw [e] at u1
        exact ⟨_, ev_ifF (b := sNext) u1 rfl, _, by rw [Bool.and_true]; rfl⟩
      | false =>
        rw [e] at u1
        exact ⟨_, ev_ifT u1 (ev_asg rfl), _, by rw [Bool.and_false]; rfl⟩) ⟨_, rfl⟩
  obtain ⟨ρ2, k2, b16, e2⟩ := for_inv (f := forTurn (gName 16) (sIf (tVal (eCall s__law_is_bad (aCons (eVar 1) (aCons (eVar 8) (aCons (eVar 16) aNil))))) (sAsg (gName 15) (eCon (.bl true))) sNext)) (enc := fun k : Nat => D.int (bg + (k : Int)))
    (fun pre ρ => ∃ b16, ρ = [x0, .val (eWor w), x2, x3, x4, x5, x6, .val (.int bg), .val (eStg s), .val (.int (C : Nat)), .val (.int BG), x11, x12, x13, .val .non, .val (.bl (((List.range w.wk.toNat).all fun k => mutedB w s.mu (BG + (k : Int))) || pre.any fun k => badB w s (bg + (k : Int)))), b16, .no]) (List.range (BG + (C : Int) - bg).toNat) ρ1 (by
      rintro pre k post ρ - ⟨b16, rfl⟩
      rw [turn_name, List.any_append, show [k].any (fun k => badB w s (bg + (k : Int))) = badB w s (bg + (k : Int)) by simp]
      have u1 : tVal (eCall s__law_is_bad (aCons (eVar 1) (aCons (eVar 8) (aCons (eVar 16) aNil)))) [x0, .val (eWor w), x2, x3, x4, x5, x6, .val (.int bg), .val (eStg s), .val (.int (C : Nat)), .val (.int BG), x11, x12, x13, .val .non, .val (.bl (((List.range w.wk.toNat).all fun k => mutedB w s.mu (BG + (k : Int))) || pre.any fun k => badB w s (bg + (k : Int)))), .val (.int (bg + (k : Int))), .no] = some (badB w s (bg + (k : Int))) :=
        ev_val (ev_call3 (a := eWor w) (b := eStg s) (c := .int (bg + (k : Int))) rfl rfl rfl (bad_eq B S)) rfl
      cases e : badB w s (bg + (k : Int)) with
      | true =>
        rw [e] at u1
        exact ⟨_, ev_ifT u1 (ev_asg rfl), _, by rw [Bool.or_true, Bool.or_true]; rfl⟩
      | false =>
        rw [e] at u1
        exact ⟨_, ev_ifF (b := sNext) u1 rfl, _, by rw [Bool.or_false]; rfl⟩) ⟨a16, by rw [e1, List.any_nil, Bool.or_false]⟩
  have hv : (((List.range w.wk.toNat).all fun k => mutedB w s.mu (BG + (k : Int))) || (List.range (BG + (C : Int) - bg).toNat).any fun k => badB w s (bg + (k : Int))) = true := by
    rw [Bool.or_eq_true]
    rcases h with h | ⟨v, v1, v2, v3⟩
    · exact .inl (List.all_eq_true.mpr fun k _ => h _)
    · refine .inr (List.any_eq_true.mpr ⟨(v - bg).toNat, List.mem_range.mpr (by omega), ?_⟩)
      rw [show bg + ((v - bg).toNat : Int) = v by omega]
      exact v3
  rw [hv] at e2
  have hit1 : iRng rng2 (aCons (eVar 10) (aCons (eBin .add (eVar 10) (eFld (eVar 1) "week")) aNil)) [x0, .val (eWor w), x2, x3, x4, x5, x6, .val (.int bg), .val (eStg s), .val (.int (C : Nat)), .val (.int BG), x11, x12, x13, .val .non, .val (.bl true), .no, .no] = some ((List.range w.wk.toNat).map fun k : Nat => D.int (BG + (k : Int))) := by
    rw [ev_rng2 (i := BG) (j := BG + w.wk) rfl (ev_add rfl (ev_fld rfl (f_week w))) (by omega) (by omega), show (BG + w.wk - BG).toNat = w.wk.toNat by omega]
  have hit2 : iRng rng2 (aCons (eVar 7) (aCons (eBin .add (eVar 10) (eVar 9)) aNil)) ρ1 = some ((List.range (BG + (C : Int) - bg).toNat).map fun k : Nat => D.int (bg + (k : Int))) := by
    rw [e1]
    exact ev_rng2 (i := bg) (j := BG + (C : Int)) rfl (ev_add rfl rfl) (by omega) (by omega)
  have hfin : b_law_2 [x0, .val (eWor w), x2, x3, x4, x5, x6, .val (.int bg), .val (eStg s), .val (.int (C : Nat)), .val (.int BG), x11, x12, x13, .val .non, .no, .no, .no] = some (.rt (.bl true)) := by
    refine ev_seq (ev_ifF (b := sNext) t1 rfl) (ev_seqR (ev_ifT t2 ?_))
    by_cases c : C ≤ 240
    · rw [decide_eq_false (by omega)] at t3
      refine ev_seq (ev_ifF (b := sNext) t3 rfl) (ev_seq (ρ1 := [x0, .val (eWor w), x2, x3, x4, x5, x6, .val (.int bg), .val (eStg s), .val (.int (C : Nat)), .val (.int BG), x11, x12, x13, .val .non, .val (.bl true), .no, .no]) rfl (ev_seq (ev_for hit1 k1) (ev_seq (ev_for hit2 k2) ?_)))
      rw [e2]
      rfl
    · rw [decide_eq_true (by omega)] at t3
      exact ev_seqR (ev_ifT t3 rfl)
  rw [hfin]
  rfl
theorem ev_lst3 {e1 e2 e3 : SE} {ρ : Env} {a b c : D} (h1 : e1 ρ = some a) (h2 : e2 ρ = some b) (h3 : e3 ρ = some c) : eLst (aCons e1 (aCons e2 (aCons e3 aNil))) ρ = some (.lst [a, b, c]) := by
  show (aCons e1 (aCons e2 (aCons e3 aNil)) ρ).bind _ = _
  rw [ev_a3 h1 h2 h3]
  rfl
/-- told is a number -/
theorem law2_int (B : WorB w) {s : Stg} (S : StgB w s) {x0 x2 x3 x4 x11 x12 x13 x10 : Slot} {qs : List (Str × Str)} {r : Rou} {i : Nat} {bg told : Int} {C : Nat} {more : List Int} (hs : r.se = s) (hr : w.ro[i]? = some r) (he : s_end_of [.lst (w.ro.map eRou), labD qs] = some (.int (i : Nat))) (m1 : more.length = 6) (b0 : 0 ≤ bg) (b1 : bg < 12) (hC : C ≤ 2000) (ht : 0 ≤ told)
    (h : told ≤ 26 → ∀ start, bg ≤ start → start ≤ 400 → s_gap [eWor w, labD qs, .int start, .int told] = some .non) :
    finD (b_law_2 [x0, .val (eWor w), x2, x3, x4, .val (labD qs), .val (.lst (more.map .int)), .val (.int bg), .val (eStg s), .val (.int (C : Nat)), x10, x11, x12, x13, .val (.int told), .no, .no, .no]) = some (.bl true) := by
  have t1 : tCmp .gt (eVar 9) (eCon (.int 2000)) [x0, .val (eWor w), x2, x3, x4, .val (labD qs), .val (.lst (more.map .int)), .val (.int bg), .val (eStg s), .val (.int (C : Nat)), x10, x11, x12, x13, .val (.int told), .no, .no, .no] = some false := by
    have : tCmp .gt (eVar 9) (eCon (.int 2000)) [x0, .val (eWor w), x2, x3, x4, .val (labD qs), .val (.lst (more.map .int)), .val (.int bg), .val (eStg s), .val (.int (C : Nat)), x10, x11, x12, x13, .val (.int told), .no, .no, .no] = some (decide ((2000 : Int) < (C : Int))) := rfl
    rw [this, decide_eq_false (by omega)]
  have t2 : tCmp .is (eVar 14) (eCon .non) [x0, .val (eWor w), x2, x3, x4, .val (labD qs), .val (.lst (more.map .int)), .val (.int bg), .val (eStg s), .val (.int (C : Nat)), x10, x11, x12, x13, .val (.int told), .no, .no, .no] = some false := rfl
  have t3 : tOr (tNot (tVal (eBlt .isInt (aCons (eVar 14) aNil)))) (tOr (tVal (eBlt .isBool (aCons (eVar 14) aNil))) (tCmp .lt (eVar 14) (eCon (.int 0)))) [x0, .val (eWor w), x2, x3, x4, .val (labD qs), .val (.lst (more.map .int)), .val (.int bg), .val (eStg s), .val (.int (C : Nat)), x10, x11, x12, x13, .val (.int told), .no, .no, .no] = some false := by
    refine ev_orF (ev_not (b := true) rfl) (ev_orF rfl ?_)
    have : tCmp .lt (eVar 14) (eCon (.int 0)) [x0, .val (eWor w), x2, x3, x4, .val (labD qs), .val (.lst (more.map .int)), .val (.int bg), .val (eStg s), .val (.int (C : Nat)), x10, x11, x12, x13, .val (.int told), .no, .no, .no] = some (decide (told < 0)) := rfl
    rw [this, decide_eq_false (by omega)]
  have t4 : tCmp .le (eVar 14) (eCon (.int 26)) [x0, .val (eWor w), x2, x3, x4, .val (labD qs), .val (.lst (more.map .int)), .val (.int bg), .val (eStg s), .val (.int (C : Nat)), x10, x11, x12, x13, .val (.int told), .no, .no, .no] = some (decide (told ≤ 26)) := rfl
  have hfin : b_law_2 [x0, .val (eWor w), x2, x3, x4, .val (labD qs), .val (.lst (more.map .int)), .val (.int bg), .val (eStg s), .val (.int (C : Nat)), x10, x11, x12, x13, .val (.int told), .no, .no, .no] = some (.rt (.bl true)) := by
    refine ev_seq (ev_ifF (b := sNext) t1 rfl) (ev_seq (ev_ifF (b := sNext) t2 rfl) (ev_seq (ev_ifF (b := sNext) t3 rfl) ?_))
    by_cases c : told ≤ 26
    · rw [decide_eq_true c] at t4
      have mi : ∀ j : Nat, (hj : j < 6) → atD (more.map D.int) (j : Int) = some (.int (more[j]'(by omega))) := fun j hj => by
        unfold atD
        rw [if_pos (by omega), Int.toNat_natCast, List.getElem?_map, List.getElem?_eq_getElem (by omega)]
        rfl
      obtain ⟨ρ1, k1, _⟩ := for_inv (f := forTurn (gName 17) (sIf (tCmp .isNot (eCall s_gap (aCons (eVar 1) (aCons (eVar 5) (aCons (eVar 17) (aCons (eVar 14) aNil))))) (eCon .non)) (sRet (eCon (.bl false))) sNext)) (enc := D.int)
        (fun _ ρ => ∃ a, ρ = [x0, .val (eWor w), x2, x3, x4, .val (labD qs), .val (.lst (more.map .int)), .val (.int bg), .val (eStg s), .val (.int (C : Nat)), x10, x11, x12, x13, .val (.int told), .no, .no, a]) [bg, bg + more[1]'(by omega) % 25, bg + more[2]'(by omega) % 9]
        [x0, .val (eWor w), x2, x3, x4, .val (labD qs), .val (.lst (more.map .int)), .val (.int bg), .val (eStg s), .val (.int (C : Nat)), x10, x11, x12, x13, .val (.int told), .no, .no, .no] (by
          rintro pre st post ρ e ⟨a, rfl⟩
          have hst : bg ≤ st ∧ st ≤ 400 := by
            have hm : st ∈ [bg, bg + more[1]'(by omega) % 25, bg + more[2]'(by omega) % 9] := by rw [e]; simp
            have r1 := Int.emod_nonneg (more[1]'(by omega)) (show (25 : Int) ≠ 0 by omega)
            have r2 := Int.emod_lt_of_pos (more[1]'(by omega)) (show (0 : Int) < 25 by omega)
            have r3 := Int.emod_nonneg (more[2]'(by omega)) (show (9 : Int) ≠ 0 by omega)
            have r4 := Int.emod_lt_of_pos (more[2]'(by omega)) (show (0 : Int) < 9 by omega)
            simp only [List.mem_cons, List.not_mem_nil, or_false] at hm
            rcases hm with rfl | rfl | rfl <;> omega
          rw [turn_name]
          have u1 : tCmp .isNot (eCall s_gap (aCons (eVar 1) (aCons (eVar 5) (aCons (eVar 17) (aCons (eVar 14) aNil))))) (eCon .non) [x0, .val (eWor w), x2, x3, x4, .val (labD qs), .val (.lst (more.map .int)), .val (.int bg), .val (eStg s), .val (.int (C : Nat)), x10, x11, x12, x13, .val (.int told), .no, .no, .val (.int st)] = some false :=
            ev_cmp (ev_call4 (a := eWor w) (b := labD qs) (c := .int st) (d := .int told) rfl rfl rfl rfl (h c st hst.1 hst.2)) rfl rfl
          exact ⟨_, ev_ifF (b := sNext) u1 rfl, _, rfl⟩) ⟨_, rfl⟩
      have hit : iSeq (eLst (aCons (eVar 7) (aCons (eBin .add (eVar 7) (eBin .mod (eBlt .int (aCons (eIx (bVar 6) (eCon (.int 1))) aNil)) (eCon (.int 25)))) (aCons (eBin .add (eVar 7) (eBin .mod (eBlt .int (aCons (eIx (bVar 6) (eCon (.int 2))) aNil)) (eCon (.int 9)))) aNil)))) [x0, .val (eWor w), x2, x3, x4, .val (labD qs), .val (.lst (more.map .int)), .val (.int bg), .val (eStg s), .val (.int (C : Nat)), x10, x11, x12, x13, .val (.int told), .no, .no, .no] =
          some ([bg, bg + more[1]'(by omega) % 25, bg + more[2]'(by omega) % 9].map D.int) :=
        ev_seqI (ev_lst3 (a := .int bg) (b := .int (bg + more[1]'(by omega) % 25)) (c := .int (bg + more[2]'(by omega) % 9)) rfl (ev_add rfl (ev_mod (ev_int (ev_ix rfl rfl (mi 1 (by omega)))) rfl (by omega))) (ev_add rfl (ev_mod (ev_int (ev_ix rfl rfl (mi 2 (by omega)))) rfl (by omega)))) rfl
      exact ev_seq (ev_ifT t4 (ev_for hit k1)) rfl
    · rw [decide_eq_false c] at t4
      exact ev_seq (ev_ifF (b := sNext) t4 rfl) rfl
  rw [hfin]
  rfl
theorem bad_of {s : Stg} {v : Int} (h1 : mutedB w s.mu v = false) (h2 : delayO w (polLv w s.po) v = none) : badB w s v = true := by
  unfold badB
  have : (polLv w s.po).any (fun l => lvSure w v l) = false := List.any_eq_false.mpr fun l hl => by rw [delay_none h2 l hl]; simp
  rw [h1, this]
  rfl
/-- the law, from its world on -/
theorem law_rest (B : WorB w) (R : RoB w.ro) (hl : w.ro.length ≤ 100) (h0 : 0 < w.ro.length) {ns : List Int} {qs : List (Str × Str)} {nm wo dr : D} :
    ∃ ρ2 as2 r, b_law_1 [.val (.scr ns), .val (eWor w), .val nm, .val wo, .val dr, .val (labD qs), .no, .no, .no, .no, .no, .no, .no, .no, .no, .no, .no, .no] = some (.nx ρ2) ∧ a_law_sure ρ2 = some as2 ∧ s_sure_limit as2 = some r ∧ (r = none → e_law_except ρ2 = some (.bl true)) ∧ ∀ d, r = some d → finD (b_law_2 (ρ2.set 14 (.val d))) = some (.bl true) := by
  obtain ⟨more, bg, r, i, C, a11, a12, a13, m1, m2, b0, b1, hr, he, hC, h1⟩ := law1_eq (ns := ns) (qs := qs) (nm := nm) (wo := wo) (dr := dr) (x14 := .no) (x15 := .no) (x16 := .no) (x17 := .no) B R hl h0
  have S := B.rb r (List.mem_of_getElem? hr)
  have has : a_law_sure [.val (.scr ns), .val (eWor w), .val nm, .val wo, .val dr, .val (labD qs), .val (.lst (more.map .int)), .val (.int bg), .val (eStg r.se), .val (.int (C : Nat)), .val (.int (lvB w (polLv w r.se.po) bg)), a11, a12, a13, .no, .no, .no, .no] = some [eWor w, labD qs, .int bg] := ev_a3 rfl rfl rfl
  rcases sure_eq2 (qs := qs) B S hr he b0 b1 with ⟨c, e⟩ | ⟨c, muted, most, T, e⟩ | ⟨c, ⟨u, u1, u2, u3, u4⟩, e⟩
  · refine ⟨_, _, _, h1, has, e, fun _ => ?_, fun d q => (by cases q)⟩
    have hC2 : 2000 < C := by
      rcases hC.2 with ⟨a, b⟩ | ⟨a, b⟩ <;> omega
    have : e_law_except [.val (.scr ns), .val (eWor w), .val nm, .val wo, .val dr, .val (labD qs), .val (.lst (more.map .int)), .val (.int bg), .val (eStg r.se), .val (.int (C : Nat)), .val (.int (lvB w (polLv w r.se.po) bg)), a11, a12, a13, .no, .no, .no, .no] = some (.bl (decide ((2000 : Int) < (C : Int)))) := rfl
    rw [this, decide_eq_true (by omega)]
  · have hCM : C = horM w r.se := by
      rcases hC.2 with ⟨a, b⟩ | ⟨a, b⟩ <;> omega
    refine ⟨_, _, _, h1, has, e, fun q => (by cases q), fun d q => ?_⟩
    by_cases c2 : (horM w r.se : Int) ≤ muted
    · rw [if_pos c2] at q
      cases q
      exact law2_none B S b0 b1 (by omega) (.inl (all_muted B S T c2))
    · rw [if_neg c2] at q
      cases q
      have a1 := mx_l r.se.wt (r.se.iv - 1)
      have a2 := S.wt0
      have a3 := slk_b B
      have a4 := T.o0
      refine law2_int B S rfl hr he m1 b0 b1 (by omega) (by omega) fun h26 start s1 s2 => ?_
      have hat : atD w.ro (i : Int) = some r := by
        unfold atD
        rw [if_pos (by omega), Int.toNat_natCast]
        exact hr
      exact gap_eq B S he hat rfl (by omega) s2 (by omega) (by omega) (fun b hb => (told_gap B S T (by omega) s1 hb).1) (fun b hb => (told_gap B S T (by omega) s1 hb).2)
  · have hCM : C = horM w r.se := by
      rcases hC.2 with ⟨a, b⟩ | ⟨a, b⟩ <;> omega
    refine ⟨_, _, _, h1, has, e, fun q => (by cases q), fun d q => ?_⟩
    cases q
    obtain ⟨v, v1, v2, v3, v4⟩ := bad_low B S u1 u2 u3 u4
    exact law2_none B S b0 b1 (by omega) (.inr ⟨v, v1, by rw [hCM]; exact v2, bad_of v3 v4⟩)
end
end WF
end
/-! text M16 -/
section
set_option Elab.async false
set_option linter.all false
set_option maxHeartbeats 4000000
set_option maxRecDepth 20000
/-! Words, worths, picks, matchers. -/
namespace WF
open PySem
def NameOk (x : Str) : Prop := s_is_name [.str x] = some (.bl true)
def LabOk (x : Str) : Prop := s_label_fits [.str x] = some (.bl true)
def ValOk (x : Str) : Prop := s_is_value [.str x] = some (.bl true)
def isT (o : Option D) : Bool := match o with
  | some (.bl b) => b
  | _ => false
theorem isT_ok {o : Option D} (h : isT o = true) : o = some (.bl true) := by
  unfold isT at h
  split at h
  · rw [h]
  · cases h
def isS (o : Option D) (t : Str) : Bool := match o with
  | some (.str s) => decide (s = t)
  | _ => false
theorem isS_ok {o : Option D} {t : Str} (h : isS o t = true) : o = some (.str t) := by
  unfold isS at h
  split at h
  · rw [of_decide_eq_true h]
  · cases h
def wd (p l : Nat) : Str := ⟨(("xyz" : Str).cps.toList.take p ++ [("abcdefghijklmnopqrstuvwxyz" : Str).cps.toList.getD l 0] ++ ("xyzw" : Str).cps.toList.drop p).toArray⟩
def vd (p l : Nat) : Str := ⟨(("v7_" : Str).cps.toList.take p ++ [("0123456789_abcdefghijklmnopqrstuvwxyz" : Str).cps.toList.getD l 0] ++ ("0_" : Str).cps.toList.drop p).toArray⟩
def wdE (p l : Nat) : Option D := (slD (.str "xyz") none (some (p : Int))).bind fun a => (ixD (.str "abcdefghijklmnopqrstuvwxyz") (.int (l : Int))).bind fun b => (binD .add a b).bind fun ab => (slD (.str "xyzw") (some (p : Int)) none).bind fun c => binD .add ab c
def vdE (p l : Nat) : Option D := (slD (.str "v7_") none (some (p : Int))).bind fun a => (ixD (.str "0123456789_abcdefghijklmnopqrstuvwxyz") (.int (l : Int))).bind fun b => (binD .add a b).bind fun ab => (slD (.str "0_") (some (p : Int)) none).bind fun c => binD .add ab c
theorem wd_all : ((List.range 4).all fun p => (List.range 26).all fun l => isS (wdE p l) (wd p l) && (isT (s_is_name [.str (wd p l)]) && isT (s_label_fits [.str (wd p l)]))) = true := by decide +kernel
theorem vd_all : ((List.range 3).all fun p => (List.range 37).all fun l => isS (vdE p l) (vd p l) && isT (s_is_value [.str (vd p l)])) = true := by decide +kernel
theorem wd_inj : ((List.range 4).all fun p => (List.range 26).all fun l => (List.range 26).all fun k => decide (l = k) || !decide (wd p l = wd p k)) = true := by decide +kernel
end WF
end
/-! text M17 -/
section
set_option Elab.async false
set_option linter.all false
set_option maxHeartbeats 1000000
/-! Words, worths, picks, matchers: what they give. -/
namespace WF
open PySem
theorem wd_ok {p l : Nat} (hp : p < 4) (hl : l < 26) : wdE p l = some (.str (wd p l)) ∧ NameOk (wd p l) ∧ LabOk (wd p l) := by
  have h1 := List.all_eq_true.mp wd_all p (List.mem_range.mpr hp)
  have h2 := List.all_eq_true.mp h1 l (List.mem_range.mpr hl)
  obtain ⟨a, b⟩ := Bool.and_eq_true_iff.mp h2
  obtain ⟨c, d⟩ := Bool.and_eq_true_iff.mp b
  exact ⟨isS_ok a, isT_ok c, isT_ok d⟩
theorem vd_ok {p l : Nat} (hp : p < 3) (hl : l < 37) : vdE p l = some (.str (vd p l)) ∧ ValOk (vd p l) := by
  have h1 := List.all_eq_true.mp vd_all p (List.mem_range.mpr hp)
  have h2 := List.all_eq_true.mp h1 l (List.mem_range.mpr hl)
  obtain ⟨a, b⟩ := Bool.and_eq_true_iff.mp h2
  exact ⟨isS_ok a, isT_ok b⟩
theorem wd_ne {p l k : Nat} (hp : p < 4) (hl : l < 26) (hk : k < 26) (h : wd p l = wd p k) : l = k := by
  have h1 := List.all_eq_true.mp wd_inj p (List.mem_range.mpr hp)
  have h2 := List.all_eq_true.mp h1 l (List.mem_range.mpr hl)
  have h3 := List.all_eq_true.mp h2 k (List.mem_range.mpr hk)
  rw [decide_eq_true h] at h3
  simpa using h3
structure WordsOk (ws : List Str) (n : Nat) : Prop where
  len : ws.length = n
  nd : ws.Nodup
  ok : ∀ x ∈ ws, NameOk x ∧ LabOk x
theorem words_eq (c : Int) {n : Nat} (hn : n ≤ 8) : ∃ ws : List Str, s__law_words [.int c, .int (n : Nat)] = some (.lst (ws.map .str)) ∧ WordsOk ws n := by
  have r0 := Int.emod_nonneg (c / 26) (show (4 : Int) ≠ 0 by omega)
  have r1 := Int.emod_lt_of_pos (c / 26) (show (0 : Int) < 4 by omega)
  obtain ⟨p, hp⟩ : ∃ p : Nat, (p : Int) = c / 26 % 4 := ⟨(c / 26 % 4).toNat, by omega⟩
  have hp4 : p < 4 := by omega
  have s3 : small64 3 = true := small64_of (by omega) (by omega)
  have hl : ∀ k : Nat, ∃ l : Nat, l < 26 ∧ (l : Int) = (c + 3 * (0 + (k : Int))) % 26 := fun k => by
    have q0 := Int.emod_nonneg (c + 3 * (0 + (k : Int))) (show (26 : Int) ≠ 0 by omega)
    have q1 := Int.emod_lt_of_pos (c + 3 * (0 + (k : Int))) (show (0 : Int) < 26 by omega)
    exact ⟨((c + 3 * (0 + (k : Int))) % 26).toNat, by omega, by omega⟩
  refine ⟨(List.range n).map fun k : Nat => wd p ((c + 3 * (0 + (k : Int))) % 26).toNat, ?_, ?_, ?_, ?_⟩
  · rw [List.map_map]
    refine run_rt rfl (ev_seq (ρ1 := [.val (.int c), .val (.int (n : Nat)), .val (.str "abcdefghijklmnopqrstuvwxyz"), .no, .no]) rfl (ev_seq (ρ1 := [.val (.int c), .val (.int (n : Nat)), .val (.str "abcdefghijklmnopqrstuvwxyz"), .val (.int (p : Nat)), .no]) (ev_set (ev_mod (ev_int (ev_fdiv (ev_int rfl) rfl (by omega))) rfl (by omega)) (by rw [hp]; rfl)) (ev_ret ?_)))
    refine comp_map (xs := List.range n) (enc := fun k : Nat => D.int (0 + (k : Int))) _ (ev_rng1 (e := eVar 1) (j := (n : Nat)) rfl (rng1_nat (b := n) (by omega))) (by rw [List.length_range]; exact big_of (by omega)) fun k hk => ?_
    obtain ⟨l, l1, l2⟩ := hl k
    have hlk : ((c + 3 * (0 + (k : Int))) % 26).toNat = l := by omega
    have hw := (wd_ok hp4 l1).1
    show Option.map some (eBin .add (eBin .add (eSl (eCon (.str "xyz")) oNone (oSome (eVar 3))) (eIx (bVar 2) (eBin .mod (eBlt .int (aCons (eBin .add (eBlt .int (aCons (eVar 0) aNil)) (eBin .mul (eCon (.int 3)) (eVar 4))) aNil)) (eCon (.int 26))))) (eSl (eCon (.str "xyzw")) (oSome (eVar 3)) oNone) [.val (.int c), .val (.int (n : Nat)), .val (.str "abcdefghijklmnopqrstuvwxyz"), .val (.int (p : Nat)), .val (.int (0 + (k : Int)))]) = some (some (.str (wd p ((c + 3 * (0 + (k : Int))) % 26).toNat)))
    have hix : eBin .mod (eBlt .int (aCons (eBin .add (eBlt .int (aCons (eVar 0) aNil)) (eBin .mul (eCon (.int 3)) (eVar 4))) aNil)) (eCon (.int 26)) [.val (.int c), .val (.int (n : Nat)), .val (.str "abcdefghijklmnopqrstuvwxyz"), .val (.int (p : Nat)), .val (.int (0 + (k : Int)))] = some (.int (l : Int)) := by
      rw [l2]
      exact ev_mod (ev_int (ev_add (ev_int rfl) (ev_mul2 rfl rfl s3))) rfl (by omega)
    have hE : eBin .add (eBin .add (eSl (eCon (.str "xyz")) oNone (oSome (eVar 3))) (eIx (bVar 2) (eBin .mod (eBlt .int (aCons (eBin .add (eBlt .int (aCons (eVar 0) aNil)) (eBin .mul (eCon (.int 3)) (eVar 4))) aNil)) (eCon (.int 26))))) (eSl (eCon (.str "xyzw")) (oSome (eVar 3)) oNone) [.val (.int c), .val (.int (n : Nat)), .val (.str "abcdefghijklmnopqrstuvwxyz"), .val (.int (p : Nat)), .val (.int (0 + (k : Int)))] = wdE p l := by
      show ((slD (.str "xyz") none (some (p : Int))).bind fun a => ((eIx (bVar 2) _ _).bind fun b => binD .add a b)).bind (fun ab => (slD (.str "xyzw") (some (p : Int)) none).bind fun c => binD .add ab c) = _
      rw [ev_ix (a := .str "abcdefghijklmnopqrstuvwxyz") (b := .int (l : Int)) rfl hix rfl]
      unfold wdE
      cases slD (.str "xyz") none (some (p : Int)) with
      | none => rfl
      | some a =>
        cases ixD (.str "abcdefghijklmnopqrstuvwxyz") (.int (l : Int)) with
        | none => rfl
        | some b => rfl
    rw [hE, hw, hlk]
    rfl
  · simp
  · refine List.Pairwise.map _ (fun a b h => h) ?_
    refine List.Pairwise.imp_of_mem (R := fun a b => a < b) (fun {a b} ha hb hab e => ?_) List.pairwise_lt_range
    have ha2 := List.mem_range.mp ha
    have hb2 := List.mem_range.mp hb
    obtain ⟨la, la1, la2⟩ := hl a
    obtain ⟨lb, lb1, lb2⟩ := hl b
    have := wd_ne hp4 (by omega) (by omega) e
    omega
  · intro x hx
    obtain ⟨k, hk, rfl⟩ := List.mem_map.mp hx
    obtain ⟨l, l1, l2⟩ := hl k
    rw [show ((c + 3 * (0 + (k : Int))) % 26).toNat = l by omega]
    exact (wd_ok hp4 l1).2
theorem worths_eq (c : Int) {n : Nat} (hn : n ≤ 8) : ∃ ws : List Str, s__law_worths [.int c, .int (n : Nat)] = some (.lst (ws.map .str)) ∧ ws.length = n ∧ ∀ x ∈ ws, ValOk x := by
  have r0 := Int.emod_nonneg (c / 37) (show (3 : Int) ≠ 0 by omega)
  have r1 := Int.emod_lt_of_pos (c / 37) (show (0 : Int) < 3 by omega)
  obtain ⟨p, hp⟩ : ∃ p : Nat, (p : Int) = c / 37 % 3 := ⟨(c / 37 % 3).toNat, by omega⟩
  have hp4 : p < 3 := by omega
  have s3 : small64 5 = true := small64_of (by omega) (by omega)
  have hl : ∀ k : Nat, ∃ l : Nat, l < 37 ∧ (l : Int) = (c + 5 * (0 + (k : Int))) % 37 := fun k => by
    have q0 := Int.emod_nonneg (c + 5 * (0 + (k : Int))) (show (37 : Int) ≠ 0 by omega)
    have q1 := Int.emod_lt_of_pos (c + 5 * (0 + (k : Int))) (show (0 : Int) < 37 by omega)
    exact ⟨((c + 5 * (0 + (k : Int))) % 37).toNat, by omega, by omega⟩
  refine ⟨(List.range n).map fun k : Nat => vd p ((c + 5 * (0 + (k : Int))) % 37).toNat, ?_, ?_, ?_⟩
  · rw [List.map_map]
    refine run_rt rfl (ev_seq (ρ1 := [.val (.int c), .val (.int (n : Nat)), .val (.str "0123456789_abcdefghijklmnopqrstuvwxyz"), .no, .no]) rfl (ev_seq (ρ1 := [.val (.int c), .val (.int (n : Nat)), .val (.str "0123456789_abcdefghijklmnopqrstuvwxyz"), .val (.int (p : Nat)), .no]) (ev_set (ev_mod (ev_int (ev_fdiv (ev_int rfl) rfl (by omega))) rfl (by omega)) (by rw [hp]; rfl)) (ev_ret ?_)))
    refine comp_map (xs := List.range n) (enc := fun k : Nat => D.int (0 + (k : Int))) _ (ev_rng1 (e := eVar 1) (j := (n : Nat)) rfl (rng1_nat (b := n) (by omega))) (by rw [List.length_range]; exact big_of (by omega)) fun k hk => ?_
    obtain ⟨l, l1, l2⟩ := hl k
    have hlk : ((c + 5 * (0 + (k : Int))) % 37).toNat = l := by omega
    have hw := (vd_ok hp4 l1).1
    show Option.map some (eBin .add (eBin .add (eSl (eCon (.str "v7_")) oNone (oSome (eVar 3))) (eIx (bVar 2) (eBin .mod (eBlt .int (aCons (eBin .add (eBlt .int (aCons (eVar 0) aNil)) (eBin .mul (eCon (.int 5)) (eVar 4))) aNil)) (eCon (.int 37))))) (eSl (eCon (.str "0_")) (oSome (eVar 3)) oNone) [.val (.int c), .val (.int (n : Nat)), .val (.str "0123456789_abcdefghijklmnopqrstuvwxyz"), .val (.int (p : Nat)), .val (.int (0 + (k : Int)))]) = some (some (.str (vd p ((c + 5 * (0 + (k : Int))) % 37).toNat)))
    have hix : eBin .mod (eBlt .int (aCons (eBin .add (eBlt .int (aCons (eVar 0) aNil)) (eBin .mul (eCon (.int 5)) (eVar 4))) aNil)) (eCon (.int 37)) [.val (.int c), .val (.int (n : Nat)), .val (.str "0123456789_abcdefghijklmnopqrstuvwxyz"), .val (.int (p : Nat)), .val (.int (0 + (k : Int)))] = some (.int (l : Int)) := by
      rw [l2]
      exact ev_mod (ev_int (ev_add (ev_int rfl) (ev_mul2 rfl rfl s3))) rfl (by omega)
    have hE : eBin .add (eBin .add (eSl (eCon (.str "v7_")) oNone (oSome (eVar 3))) (eIx (bVar 2) (eBin .mod (eBlt .int (aCons (eBin .add (eBlt .int (aCons (eVar 0) aNil)) (eBin .mul (eCon (.int 5)) (eVar 4))) aNil)) (eCon (.int 37))))) (eSl (eCon (.str "0_")) (oSome (eVar 3)) oNone) [.val (.int c), .val (.int (n : Nat)), .val (.str "0123456789_abcdefghijklmnopqrstuvwxyz"), .val (.int (p : Nat)), .val (.int (0 + (k : Int)))] = vdE p l := by
      show ((slD (.str "v7_") none (some (p : Int))).bind fun a => ((eIx (bVar 2) _ _).bind fun b => binD .add a b)).bind (fun ab => (slD (.str "0_") (some (p : Int)) none).bind fun c => binD .add ab c) = _
      rw [ev_ix (a := .str "0123456789_abcdefghijklmnopqrstuvwxyz") (b := .int (l : Int)) rfl hix rfl]
      unfold vdE
      cases slD (.str "v7_") none (some (p : Int)) with
      | none => rfl
      | some a =>
        cases ixD (.str "0123456789_abcdefghijklmnopqrstuvwxyz") (.int (l : Int)) with
        | none => rfl
        | some b => rfl
    rw [hE, hw, hlk]
    rfl
  · simp
  · intro x hx
    obtain ⟨k, hk, rfl⟩ := List.mem_map.mp hx
    obtain ⟨l, l1, l2⟩ := hl k
    rw [show ((c + 5 * (0 + (k : Int))) % 37).toNat = l by omega]
    exact (vd_ok hp4 l1).2
/-- one of a list, by a number -/
theorem pick {α : Type} {xs : List α} {enc : α → D} {eb e : SE} {ρ : Env} {v : Int} (hx : xs ≠ []) (h1 : eb ρ = some (.lst (xs.map enc))) (h2 : e ρ = some (.int v)) : ∃ x ∈ xs, eIx eb (eBin .mod (eBlt .int (aCons e aNil)) (eBlt .len (aCons eb aNil))) ρ = some (enc x) := by
  obtain ⟨x, hx1, hx2⟩ := mod_at hx v
  have hl : (0 : Int) < (xs.length : Int) := by
    have := List.length_pos_iff.mpr hx
    omega
  refine ⟨x, List.mem_of_getElem? hx2, ev_ix h1 (ev_mod (ev_int h2) (ev_blt1 h1 (by show some (D.int ((xs.map enc).length : Nat)) = _; rw [List.length_map])) hl) (atD_map hx1)⟩
structure MatOk (m : Mat) : Prop where
  nm : LabOk m.nm
  l0 : 1 ≤ m.vs.length
  l1 : m.vs.length ≤ 2
  vs : ∀ v ∈ m.vs, v = "" ∨ ValOk v
theorem matcher_eq {a b : Int} {nm wo : List Str} (hn : WordsOk nm 3) (hl : wo.length = 3) (hv : ∀ x ∈ wo, ValOk x) : ∃ m, s__law_matcher [.int a, .int b, .lst (nm.map .str), .lst (wo.map .str)] = some (eMat m) ∧ MatOk m := by
  have hn0 : nm ≠ [] := fun z => by have := hn.len; rw [z] at this; cases this
  have hw0 : wo ++ [("" : Str)] ≠ [] := by simp
  have hmem : ∀ x ∈ wo ++ [("" : Str)], x = "" ∨ ValOk x := fun x hx => by
    rcases List.mem_append.mp hx with hx | hx
    · exact .inr (hv x hx)
    · exact .inl (List.mem_singleton.mp hx)
  have z1 : sAsg (gName 4) (eBin .add (eVar 3) (eLst (aCons (eCon (.str "")) aNil))) (entry 6 [.int a, .int b, .lst (nm.map .str), .lst (wo.map .str)]) = some (.nx [.val (.int a), .val (.int b), .val (.lst (nm.map .str)), .val (.lst (wo.map .str)), .val (.lst ((wo ++ [("" : Str)]).map .str)), .no]) := by
    refine ev_set (ev_cat (xs := wo.map .str) (ys := [.str ""]) rfl rfl (by simp; omega)) ?_
    rw [List.map_append]
    rfl
  obtain ⟨v1, hv1, e1⟩ := pick (eb := bVar 4) (e := eBin .fdiv (eVar 0) (eCon (.int 7))) (ρ := [.val (.int a), .val (.int b), .val (.lst (nm.map .str)), .val (.lst (wo.map .str)), .val (.lst ((wo ++ [("" : Str)]).map .str)), .no]) (enc := D.str) hw0 rfl (ev_fdiv rfl rfl (by omega))
  have z2 : sOwn 5 (aCons (eIx (bVar 4) (eBin .mod (eBlt .int (aCons (eBin .fdiv (eVar 0) (eCon (.int 7))) aNil)) (eBlt .len (aCons (bVar 4) aNil)))) aNil) [.val (.int a), .val (.int b), .val (.lst (nm.map .str)), .val (.lst (wo.map .str)), .val (.lst ((wo ++ [("" : Str)]).map .str)), .no] =
      some (.nx [.val (.int a), .val (.int b), .val (.lst (nm.map .str)), .val (.lst (wo.map .str)), .val (.lst ((wo ++ [("" : Str)]).map .str)), .own [.str v1]]) := by
    show ((eIx _ _ _).bind _).bind _ = _
    rw [e1]
    rfl
  have t1 : tCmp .eq (eBin .mod (eBlt .int (aCons (eVar 1) aNil)) (eCon (.int 3))) (eCon (.int 0)) [.val (.int a), .val (.int b), .val (.lst (nm.map .str)), .val (.lst (wo.map .str)), .val (.lst ((wo ++ [("" : Str)]).map .str)), .own [.str v1]] = some (decide (b % 3 = 0)) := ev_cmp (ev_mod (ev_int rfl) rfl (by omega)) rfl rfl
  have A : ∃ vs : List Str, 1 ≤ vs.length ∧ vs.length ≤ 2 ∧ (∀ v ∈ vs, v = "" ∨ ValOk v) ∧ (sIf (tCmp .eq (eBin .mod (eBlt .int (aCons (eVar 1) aNil)) (eCon (.int 3))) (eCon (.int 0)))
      (sApp 5 (eIx (bVar 4) (eBin .mod (eBlt .int (aCons (eBin .fdiv (eVar 0) (eCon (.int 50))) aNil)) (eBlt .len (aCons (bVar 4) aNil))))) sNext) [.val (.int a), .val (.int b), .val (.lst (nm.map .str)), .val (.lst (wo.map .str)), .val (.lst ((wo ++ [("" : Str)]).map .str)), .own [.str v1]] =
      some (.nx [.val (.int a), .val (.int b), .val (.lst (nm.map .str)), .val (.lst (wo.map .str)), .val (.lst ((wo ++ [("" : Str)]).map .str)), .own (vs.map .str)]) := by
    cases e : decide (b % 3 = 0) with
    | false =>
      rw [e] at t1
      refine ⟨[v1], by simp, by simp, fun v h => ?_, ev_ifF (b := sNext) t1 rfl⟩
      rw [List.mem_singleton.mp h]
      exact hmem v1 hv1
    | true =>
      rw [e] at t1
      obtain ⟨v2, hv2, e2⟩ := pick (eb := bVar 4) (e := eBin .fdiv (eVar 0) (eCon (.int 50))) (ρ := [.val (.int a), .val (.int b), .val (.lst (nm.map .str)), .val (.lst (wo.map .str)), .val (.lst ((wo ++ [("" : Str)]).map .str)), .own [.str v1]]) (enc := D.str) hw0 rfl (ev_fdiv rfl rfl (by omega))
      refine ⟨[v1, v2], by simp, by simp, fun v h => ?_, ev_ifT t1 (ev_app (ds := [.str v1]) e2 rfl (by simp))⟩
      simp only [List.mem_cons, List.not_mem_nil, or_false] at h
      rcases h with rfl | rfl
      · exact hmem _ hv1
      · exact hmem _ hv2
  obtain ⟨vs, l0, l1, hvs, z3⟩ := A
  obtain ⟨n1, hn1, e3⟩ := pick (eb := bVar 2) (e := eVar 0) (ρ := [.val (.int a), .val (.int b), .val (.lst (nm.map .str)), .val (.lst (wo.map .str)), .val (.lst ((wo ++ [("" : Str)]).map .str)), .val (.lst (vs.map .str))]) (enc := D.str) hn0 rfl rfl
  refine ⟨⟨n1, vs, decide (b % 2 = 0)⟩, run_rt rfl (ev_seq z1 (ev_seq z2 (ev_seq z3 ?_))), (hn.ok n1 hn1).2, l0, l1, hvs⟩
  exact ev_ret (ρ := [.val (.int a), .val (.int b), .val (.lst (nm.map .str)), .val (.lst (wo.map .str)), .val (.lst ((wo ++ [("" : Str)]).map .str)), .val (.lst (vs.map .str))]) (ev_tup (ev_a3 e3 (ev_blt1 (d := .lst (vs.map .str)) rfl rfl) (ev_test (ev_cmp (ev_mod (ev_int rfl) rfl (by omega)) rfl rfl))) (by simp))
end WF
end
/-! text M18 -/
section
set_option Elab.async false
set_option linter.all false
set_option maxHeartbeats 1000000
/-! Layers, rotas, ladders, shutters. -/
namespace WF
open PySem
theorem ix_int {xs : List Int} {i : Int} (h0 : 0 ≤ i) (h1 : i < (xs.length : Int)) : ∃ v : Int, ixD (.lst (xs.map .int)) (.int i) = some (.int v) := by
  have hl : i.toNat < xs.length := by omega
  refine ⟨xs[i.toNat], ?_⟩
  show atD (xs.map D.int) i = _
  unfold atD
  rw [if_pos h0, List.getElem?_map, List.getElem?_eq_getElem hl]
  rfl
theorem cut_map {α β : Type} (f : α → β) (xs : List α) (lo hi : Option Int) : cutD (xs.map f) lo hi = (cutD xs lo hi).map f := by
  unfold cutD
  rw [List.length_map, List.map_take, List.map_drop]
theorem cut_len {α : Type} {xs : List α} {lo hi : Int} (h0 : 0 ≤ lo) (h1 : lo ≤ hi) (h2 : hi ≤ (xs.length : Int)) : ((cutD xs (some lo) (some hi)).length : Int) = hi - lo := by
  unfold cutD sIx
  dsimp only
  rw [if_neg (show ¬ lo < 0 by omega), if_neg (show ¬ hi < 0 by omega), List.length_take, List.length_drop]
  omega
theorem ev_slI {e e1 e2 : SE} {ρ : Env} {ds : List D} {lo hi : Int} (h : e ρ = some (.lst ds)) (h1 : e1 ρ = some (.int lo)) (h2 : e2 ρ = some (.int hi)) : eSl e (oSome e1) (oSome e2) ρ = some (.lst (cutD ds (some lo) (some hi))) := by
  show (e ρ).bind (fun x => ((e1 ρ).bind fun d => match d with
    | .int i => some (some i)
    | _ => none).bind fun l => ((e2 ρ).bind fun d => match d with
    | .int i => some (some i)
    | _ => none).bind fun h => slD x l h) = _
  rw [h, h1, h2]
  rfl
theorem ev_cons {e : SE} {es : SA} {ρ : Env} {d : D} {ds : List D} (h : e ρ = some d) (k : es ρ = some ds) : aCons e es ρ = some (d :: ds) := by
  show (e ρ).bind _ = _
  rw [h]
  show (es ρ).map _ = _
  rw [k]
  rfl
theorem comp_ex {α β : Type} {vs : List Nat} {g : SG} {it : SA} {t : ST} {e : SE} {ρ : Env} {xs : List α} {enc : α → D} (P : β → Prop) (enc2 : β → D) (hi : it ρ = some (xs.map enc)) (hl : xs.length ≤ big) (h : ∀ x ∈ xs, ∃ y, P y ∧ compTurn g t e vs ρ (enc x) = some (some (enc2 y))) :
    ∃ ys : List β, eComp vs g it t e ρ = some (.lst (ys.map enc2)) ∧ ys.length = xs.length ∧ ∀ y ∈ ys, P y := by
  have A : ∀ xs : List α, (∀ x ∈ xs, ∃ y, P y ∧ compTurn g t e vs ρ (enc x) = some (some (enc2 y))) → ∃ ys : List β, compLoop (compTurn g t e vs ρ) (xs.map enc) = some (ys.map enc2) ∧ ys.length = xs.length ∧ ∀ y ∈ ys, P y := by
    intro xs
    induction xs with
    | nil => exact fun _ => ⟨[], rfl, rfl, fun y hy => by cases hy⟩
    | cons x xs ih =>
      intro h
      obtain ⟨ys, h1, h2, h3⟩ := ih fun z hz => h z (List.mem_cons_of_mem _ hz)
      obtain ⟨y, hy, e1⟩ := h x (List.mem_cons_self ..)
      refine ⟨y :: ys, ?_, by rw [List.length_cons, List.length_cons, h2], fun z hz => ?_⟩
      · show (compTurn g t e vs ρ (enc x)).bind _ = _
        rw [e1]
        show (compLoop (compTurn g t e vs ρ) (xs.map enc)).map _ = _
        rw [h1]
        rfl
      · rcases List.mem_cons.mp hz with rfl | hz
        · exact hy
        · exact h3 z hz
  obtain ⟨ys, h1, h2, h3⟩ := A xs h
  refine ⟨ys, ?_, h2, h3⟩
  show (it ρ).bind _ = _
  rw [hi]
  show (if (xs.map enc).length ≤ big then (compLoop (compTurn g t e vs ρ) (xs.map enc)).map D.lst else none) = _
  rw [if_pos (by rw [List.length_map]; exact hl), h1]
  rfl
def SpanOk (days : Int) (s : Span) : Prop := 0 ≤ s.1 ∧ s.1 < s.2 ∧ s.2 ≤ days
theorem span_mk {days f v : Int} (hd : 0 < days) : SpanOk days (f % days, f % days + 1 + v % (days - f % days)) := by
  have a := Int.emod_nonneg f (show days ≠ 0 by omega)
  have b := Int.emod_lt_of_pos f hd
  have c := Int.emod_nonneg v (show days - f % days ≠ 0 by omega)
  have d := Int.emod_lt_of_pos v (show 0 < days - f % days by omega)
  exact ⟨a, by omega, by omega⟩
theorem mod_b {v n : Int} (h : 0 < n) : 0 ≤ v % n ∧ v % n < n := ⟨Int.emod_nonneg _ (by omega), Int.emod_lt_of_pos _ h⟩
structure LayK (days : Int) (crew : List Str) (l : Lay) : Prop where
  b : LayB l
  ms : ∀ m ∈ l.ms, m ∈ crew
  sp : ∀ s ∈ l.sp, SpanOk days s
theorem layer_eq {part : List Int} {crew : List Str} {days : Int} (hp : part.length = 11) (hc : crew ≠ []) (hd : 2 ≤ days) (hd2 : days ≤ 24) : ∃ l, s__law_layer [.lst (part.map .int), .lst (crew.map .str), .int days] = some (eLay l) ∧ LayK days crew l := by
  have s2 : small64 2 = true := small64_of (by omega) (by omega)
  have I : ∀ i : Int, 0 ≤ i → i < 11 → ∃ v : Int, ixD (.lst (part.map .int)) (.int i) = some (.int v) := fun i a b => ix_int a (by omega)
  obtain ⟨p3, h3⟩ := I 3 (by omega) (by omega)
  obtain ⟨p4, h4⟩ := I 4 (by omega) (by omega)
  obtain ⟨p5, h5⟩ := I 5 (by omega) (by omega)
  obtain ⟨p6, h6⟩ := I 6 (by omega) (by omega)
  obtain ⟨a3, b3⟩ := mod_b (v := p3) (n := 3) (by omega)
  obtain ⟨a4, b4⟩ := mod_b (v := p4) (n := 13) (by omega)
  obtain ⟨a5, b5⟩ := mod_b (v := p5) (n := 9) (by omega)
  obtain ⟨a6, b6⟩ := mod_b (v := p6) (n := 3) (by omega)
  obtain ⟨n3, hn3⟩ : ∃ n : Nat, (n : Int) = 1 + p3 % 3 := ⟨(1 + p3 % 3).toNat, by omega⟩
  obtain ⟨n6, hn6⟩ : ∃ n : Nat, (n : Int) = p6 % 3 := ⟨(p6 % 3).toNat, by omega⟩
  obtain ⟨ms, m1, m2, m3⟩ := comp_ex (vs := [7]) (g := gName 7) (t := tYes) (e := eIx (bVar 1) (eBin .mod (eBlt .int (aCons (eIx (bVar 0) (eVar 7)) aNil)) (eBlt .len (aCons (bVar 1) aNil)))) (it := iRng rng1 (aCons (eBin .add (eCon (.int 1)) (eBin .mod (eBlt .int (aCons (eIx (bVar 0) (eCon (.int 3))) aNil)) (eCon (.int 3)))) aNil))
    (ρ := entry 8 [.lst (part.map .int), .lst (crew.map .str), .int days]) (xs := List.range n3) (enc := fun k : Nat => D.int (0 + (k : Int))) (fun x => x ∈ crew) D.str
    (ev_rng1 (j := (n3 : Nat)) (by rw [hn3]; exact ev_add rfl (ev_mod (ev_int (ev_ix rfl rfl h3)) rfl (by omega))) (rng1_nat (b := n3) (by omega))) (by rw [List.length_range]; exact big_of (by omega)) (fun k hk => by
      have hk2 := List.mem_range.mp hk
      obtain ⟨v, hv⟩ := I (0 + (k : Int)) (by omega) (by omega)
      obtain ⟨x, hx, e⟩ := pick (eb := bVar 1) (e := eIx (bVar 0) (eVar 7)) (ρ := [.val (.lst (part.map .int)), .val (.lst (crew.map .str)), .val (.int days), .no, .no, .no, .no, .val (.int (0 + (k : Int)))]) (enc := D.str) hc rfl (ev_ix rfl rfl hv)
      refine ⟨x, hx, ?_⟩
      show Option.map some (eIx (bVar 1) _ [.val (.lst (part.map .int)), .val (.lst (crew.map .str)), .val (.int days), .no, .no, .no, .no, .val (.int (0 + (k : Int)))]) = _
      rw [e]
      rfl)
  obtain ⟨ρ1, k1, sp, a6', a5', e1, l1, o1⟩ := for_inv (f := forTurn (gName 5) (sSeq (sAsg (gName 6) (eBin .mod (eBlt .int (aCons (eIx (bVar 0) (eBin .add (eCon (.int 7)) (eBin .mul (eCon (.int 2)) (eVar 5)))) aNil)) (eVar 2)))
    (sApp 4 (eTup (aCons (eVar 6) (aCons (eBin .add (eBin .add (eVar 6) (eCon (.int 1))) (eBin .mod (eBlt .int (aCons (eIx (bVar 0) (eBin .add (eCon (.int 8)) (eBin .mul (eCon (.int 2)) (eVar 5)))) aNil)) (eBin .sub (eVar 2) (eVar 6)))) aNil)))))) (enc := fun k : Nat => D.int (0 + (k : Int)))
    (fun pre ρ => ∃ (sp : List Span) (a5 a6 : Slot), ρ = [.val (.lst (part.map .int)), .val (.lst (crew.map .str)), .val (.int days), .val (.lst (ms.map .str)), .own (sp.map eSpan), a5, a6, .no] ∧ sp.length = pre.length ∧ ∀ s ∈ sp, SpanOk days s) (List.range n6)
    [.val (.lst (part.map .int)), .val (.lst (crew.map .str)), .val (.int days), .val (.lst (ms.map .str)), .own [], .no, .no, .no] (by
      rintro pre k post ρ hk ⟨sp, a5, a6, rfl, g1, g2⟩
      obtain ⟨hk1, hk2⟩ := range_pre hk
      subst hk1
      obtain ⟨v1, q1⟩ := I (7 + 2 * (0 + (pre.length : Int))) (by omega) (by omega)
      obtain ⟨v2, q2⟩ := I (8 + 2 * (0 + (pre.length : Int))) (by omega) (by omega)
      have hb := mod_b (v := v1) (n := days) (by omega)
      rw [turn_name]
      have z1 : sAsg (gName 6) (eBin .mod (eBlt .int (aCons (eIx (bVar 0) (eBin .add (eCon (.int 7)) (eBin .mul (eCon (.int 2)) (eVar 5)))) aNil)) (eVar 2)) [.val (.lst (part.map .int)), .val (.lst (crew.map .str)), .val (.int days), .val (.lst (ms.map .str)), .own (sp.map eSpan), .val (.int (0 + (pre.length : Int))), a6, .no] =
          some (.nx [.val (.lst (part.map .int)), .val (.lst (crew.map .str)), .val (.int days), .val (.lst (ms.map .str)), .own (sp.map eSpan), .val (.int (0 + (pre.length : Int))), .val (.int (v1 % days)), .no]) :=
        ev_set (ev_mod (ev_int (ev_ix rfl (ev_add rfl (ev_mul2 rfl rfl s2)) q1)) rfl (by omega)) rfl
      have z2 : sApp 4 (eTup (aCons (eVar 6) (aCons (eBin .add (eBin .add (eVar 6) (eCon (.int 1))) (eBin .mod (eBlt .int (aCons (eIx (bVar 0) (eBin .add (eCon (.int 8)) (eBin .mul (eCon (.int 2)) (eVar 5)))) aNil)) (eBin .sub (eVar 2) (eVar 6)))) aNil))) [.val (.lst (part.map .int)), .val (.lst (crew.map .str)), .val (.int days), .val (.lst (ms.map .str)), .own (sp.map eSpan), .val (.int (0 + (pre.length : Int))), .val (.int (v1 % days)), .no] =
          some (.nx [.val (.lst (part.map .int)), .val (.lst (crew.map .str)), .val (.int days), .val (.lst (ms.map .str)), .own ((sp ++ [(v1 % days, v1 % days + 1 + v2 % (days - v1 % days))]).map eSpan), .val (.int (0 + (pre.length : Int))), .val (.int (v1 % days)), .no]) := by
        rw [List.map_append]
        exact ev_app (ds := sp.map eSpan) (ev_tup (ev_a2 rfl (ev_add (ev_add rfl rfl) (ev_mod (ev_int (ev_ix rfl (ev_add rfl (ev_mul2 rfl rfl s2)) q2)) (ev_sub rfl rfl) (by omega)))) (by simp)) rfl (by rw [List.length_map]; omega)
      refine ⟨_, ev_seq z1 z2, sp ++ [(v1 % days, v1 % days + 1 + v2 % (days - v1 % days))], _, _, rfl, by simp [g1], fun s hs => ?_⟩
      rcases List.mem_append.mp hs with hs | hs
      · exact g2 s hs
      · rw [List.mem_singleton.mp hs]
        exact span_mk (by omega)) ⟨[], .no, .no, rfl, rfl, fun s hs => by cases hs⟩
  rw [List.length_range] at l1 m2
  have hfin : b__law_layer (entry 8 [.lst (part.map .int), .lst (crew.map .str), .int days]) = some (.rt (eLay ⟨ms, p4 % 13, 1 + p5 % 9, sp⟩)) := by
    refine ev_seq (ev_set m1 rfl) (ev_seq (ρ1 := [.val (.lst (part.map .int)), .val (.lst (crew.map .str)), .val (.int days), .val (.lst (ms.map .str)), .own [], .no, .no, .no]) rfl (ev_seq (ev_for (ev_rng1 (j := (n6 : Nat)) (by rw [hn6]; exact ev_mod (ev_int (ev_ix rfl rfl h6)) rfl (by omega)) (rng1_nat (b := n6) (by omega))) k1) ?_))
    rw [e1]
    exact ev_ret (ρ := [.val (.lst (part.map .int)), .val (.lst (crew.map .str)), .val (.int days), .val (.lst (ms.map .str)), .val (.lst (sp.map eSpan)), a6', a5', .no]) (ev_tup (ev_cons (ev_blt1 (d := .lst (ms.map .str)) rfl rfl) (ev_a3 (ev_mod (ev_int (ev_ix rfl rfl h4)) rfl (by omega)) (ev_add rfl (ev_mod (ev_int (ev_ix rfl rfl h5)) rfl (by omega))) (ev_blt1 (d := .lst (sp.map eSpan)) rfl rfl))) (by simp))
  refine ⟨⟨ms, p4 % 13, 1 + p5 % 9, sp⟩, run_rt rfl hfin, ⟨fun z => ?_, by show ms.length ≤ 3; omega, a4, by show p4 % 13 ≤ 12; omega, by show 1 ≤ 1 + p5 % 9; omega, by show 1 + p5 % 9 ≤ 9; omega, by show sp.length ≤ 2; omega⟩, m3, o1⟩
  have z2 : ms = [] := z
  rw [z2] at m2
  simp at m2
  omega
structure SchK (days : Int) (crew : List Str) (s : Sch) : Prop where
  ll : s.ls.length ≤ 2
  lk : ∀ l ∈ s.ls, LayK days crew l
  sl : s.ss.length ≤ 3
  sk : ∀ x ∈ s.ss, 0 ≤ x.1 ∧ x.1 < x.2.1 ∧ x.2.1 ≤ 42 ∧ x.2.2 ∈ crew
theorem rota_eq {c days : Int} {nm : Str} {crew : List Str} (hc : crew ≠ []) (hd : 2 ≤ days) (hd2 : days ≤ 24) : ∃ s : Sch, s__law_rota [.int c, .str nm, .lst (crew.map .str), .int days] = some (eSch s) ∧ s.nm = nm ∧ SchK days crew s := by
  have s11 : small64 11 = true := small64_of (by omega) (by omega)
  have s3 : small64 3 = true := small64_of (by omega) (by omega)
  obtain ⟨dr, d1, d2, d3⟩ := draws_eq (c := c) (n := 40) (by omega)
  have I : ∀ i : Int, 0 ≤ i → i < 40 → ∃ v : Int, ixD (.lst (dr.map .int)) (.int i) = some (.int v) := fun i a b => ix_int a (by omega)
  obtain ⟨p0, h0⟩ := I 0 (by omega) (by omega)
  obtain ⟨p1, h1⟩ := I 1 (by omega) (by omega)
  obtain ⟨a1, b1⟩ := mod_b (v := p1) (n := 4) (by omega)
  obtain ⟨n1, hn1⟩ : ∃ n : Nat, (n : Int) = p1 % 4 := ⟨(p1 % 4).toNat, by omega⟩
  obtain ⟨n0, hn0, hn02⟩ : ∃ n : Nat, (n : Int) = (if decide (0 < p0 % 8) = true then 1 else 0) + (if decide (p0 % 3 = 1) = true then 1 else 0) ∧ n ≤ 2 := by
    refine ⟨((if decide (0 < p0 % 8) = true then 1 else 0) + (if decide (p0 % 3 = 1) = true then 1 else 0) : Int).toNat, ?_, ?_⟩ <;> split <;> split <;> omega
  obtain ⟨ρ1, k1, ls, a6, e1, l1, o1⟩ := for_inv (f := forTurn (gName 6) (sApp 5 (eCall s__law_layer (aCons (eSl (eVar 4) (oSome (eBin .add (eCon (.int 2)) (eBin .mul (eCon (.int 11)) (eVar 6)))) (oSome (eBin .add (eCon (.int 13)) (eBin .mul (eCon (.int 11)) (eVar 6))))) (aCons (eVar 2) (aCons (eVar 3) aNil)))))) (enc := fun k : Nat => D.int (0 + (k : Int)))
    (fun pre ρ => ∃ (ls : List Lay) (a6 : Slot), ρ = [.val (.int c), .val (.str nm), .val (.lst (crew.map .str)), .val (.int days), .val (.lst (dr.map .int)), .own (ls.map eLay), a6, .no, .no] ∧ ls.length = pre.length ∧ ∀ l ∈ ls, LayK days crew l) (List.range n0)
    [.val (.int c), .val (.str nm), .val (.lst (crew.map .str)), .val (.int days), .val (.lst (dr.map .int)), .own [], .no, .no, .no] (by
      rintro pre k post ρ hk ⟨ls, a6, rfl, g1, g2⟩
      obtain ⟨hk1, hk2⟩ := range_pre hk
      subst hk1
      have hcut := cut_len (xs := dr) (lo := 2 + 11 * (0 + (pre.length : Int))) (hi := 13 + 11 * (0 + (pre.length : Int))) (by omega) (by omega) (by omega)
      obtain ⟨l, hl, hlk⟩ := layer_eq (part := cutD dr (some (2 + 11 * (0 + (pre.length : Int)))) (some (13 + 11 * (0 + (pre.length : Int))))) (crew := crew) (days := days) (by omega) hc hd hd2
      rw [turn_name]
      rw [← cut_map] at hl
      refine ⟨[.val (.int c), .val (.str nm), .val (.lst (crew.map .str)), .val (.int days), .val (.lst (dr.map .int)), .own ((ls ++ [l]).map eLay), .val (.int (0 + (pre.length : Int))), .no, .no], ?_, ls ++ [l], _, rfl, by simp [g1], fun x hx => ?_⟩
      · rw [List.map_append]
        exact ev_app (ds := ls.map eLay) (ev_call3 (b := .lst (crew.map .str)) (c := .int days) (ev_slI rfl (ev_add rfl (ev_mul2 rfl rfl s11)) (ev_add rfl (ev_mul2 rfl rfl s11))) rfl rfl hl) rfl (by rw [List.length_map]; omega)
      · rcases List.mem_append.mp hx with hx | hx
        · exact g2 x hx
        · rw [List.mem_singleton.mp hx]
          exact hlk) ⟨[], .no, rfl, rfl, fun s hs => by cases hs⟩
  obtain ⟨ρ2, k2, ss, b6, b8, e2, l2, o2⟩ := for_inv (f := forTurn (gName 6) (sSeq (sAsg (gName 8) (eBin .mod (eBlt .int (aCons (eIx (bVar 4) (eBin .add (eCon (.int 24)) (eBin .mul (eCon (.int 3)) (eVar 6)))) aNil)) (eCon (.int 30))))
    (sApp 7 (eTup (aCons (eVar 8) (aCons (eBin .add (eBin .add (eVar 8) (eCon (.int 1))) (eBin .mod (eBlt .int (aCons (eIx (bVar 4) (eBin .add (eCon (.int 25)) (eBin .mul (eCon (.int 3)) (eVar 6)))) aNil)) (eCon (.int 12)))) (aCons (eIx (bVar 2) (eBin .mod (eBlt .int (aCons (eIx (bVar 4) (eBin .add (eCon (.int 26)) (eBin .mul (eCon (.int 3)) (eVar 6)))) aNil)) (eBlt .len (aCons (bVar 2) aNil)))) aNil))))))) (enc := fun k : Nat => D.int (0 + (k : Int)))
    (fun pre ρ => ∃ (ss : List (Int × Int × Str)) (a6 a8 : Slot), ρ = [.val (.int c), .val (.str nm), .val (.lst (crew.map .str)), .val (.int days), .val (.lst (dr.map .int)), .own (ls.map eLay), a6, .own (ss.map eStd), a8] ∧ ss.length = pre.length ∧ ∀ x ∈ ss, 0 ≤ x.1 ∧ x.1 < x.2.1 ∧ x.2.1 ≤ 42 ∧ x.2.2 ∈ crew) (List.range n1)
    [.val (.int c), .val (.str nm), .val (.lst (crew.map .str)), .val (.int days), .val (.lst (dr.map .int)), .own (ls.map eLay), a6, .own [], .no] (by
      rintro pre k post ρ hk ⟨ss, a6, a8, rfl, g1, g2⟩
      obtain ⟨hk1, hk2⟩ := range_pre hk
      subst hk1
      obtain ⟨v1, q1⟩ := I (24 + 3 * (0 + (pre.length : Int))) (by omega) (by omega)
      obtain ⟨v2, q2⟩ := I (25 + 3 * (0 + (pre.length : Int))) (by omega) (by omega)
      obtain ⟨v3, q3⟩ := I (26 + 3 * (0 + (pre.length : Int))) (by omega) (by omega)
      obtain ⟨x1, x2⟩ := mod_b (v := v1) (n := 30) (by omega)
      obtain ⟨y1, y2⟩ := mod_b (v := v2) (n := 12) (by omega)
      rw [turn_name]
      obtain ⟨p, hp, ep⟩ := pick (eb := bVar 2) (e := eIx (bVar 4) (eBin .add (eCon (.int 26)) (eBin .mul (eCon (.int 3)) (eVar 6)))) (ρ := [.val (.int c), .val (.str nm), .val (.lst (crew.map .str)), .val (.int days), .val (.lst (dr.map .int)), .own (ls.map eLay), .val (.int (0 + (pre.length : Int))), .own (ss.map eStd), .val (.int (v1 % 30))]) (enc := D.str) hc rfl (ev_ix rfl (ev_add rfl (ev_mul2 rfl rfl s3)) q3)
      have z1 : sAsg (gName 8) (eBin .mod (eBlt .int (aCons (eIx (bVar 4) (eBin .add (eCon (.int 24)) (eBin .mul (eCon (.int 3)) (eVar 6)))) aNil)) (eCon (.int 30))) [.val (.int c), .val (.str nm), .val (.lst (crew.map .str)), .val (.int days), .val (.lst (dr.map .int)), .own (ls.map eLay), .val (.int (0 + (pre.length : Int))), .own (ss.map eStd), a8] =
          some (.nx [.val (.int c), .val (.str nm), .val (.lst (crew.map .str)), .val (.int days), .val (.lst (dr.map .int)), .own (ls.map eLay), .val (.int (0 + (pre.length : Int))), .own (ss.map eStd), .val (.int (v1 % 30))]) :=
        ev_set (ev_mod (ev_int (ev_ix rfl (ev_add rfl (ev_mul2 rfl rfl s3)) q1)) rfl (by omega)) rfl
      refine ⟨[.val (.int c), .val (.str nm), .val (.lst (crew.map .str)), .val (.int days), .val (.lst (dr.map .int)), .own (ls.map eLay), .val (.int (0 + (pre.length : Int))), .own ((ss ++ [(v1 % 30, v1 % 30 + 1 + v2 % 12, p)]).map eStd), .val (.int (v1 % 30))], ev_seq z1 ?_, ss ++ [(v1 % 30, v1 % 30 + 1 + v2 % 12, p)], _, _, rfl, by simp [g1], fun x hx => ?_⟩
      · rw [List.map_append]
        exact ev_app (ds := ss.map eStd) (ev_tup (ev_a3 rfl (ev_add (ev_add rfl rfl) (ev_mod (ev_int (ev_ix rfl (ev_add rfl (ev_mul2 rfl rfl s3)) q2)) rfl (by omega))) ep) (by simp)) rfl (by rw [List.length_map]; omega)
      · rcases List.mem_append.mp hx with hx | hx
        · exact g2 x hx
        · rw [List.mem_singleton.mp hx]
          exact ⟨x1, by show v1 % 30 < v1 % 30 + 1 + v2 % 12; omega, by show v1 % 30 + 1 + v2 % 12 ≤ 42; omega, hp⟩) ⟨[], a6, .no, rfl, rfl, fun s hs => by cases hs⟩
  rw [List.length_range] at l1 l2
  have hfin : b__law_rota (entry 9 [.int c, .str nm, .lst (crew.map .str), .int days]) = some (.rt (eSch ⟨nm, ls, ss⟩)) := by
    have z1 : sAsg (gName 4) (eCall s__law_draws (aCons (eVar 0) (aCons (eCon (.int 40)) aNil))) (entry 9 [.int c, .str nm, .lst (crew.map .str), .int days]) = some (.nx [.val (.int c), .val (.str nm), .val (.lst (crew.map .str)), .val (.int days), .val (.lst (dr.map .int)), .no, .no, .no, .no]) :=
      ev_set (ev_call2 (a := .int c) (b := .int 40) rfl rfl d1) rfl
    have hlen : eBin .add (eBlt .int (aCons (eTest (tCmp .gt (eBin .mod (eIx (bVar 4) (eCon (.int 0))) (eCon (.int 8))) (eCon (.int 0)))) aNil)) (eBlt .int (aCons (eTest (tCmp .eq (eBin .mod (eIx (bVar 4) (eCon (.int 0))) (eCon (.int 3))) (eCon (.int 1)))) aNil)) [.val (.int c), .val (.str nm), .val (.lst (crew.map .str)), .val (.int days), .val (.lst (dr.map .int)), .own [], .no, .no, .no] = some (.int (n0 : Nat)) := by
      rw [hn0]
      exact ev_add (ev_blt1 (ev_test (ev_cmp (ev_mod (ev_ix rfl rfl h0) rfl (by omega)) rfl rfl)) rfl) (ev_blt1 (ev_test (ev_cmp (ev_mod (ev_ix rfl rfl h0) rfl (by omega)) rfl rfl)) rfl)
    refine ev_seq z1 (ev_seq (ρ1 := [.val (.int c), .val (.str nm), .val (.lst (crew.map .str)), .val (.int days), .val (.lst (dr.map .int)), .own [], .no, .no, .no]) rfl (ev_seq (ev_for (ev_rng1 (j := (n0 : Nat)) hlen (rng1_nat (b := n0) (by omega))) k1) ?_))
    rw [e1]
    refine ev_seq (ρ1 := [.val (.int c), .val (.str nm), .val (.lst (crew.map .str)), .val (.int days), .val (.lst (dr.map .int)), .own (ls.map eLay), a6, .own [], .no]) rfl (ev_seq (ev_for (ev_rng1 (j := (n1 : Nat)) (by rw [hn1]; exact ev_mod (ev_int (ev_ix rfl rfl h1)) rfl (by omega)) (rng1_nat (b := n1) (by omega))) k2) ?_)
    rw [e2]
    exact ev_ret (ρ := [.val (.int c), .val (.str nm), .val (.lst (crew.map .str)), .val (.int days), .val (.lst (dr.map .int)), .val (.lst (ls.map eLay)), b6, .val (.lst (ss.map eStd)), b8]) (ev_tup (ev_a3 rfl (ev_blt1 (d := .lst (ls.map eLay)) rfl rfl) (ev_blt1 (d := .lst (ss.map eStd)) rfl rfl)) (by simp))
  exact ⟨⟨nm, ls, ss⟩, run_rt rfl hfin, rfl, by show ls.length ≤ 2; omega, o1, by show ss.length ≤ 3; omega, o2⟩
structure PolK (titles : List Str) (p : Pol) : Prop where
  l0 : 1 ≤ p.lv.length
  l1 : p.lv.length ≤ 3
  lk : ∀ l ∈ p.lv, l.1 ∈ titles ∧ 0 ≤ l.2 ∧ l.2 ≤ 8
theorem ladder_eq {dr : List Int} {nm : Str} {titles : List Str} (hd : dr.length = 8) (ht : titles ≠ []) : ∃ p : Pol, s__law_ladder [.lst (dr.map .int), .str nm, .lst (titles.map .str)] = some (ePol p) ∧ p.nm = nm ∧ PolK titles p := by
  have s2 : small64 2 = true := small64_of (by omega) (by omega)
  have I : ∀ i : Int, 0 ≤ i → i < 8 → ∃ v : Int, ixD (.lst (dr.map .int)) (.int i) = some (.int v) := fun i a b => ix_int a (by omega)
  obtain ⟨p0, h0⟩ := I 0 (by omega) (by omega)
  obtain ⟨a0, b0⟩ := mod_b (v := p0) (n := 3) (by omega)
  obtain ⟨n0, hn0⟩ : ∃ n : Nat, (n : Int) = 1 + p0 % 3 := ⟨(1 + p0 % 3).toNat, by omega⟩
  obtain ⟨ρ1, k1, lv, a4, e1, l1, o1⟩ := for_inv (f := forTurn (gName 4) (sApp 3 (eTup (aCons (eIx (bVar 2) (eBin .mod (eBlt .int (aCons (eIx (bVar 0) (eBin .add (eCon (.int 1)) (eBin .mul (eCon (.int 2)) (eVar 4)))) aNil)) (eBlt .len (aCons (bVar 2) aNil)))) (aCons (eBin .mod (eBlt .int (aCons (eIx (bVar 0) (eBin .add (eCon (.int 2)) (eBin .mul (eCon (.int 2)) (eVar 4)))) aNil)) (eCon (.int 9))) aNil))))) (enc := fun k : Nat => D.int (0 + (k : Int)))
    (fun pre ρ => ∃ (lv : List (Str × Int)) (a4 : Slot), ρ = [.val (.lst (dr.map .int)), .val (.str nm), .val (.lst (titles.map .str)), .own (lv.map eLev), a4] ∧ lv.length = pre.length ∧ ∀ l ∈ lv, l.1 ∈ titles ∧ 0 ≤ l.2 ∧ l.2 ≤ 8) (List.range n0)
    [.val (.lst (dr.map .int)), .val (.str nm), .val (.lst (titles.map .str)), .own [], .no] (by
      rintro pre k post ρ hk ⟨lv, a4, rfl, g1, g2⟩
      obtain ⟨hk1, hk2⟩ := range_pre hk
      subst hk1
      obtain ⟨v1, q1⟩ := I (1 + 2 * (0 + (pre.length : Int))) (by omega) (by omega)
      obtain ⟨v2, q2⟩ := I (2 + 2 * (0 + (pre.length : Int))) (by omega) (by omega)
      obtain ⟨x1, x2⟩ := mod_b (v := v2) (n := 9) (by omega)
      rw [turn_name]
      obtain ⟨t, ht2, et⟩ := pick (eb := bVar 2) (e := eIx (bVar 0) (eBin .add (eCon (.int 1)) (eBin .mul (eCon (.int 2)) (eVar 4)))) (ρ := [.val (.lst (dr.map .int)), .val (.str nm), .val (.lst (titles.map .str)), .own (lv.map eLev), .val (.int (0 + (pre.length : Int)))]) (enc := D.str) ht rfl (ev_ix rfl (ev_add rfl (ev_mul2 rfl rfl s2)) q1)
      refine ⟨[.val (.lst (dr.map .int)), .val (.str nm), .val (.lst (titles.map .str)), .own ((lv ++ [(t, v2 % 9)]).map eLev), .val (.int (0 + (pre.length : Int)))], ?_, lv ++ [(t, v2 % 9)], _, rfl, by simp [g1], fun x hx => ?_⟩
      · rw [List.map_append]
        exact ev_app (ds := lv.map eLev) (ev_tup (ev_a2 et (ev_mod (ev_int (ev_ix rfl (ev_add rfl (ev_mul2 rfl rfl s2)) q2)) rfl (by omega))) (by simp)) rfl (by rw [List.length_map]; omega)
      · rcases List.mem_append.mp hx with hx | hx
        · exact g2 x hx
        · rw [List.mem_singleton.mp hx]
          exact ⟨ht2, x1, by show v2 % 9 ≤ 8; omega⟩) ⟨[], .no, rfl, rfl, fun s hs => by cases hs⟩
  rw [List.length_range] at l1
  have hfin : b__law_ladder (entry 5 [.lst (dr.map .int), .str nm, .lst (titles.map .str)]) = some (.rt (ePol ⟨nm, lv⟩)) := by
    refine ev_seq (ρ1 := [.val (.lst (dr.map .int)), .val (.str nm), .val (.lst (titles.map .str)), .own [], .no]) rfl (ev_seq (ev_for (ev_rng1 (j := (n0 : Nat)) (by rw [hn0]; exact ev_add rfl (ev_mod (ev_int (ev_ix rfl rfl h0)) rfl (by omega))) (rng1_nat (b := n0) (by omega))) k1) ?_)
    rw [e1]
    exact ev_ret (ρ := [.val (.lst (dr.map .int)), .val (.str nm), .val (.lst (titles.map .str)), .val (.lst (lv.map eLev)), a4]) (ev_tup (ev_a2 rfl (ev_blt1 (d := .lst (lv.map eLev)) rfl rfl)) (by simp))
  exact ⟨⟨nm, lv⟩, run_rt rfl hfin, rfl, by show 1 ≤ lv.length; omega, by show lv.length ≤ 3; omega, o1⟩
structure WinK (days : Int) (p : Win) : Prop where
  l0 : 1 ≤ p.sp.length
  l1 : p.sp.length ≤ 2
  sp : ∀ s ∈ p.sp, SpanOk days s
theorem shutter_eq {dr : List Int} {nm : Str} {days : Int} (hdr : dr.length = 6) (hd : 2 ≤ days) : ∃ p : Win, s__law_shutter [.lst (dr.map .int), .str nm, .int days] = some (eWin p) ∧ p.nm = nm ∧ WinK days p := by
  have s2 : small64 2 = true := small64_of (by omega) (by omega)
  have I : ∀ i : Int, 0 ≤ i → i < 6 → ∃ v : Int, ixD (.lst (dr.map .int)) (.int i) = some (.int v) := fun i a b => ix_int a (by omega)
  obtain ⟨p0, h0⟩ := I 0 (by omega) (by omega)
  obtain ⟨a0, b0⟩ := mod_b (v := p0) (n := 2) (by omega)
  obtain ⟨n0, hn0⟩ : ∃ n : Nat, (n : Int) = 1 + p0 % 2 := ⟨(1 + p0 % 2).toNat, by omega⟩
  obtain ⟨ρ1, k1, sp, a4, a5, e1, l1, o1⟩ := for_inv (f := forTurn (gName 4) (sSeq (sAsg (gName 5) (eBin .mod (eBlt .int (aCons (eIx (bVar 0) (eBin .add (eCon (.int 1)) (eBin .mul (eCon (.int 2)) (eVar 4)))) aNil)) (eVar 2)))
    (sApp 3 (eTup (aCons (eVar 5) (aCons (eBin .add (eBin .add (eVar 5) (eCon (.int 1))) (eBin .mod (eBlt .int (aCons (eIx (bVar 0) (eBin .add (eCon (.int 2)) (eBin .mul (eCon (.int 2)) (eVar 4)))) aNil)) (eBin .sub (eVar 2) (eVar 5)))) aNil)))))) (enc := fun k : Nat => D.int (0 + (k : Int)))
    (fun pre ρ => ∃ (sp : List Span) (a4 a5 : Slot), ρ = [.val (.lst (dr.map .int)), .val (.str nm), .val (.int days), .own (sp.map eSpan), a4, a5] ∧ sp.length = pre.length ∧ ∀ s ∈ sp, SpanOk days s) (List.range n0)
    [.val (.lst (dr.map .int)), .val (.str nm), .val (.int days), .own [], .no, .no] (by
      rintro pre k post ρ hk ⟨sp, a4, a5, rfl, g1, g2⟩
      obtain ⟨hk1, hk2⟩ := range_pre hk
      subst hk1
      obtain ⟨v1, q1⟩ := I (1 + 2 * (0 + (pre.length : Int))) (by omega) (by omega)
      obtain ⟨v2, q2⟩ := I (2 + 2 * (0 + (pre.length : Int))) (by omega) (by omega)
      have hb := mod_b (v := v1) (n := days) (by omega)
      rw [turn_name]
      have z1 : sAsg (gName 5) (eBin .mod (eBlt .int (aCons (eIx (bVar 0) (eBin .add (eCon (.int 1)) (eBin .mul (eCon (.int 2)) (eVar 4)))) aNil)) (eVar 2)) [.val (.lst (dr.map .int)), .val (.str nm), .val (.int days), .own (sp.map eSpan), .val (.int (0 + (pre.length : Int))), a5] =
          some (.nx [.val (.lst (dr.map .int)), .val (.str nm), .val (.int days), .own (sp.map eSpan), .val (.int (0 + (pre.length : Int))), .val (.int (v1 % days))]) :=
        ev_set (ev_mod (ev_int (ev_ix rfl (ev_add rfl (ev_mul2 rfl rfl s2)) q1)) rfl (by omega)) rfl
      refine ⟨[.val (.lst (dr.map .int)), .val (.str nm), .val (.int days), .own ((sp ++ [(v1 % days, v1 % days + 1 + v2 % (days - v1 % days))]).map eSpan), .val (.int (0 + (pre.length : Int))), .val (.int (v1 % days))], ev_seq z1 ?_, sp ++ [(v1 % days, v1 % days + 1 + v2 % (days - v1 % days))], _, _, rfl, by simp [g1], fun s hs => ?_⟩
      · rw [List.map_append]
        exact ev_app (ds := sp.map eSpan) (ev_tup (ev_a2 rfl (ev_add (ev_add rfl rfl) (ev_mod (ev_int (ev_ix rfl (ev_add rfl (ev_mul2 rfl rfl s2)) q2)) (ev_sub rfl rfl) (by omega)))) (by simp)) rfl (by rw [List.length_map]; omega)
      · rcases List.mem_append.mp hs with hs | hs
        · exact g2 s hs
        · rw [List.mem_singleton.mp hs]
          exact span_mk (by omega)) ⟨[], .no, .no, rfl, rfl, fun s hs => by cases hs⟩
  rw [List.length_range] at l1
  have hfin : b__law_shutter (entry 6 [.lst (dr.map .int), .str nm, .int days]) = some (.rt (eWin ⟨nm, sp⟩)) := by
    refine ev_seq (ρ1 := [.val (.lst (dr.map .int)), .val (.str nm), .val (.int days), .own [], .no, .no]) rfl (ev_seq (ev_for (ev_rng1 (j := (n0 : Nat)) (by rw [hn0]; exact ev_add rfl (ev_mod (ev_int (ev_ix rfl rfl h0)) rfl (by omega))) (rng1_nat (b := n0) (by omega))) k1) ?_)
    rw [e1]
    exact ev_ret (ρ := [.val (.lst (dr.map .int)), .val (.str nm), .val (.int days), .val (.lst (sp.map eSpan)), a4, a5]) (ev_tup (ev_a2 rfl (ev_blt1 (d := .lst (sp.map eSpan)) rfl rfl)) (by simp))
  exact ⟨⟨nm, sp⟩, run_rt rfl hfin, rfl, by show 1 ≤ sp.length; omega, by show sp.length ≤ 2; omega, o1⟩
end WF
end
/-! text M19 -/
section
set_option Elab.async false
set_option linter.all false
set_option maxHeartbeats 1000000
/-! Routes, holdbacks. -/
namespace WF
open PySem
structure RouK (ladders shutters : List Str) (place : Int) (r : Rou) : Prop where
  p0 : place = 0 → r.pa = none ∧ r.mt = []
  p1 : 0 < place → ∃ p, r.pa = some p ∧ 0 ≤ p ∧ p < place
  ml : r.mt.length ≤ 2
  mko : ∀ m ∈ r.mt, MatOk m
  gl : r.se.gr.length ≤ 2
  gk : ∀ g ∈ r.se.gr, LabOk g
  wt0 : 0 ≤ r.se.wt
  wt1 : r.se.wt ≤ 4
  iv0 : 1 ≤ r.se.iv
  iv1 : r.se.iv ≤ 6
  ag0 : r.se.iv ≤ r.se.ag
  ag1 : r.se.ag ≤ 14
  mul : r.se.mu.length ≤ 2
  mum : ∀ n ∈ r.se.mu, n ∈ shutters
  pol : r.se.po ∈ ladders
theorem cut_pre {α : Type} {xs : List α} {hi : Int} (h0 : 0 ≤ hi) : cutD xs none (some hi) = xs.take hi.toNat := by
  unfold cutD sIx
  dsimp only
  rw [if_neg (show ¬ hi < 0 by omega), List.drop_zero, Nat.sub_zero]
  by_cases c : hi.toNat ≤ xs.length
  · rw [Nat.min_eq_left c]
  · rw [Nat.min_eq_right (by omega), List.take_of_length_le (Nat.le_refl _), List.take_of_length_le (by omega)]
theorem ev_slP {e e2 : SE} {ρ : Env} {ds : List D} {hi : Int} (h : e ρ = some (.lst ds)) (h2 : e2 ρ = some (.int hi)) : eSl e oNone (oSome e2) ρ = some (.lst (cutD ds none (some hi))) := by
  show (e ρ).bind (fun x => (oNone ρ).bind fun l => ((e2 ρ).bind fun d => match d with
    | .int i => some (some i)
    | _ => none).bind fun h => slD x l h) = _
  rw [h, h2]
  rfl
theorem route_eq {c place : Int} {nm wo ladders shutters : List Str} (hn : WordsOk nm 3) (hl : wo.length = 3) (hv : ∀ x ∈ wo, ValOk x) (h0 : 0 ≤ place) (hpl : place ≤ 4) (hla : ladders ≠ []) (hsh : shutters.length ≤ 2) :
    ∃ r : Rou, s__law_route [.int c, .int place, .lst (nm.map .str), .lst (wo.map .str), .lst (ladders.map .str), .lst (shutters.map .str)] = some (eRou r) ∧ RouK ladders shutters place r := by
  have s2 : small64 2 = true := small64_of (by omega) (by omega)
  have hn0 : nm ≠ [] := fun z => by have := hn.len; rw [z] at this; cases this
  obtain ⟨dr, d1, d2, d3⟩ := draws_eq (c := c) (n := 16) (by omega)
  have I : ∀ i : Int, 0 ≤ i → i < 16 → ∃ v : Int, ixD (.lst (dr.map .int)) (.int i) = some (.int v) := fun i a b => ix_int a (by omega)
  obtain ⟨p0, h00⟩ := I 0 (by omega) (by omega)
  obtain ⟨p1, h1⟩ := I 1 (by omega) (by omega)
  obtain ⟨p6, h6⟩ := I 6 (by omega) (by omega)
  obtain ⟨p7, h7⟩ := I 7 (by omega) (by omega)
  obtain ⟨p8, h8⟩ := I 8 (by omega) (by omega)
  obtain ⟨p9, h9⟩ := I 9 (by omega) (by omega)
  obtain ⟨p10, h10⟩ := I 10 (by omega) (by omega)
  obtain ⟨p11, h11⟩ := I 11 (by omega) (by omega)
  obtain ⟨p12, h12⟩ := I 12 (by omega) (by omega)
  obtain ⟨a1, b1⟩ := mod_b (v := p1) (n := 3) (by omega)
  obtain ⟨a6, b6⟩ := mod_b (v := p6) (n := 3) (by omega)
  obtain ⟨a8, b8⟩ := mod_b (v := p8) (n := 5) (by omega)
  obtain ⟨a9, b9⟩ := mod_b (v := p9) (n := 6) (by omega)
  obtain ⟨a10, b10⟩ := mod_b (v := p10) (n := 9) (by omega)
  obtain ⟨a11, b11⟩ := mod_b (v := p11) (n := (shutters.length : Int) + 1) (by omega)
  obtain ⟨n1, hn1⟩ : ∃ n : Nat, (n : Int) = p1 % 3 := ⟨(p1 % 3).toNat, by omega⟩
  obtain ⟨n6, hn6⟩ : ∃ n : Nat, (n : Int) = p6 % 3 := ⟨(p6 % 3).toNat, by omega⟩
  generalize hX : D.lst (ladders.map .str) = LA at *
  generalize hY : D.lst (shutters.map .str) = SH at *
  generalize hDR : D.lst (dr.map .int) = DR at *
  -- the parent, the matchers
  have A : ∃ (pa : Option Int) (mt : List Mat) (x9 : Slot), (place = 0 → pa = none ∧ mt = []) ∧ (0 < place → ∃ p, pa = some p ∧ 0 ≤ p ∧ p < place) ∧ mt.length ≤ 2 ∧ (∀ m ∈ mt, MatOk m) ∧
      (sIf (tCmp .gt (eVar 1) (eCon (.int 0)))
    (sSeq (sAsg (gName 7) (eBin .mod (eBlt .int (aCons (eIx (bVar 6) (eCon (.int 0))) aNil)) (eVar 1)))
    (sFor (gName 9) (iRng rng1 (aCons (eBin .mod (eBlt .int (aCons (eIx (bVar 6) (eCon (.int 1))) aNil)) (eCon (.int 3))) aNil))
      (sApp 8 (eCall s__law_matcher (aCons (eIx (bVar 6) (eBin .add (eCon (.int 2)) (eBin .mul (eCon (.int 2)) (eVar 9)))) (aCons (eIx (bVar 6) (eBin .add (eCon (.int 3)) (eBin .mul (eCon (.int 2)) (eVar 9)))) (aCons (eVar 2) (aCons (eVar 3) aNil))))))))
    sNext) [.val (.int c), .val (.int place), .val (.lst (nm.map .str)), .val (.lst (wo.map .str)), .val LA, .val SH, .val DR, .val .non, .own [], .no, .no, .no, .no, .no, .no] =
      some (.nx [.val (.int c), .val (.int place), .val (.lst (nm.map .str)), .val (.lst (wo.map .str)), .val LA, .val SH, .val DR, .val (eOpt pa), .own (mt.map eMat), x9, .no, .no, .no, .no, .no]) := by
    have t1 : tCmp .gt (eVar 1) (eCon (.int 0)) [.val (.int c), .val (.int place), .val (.lst (nm.map .str)), .val (.lst (wo.map .str)), .val LA, .val SH, .val DR, .val .non, .own [], .no, .no, .no, .no, .no, .no] = some (decide (0 < place)) := rfl
    by_cases cp : 0 < place
    · rw [decide_eq_true cp] at t1
      obtain ⟨q0, q1⟩ := mod_b (v := p0) (n := place) cp
      obtain ⟨ρ1, k1, mt, x9, e1, l1, o1⟩ := for_inv (f := forTurn (gName 9) (sApp 8 (eCall s__law_matcher (aCons (eIx (bVar 6) (eBin .add (eCon (.int 2)) (eBin .mul (eCon (.int 2)) (eVar 9)))) (aCons (eIx (bVar 6) (eBin .add (eCon (.int 3)) (eBin .mul (eCon (.int 2)) (eVar 9)))) (aCons (eVar 2) (aCons (eVar 3) aNil))))))) (enc := fun k : Nat => D.int (0 + (k : Int)))
        (fun pre ρ => ∃ (mt : List Mat) (x9 : Slot), ρ = [.val (.int c), .val (.int place), .val (.lst (nm.map .str)), .val (.lst (wo.map .str)), .val LA, .val SH, .val DR, .val (.int (p0 % place)), .own (mt.map eMat), x9, .no, .no, .no, .no, .no] ∧ mt.length = pre.length ∧ ∀ m ∈ mt, MatOk m) (List.range n1)
        [.val (.int c), .val (.int place), .val (.lst (nm.map .str)), .val (.lst (wo.map .str)), .val LA, .val SH, .val DR, .val (.int (p0 % place)), .own [], .no, .no, .no, .no, .no, .no] (by
          rintro pre k post ρ hk ⟨mt, x9, rfl, g1, g2⟩
          obtain ⟨hk1, hk2⟩ := range_pre hk
          subst hk1
          obtain ⟨v1, r1⟩ := I (2 + 2 * (0 + (pre.length : Int))) (by omega) (by omega)
          obtain ⟨v2, r2⟩ := I (3 + 2 * (0 + (pre.length : Int))) (by omega) (by omega)
          obtain ⟨m, hm, hmo⟩ := matcher_eq (a := v1) (b := v2) hn hl hv
          rw [turn_name]
          refine ⟨[.val (.int c), .val (.int place), .val (.lst (nm.map .str)), .val (.lst (wo.map .str)), .val LA, .val SH, .val DR, .val (.int (p0 % place)), .own ((mt ++ [m]).map eMat), .val (.int (0 + (pre.length : Int))), .no, .no, .no, .no, .no], ?_, mt ++ [m], _, rfl, by simp [g1], fun x hx => ?_⟩
          · rw [List.map_append]
            exact ev_app (ds := mt.map eMat) (ev_call4 (c := .lst (nm.map .str)) (d := .lst (wo.map .str)) (ev_ix rfl (ev_add rfl (ev_mul2 rfl rfl s2)) r1) (ev_ix rfl (ev_add rfl (ev_mul2 rfl rfl s2)) r2) rfl rfl hm) rfl (by rw [List.length_map]; omega)
          · rcases List.mem_append.mp hx with hx | hx
            · exact g2 x hx
            · rw [List.mem_singleton.mp hx]
              exact hmo) ⟨[], .no, rfl, rfl, fun s hs => by cases hs⟩
      rw [List.length_range] at l1
      refine ⟨some (p0 % place), mt, x9, fun z => by omega, fun _ => ⟨_, rfl, q0, q1⟩, by omega, o1, ev_ifT t1 (ev_seq (ρ1 := [.val (.int c), .val (.int place), .val (.lst (nm.map .str)), .val (.lst (wo.map .str)), .val LA, .val SH, .val DR, .val (.int (p0 % place)), .own [], .no, .no, .no, .no, .no, .no]) (ev_set (ev_mod (ev_int (ev_ix rfl rfl h00)) rfl cp) rfl) (ev_for (ev_rng1 (j := (n1 : Nat)) (by rw [hn1]; exact ev_mod (ev_int (ev_ix rfl rfl h1)) rfl (by omega)) (rng1_nat (b := n1) (by omega))) ?_))⟩
      rw [k1, e1]
      rfl
    · rw [decide_eq_false cp] at t1
      exact ⟨none, [], .no, fun _ => ⟨rfl, rfl⟩, fun z => by omega, by simp, fun m hm => (by cases hm), ev_ifF (b := sNext) t1 rfl⟩
  obtain ⟨pa, mt, x9, A1, A2, A3, A4, z4⟩ := A
  obtain ⟨gr, g1, g2, g3⟩ := comp_ex (vs := [9]) (g := gName 9) (t := tYes) (e := eIx (bVar 2) (eBin .mod (eBlt .int (aCons (eBin .add (eIx (bVar 6) (eCon (.int 7))) (eVar 9)) aNil)) (eBlt .len (aCons (bVar 2) aNil)))) (it := iRng rng1 (aCons (eBin .mod (eBlt .int (aCons (eIx (bVar 6) (eCon (.int 6))) aNil)) (eCon (.int 3))) aNil))
    (ρ := [.val (.int c), .val (.int place), .val (.lst (nm.map .str)), .val (.lst (wo.map .str)), .val LA, .val SH, .val DR, .val (eOpt pa), .own (mt.map eMat), x9, .no, .no, .no, .no, .no]) (xs := List.range n6) (enc := fun k : Nat => D.int (0 + (k : Int))) (fun x => x ∈ nm) D.str
    (ev_rng1 (j := (n6 : Nat)) (by rw [hn6]; exact ev_mod (ev_int (ev_ix rfl rfl h6)) rfl (by omega)) (rng1_nat (b := n6) (by omega))) (by rw [List.length_range]; exact big_of (by omega)) (fun k hk => by
      obtain ⟨x, hx, e⟩ := pick (eb := bVar 2) (e := eBin .add (eIx (bVar 6) (eCon (.int 7))) (eVar 9)) (ρ := [.val (.int c), .val (.int place), .val (.lst (nm.map .str)), .val (.lst (wo.map .str)), .val LA, .val SH, .val DR, .val (eOpt pa), .own (mt.map eMat), .val (.int (0 + (k : Int))), .no, .no, .no, .no, .no]) (enc := D.str) hn0 rfl (ev_add (ev_ix rfl rfl h7) rfl)
      refine ⟨x, hx, ?_⟩
      show Option.map some (eIx (bVar 2) _ [.val (.int c), .val (.int place), .val (.lst (nm.map .str)), .val (.lst (wo.map .str)), .val LA, .val SH, .val DR, .val (eOpt pa), .own (mt.map eMat), .val (.int (0 + (k : Int))), .no, .no, .no, .no, .no]) = _
      rw [e]
      rfl)
  rw [List.length_range] at g2
  have hmu : cutD (shutters.map D.str) none (some (p11 % ((shutters.length : Int) + 1))) = (shutters.take (p11 % ((shutters.length : Int) + 1)).toNat).map D.str := by
    rw [cut_map, cut_pre a11]
  obtain ⟨po, hpo, epo⟩ := pick (eb := bVar 4) (e := eIx (bVar 6) (eCon (.int 12))) (ρ := [.val (.int c), .val (.int place), .val (.lst (nm.map .str)), .val (.lst (wo.map .str)), .val LA, .val SH, .val DR, .val (eOpt pa), .own (mt.map eMat), x9, .val (.lst (gr.map .str)), .val (.int (1 + p9 % 6)), .val (.int (1 + p9 % 6 + p10 % 9)), .val (.lst ((shutters.take (p11 % ((shutters.length : Int) + 1)).toNat).map .str)), .no]) (enc := D.str) hla (by rw [hX]; rfl) (ev_ix rfl rfl h12)
  have hfin : b__law_route (entry 15 [.int c, .int place, .lst (nm.map .str), .lst (wo.map .str), LA, SH]) = some (.rt (eRou ⟨pa, mt, ⟨gr, p8 % 5, 1 + p9 % 6, 1 + p9 % 6 + p10 % 9, shutters.take (p11 % ((shutters.length : Int) + 1)).toNat, po⟩⟩)) := by
    have z1 : sAsg (gName 6) (eCall s__law_draws (aCons (eVar 0) (aCons (eCon (.int 16)) aNil))) (entry 15 [.int c, .int place, .lst (nm.map .str), .lst (wo.map .str), LA, SH]) = some (.nx [.val (.int c), .val (.int place), .val (.lst (nm.map .str)), .val (.lst (wo.map .str)), .val LA, .val SH, .val DR, .no, .no, .no, .no, .no, .no, .no, .no]) :=
      ev_set (ev_call2 (a := .int c) (b := .int 16) rfl rfl d1) rfl
    refine ev_seq z1 (ev_seq (ρ1 := [.val (.int c), .val (.int place), .val (.lst (nm.map .str)), .val (.lst (wo.map .str)), .val LA, .val SH, .val DR, .val .non, .no, .no, .no, .no, .no, .no, .no]) rfl (ev_seq (ρ1 := [.val (.int c), .val (.int place), .val (.lst (nm.map .str)), .val (.lst (wo.map .str)), .val LA, .val SH, .val DR, .val .non, .own [], .no, .no, .no, .no, .no, .no]) rfl (ev_seq z4
      (ev_seq (ρ1 := [.val (.int c), .val (.int place), .val (.lst (nm.map .str)), .val (.lst (wo.map .str)), .val LA, .val SH, .val DR, .val (eOpt pa), .own (mt.map eMat), x9, .val (.lst (gr.map .str)), .no, .no, .no, .no]) (ev_set g1 rfl)
      (ev_seq (ρ1 := [.val (.int c), .val (.int place), .val (.lst (nm.map .str)), .val (.lst (wo.map .str)), .val LA, .val SH, .val DR, .val (eOpt pa), .own (mt.map eMat), x9, .val (.lst (gr.map .str)), .val (.int (1 + p9 % 6)), .no, .no, .no]) (ev_set (ev_add rfl (ev_mod (ev_int (ev_ix rfl rfl h9)) rfl (by omega))) rfl)
      (ev_seq (ρ1 := [.val (.int c), .val (.int place), .val (.lst (nm.map .str)), .val (.lst (wo.map .str)), .val LA, .val SH, .val DR, .val (eOpt pa), .own (mt.map eMat), x9, .val (.lst (gr.map .str)), .val (.int (1 + p9 % 6)), .val (.int (1 + p9 % 6 + p10 % 9)), .no, .no]) (ev_set (ev_add rfl (ev_mod (ev_int (ev_ix rfl rfl h10)) rfl (by omega))) rfl)
      (ev_seq (ρ1 := [.val (.int c), .val (.int place), .val (.lst (nm.map .str)), .val (.lst (wo.map .str)), .val LA, .val SH, .val DR, .val (eOpt pa), .own (mt.map eMat), x9, .val (.lst (gr.map .str)), .val (.int (1 + p9 % 6)), .val (.int (1 + p9 % 6 + p10 % 9)), .val (.lst ((shutters.take (p11 % ((shutters.length : Int) + 1)).toNat).map .str)), .no]) (ev_set (by rw [← hmu]; exact ev_slP (by rw [← hY]; rfl) (ev_mod (ev_int (ev_ix rfl rfl h11)) (ev_add (ev_blt1 (d := SH) rfl (by rw [← hY]; show some (D.int ((shutters.map D.str).length : Nat)) = _; rw [List.length_map])) rfl) (by omega))) rfl)
      (ev_seq (ρ1 := [.val (.int c), .val (.int place), .val (.lst (nm.map .str)), .val (.lst (wo.map .str)), .val LA, .val SH, .val DR, .val (eOpt pa), .own (mt.map eMat), x9, .val (.lst (gr.map .str)), .val (.int (1 + p9 % 6)), .val (.int (1 + p9 % 6 + p10 % 9)), .val (.lst ((shutters.take (p11 % ((shutters.length : Int) + 1)).toNat).map .str)), .val (.str po)]) (ev_set epo rfl) ?_))))))))
    exact ev_ret (ρ := [.val (.int c), .val (.int place), .val (.lst (nm.map .str)), .val (.lst (wo.map .str)), .val LA, .val SH, .val DR, .val (eOpt pa), .val (.lst (mt.map eMat)), x9, .val (.lst (gr.map .str)), .val (.int (1 + p9 % 6)), .val (.int (1 + p9 % 6 + p10 % 9)), .val (.lst ((shutters.take (p11 % ((shutters.length : Int) + 1)).toNat).map .str)), .val (.str po)])
      (ev_tup (ev_a3 (a := eOpt pa) rfl (ev_blt1 (d := .lst (mt.map eMat)) rfl rfl) (ev_tup (ev_cons (ev_blt1 (d := .lst (gr.map .str)) rfl rfl) (ev_cons (ev_mod (ev_int (ev_ix rfl rfl h8)) rfl (by omega)) (ev_cons (d := .int (1 + p9 % 6)) rfl (ev_a3 (a := .int (1 + p9 % 6 + p10 % 9)) rfl (ev_blt1 (d := .lst ((shutters.take (p11 % ((shutters.length : Int) + 1)).toNat).map .str)) rfl rfl) rfl)))) (by simp))) (by simp))
  refine ⟨_, run_rt rfl hfin, ⟨A1, A2, A3, A4, by show gr.length ≤ 2; omega, fun g hg => (hn.ok g (g3 g hg)).2, a8, by show p8 % 5 ≤ 4; omega, by show 1 ≤ 1 + p9 % 6; omega, by show 1 + p9 % 6 ≤ 6; omega, by show 1 + p9 % 6 ≤ 1 + p9 % 6 + p10 % 9; omega, by show 1 + p9 % 6 + p10 % 9 ≤ 14; omega, ?_, fun n hn' => List.mem_of_mem_take hn', hpo⟩⟩
  show (shutters.take _).length ≤ 2
  rw [List.length_take]
  omega
structure HolK (h : Hol) : Prop where
  sl : h.sr.length ≤ 2
  sk : ∀ m ∈ h.sr, MatOk m
  tl : h.tg.length ≤ 2
  tk : ∀ m ∈ h.tg, MatOk m
  el : h.eq.length ≤ 2
  ek : ∀ g ∈ h.eq, LabOk g
theorem holds_eq {c : Int} {nm wo : List Str} (hn : WordsOk nm 3) (hl : wo.length = 3) (hv : ∀ x ∈ wo, ValOk x) : ∃ hs : List Hol, s__law_holds [.int c, .lst (nm.map .str), .lst (wo.map .str)] = some (.lst (hs.map eHol)) ∧ hs.length ≤ 2 ∧ ∀ h ∈ hs, HolK h := by
  have s9 : small64 9 = true := small64_of (by omega) (by omega)
  have hn0 : nm ≠ [] := fun z => by have := hn.len; rw [z] at this; cases this
  obtain ⟨dr, d1, d2, d3⟩ := draws_eq (c := c) (n := 20) (by omega)
  obtain ⟨p0, h0⟩ := ix_int (xs := dr) (i := 0) (by omega) (by omega)
  obtain ⟨a0, b0⟩ := mod_b (v := p0) (n := 3) (by omega)
  obtain ⟨n0, hn0'⟩ : ∃ n : Nat, (n : Int) = p0 % 3 := ⟨(p0 % 3).toNat, by omega⟩
  obtain ⟨ρ1, k1, hs, x5, x6, x7, x8, x9, e1, l1, o1⟩ := for_inv (f := forTurn (gName 5) (sSeq (sAsg (gName 6) (eSl (eVar 3) (oSome (eBin .add (eCon (.int 2)) (eBin .mul (eCon (.int 9)) (eVar 5)))) (oSome (eBin .add (eCon (.int 11)) (eBin .mul (eCon (.int 9)) (eVar 5))))))
    (sSeq (sAsg (gName 7) (eLst (aCons (eCall s__law_matcher (aCons (eIx (bVar 6) (eCon (.int 0))) (aCons (eIx (bVar 6) (eCon (.int 1))) (aCons (eVar 1) (aCons (eVar 2) aNil))))) aNil)))
    (sSeq (sAsg (gName 8) (eComp [10] (gName 10) (iRng rng1 (aCons (eBin .mod (eBlt .int (aCons (eIx (bVar 6) (eCon (.int 4))) aNil)) (eCon (.int 2))) aNil)) tYes (eCall s__law_matcher (aCons (eIx (bVar 6) (eCon (.int 2))) (aCons (eIx (bVar 6) (eCon (.int 3))) (aCons (eVar 1) (aCons (eVar 2) aNil)))))))
    (sSeq (sAsg (gName 9) (eComp [10] (gName 10) (iRng rng1 (aCons (eBin .mod (eBlt .int (aCons (eIx (bVar 6) (eCon (.int 5))) aNil)) (eCon (.int 3))) aNil)) tYes (eIx (bVar 1) (eBin .mod (eBlt .int (aCons (eBin .add (eIx (bVar 6) (eCon (.int 6))) (eVar 10)) aNil)) (eBlt .len (aCons (bVar 1) aNil))))))
    (sApp 4 (eTup (aCons (eBlt .tuple (aCons (eVar 7) aNil)) (aCons (eBlt .tuple (aCons (eVar 8) aNil)) (aCons (eBlt .tuple (aCons (eVar 9) aNil)) aNil))))))))))
    (enc := fun k : Nat => D.int (0 + (k : Int)))
    (fun pre ρ => ∃ (hs : List Hol) (x5 x6 x7 x8 x9 : Slot), ρ = [.val (.int c), .val (.lst (nm.map .str)), .val (.lst (wo.map .str)), .val (.lst (dr.map .int)), .own (hs.map eHol), x5, x6, x7, x8, x9, .no] ∧ hs.length = pre.length ∧ ∀ h ∈ hs, HolK h) (List.range n0)
    [.val (.int c), .val (.lst (nm.map .str)), .val (.lst (wo.map .str)), .val (.lst (dr.map .int)), .own [], .no, .no, .no, .no, .no, .no] (by
      rintro pre k post ρ hk ⟨hs, x5, x6, x7, x8, x9, rfl, g1, g2⟩
      obtain ⟨hk1, hk2⟩ := range_pre hk
      subst hk1
      have hcut := cut_len (xs := dr) (lo := 2 + 9 * (0 + (pre.length : Int))) (hi := 11 + 9 * (0 + (pre.length : Int))) (by omega) (by omega) (by omega)
      generalize hpa : cutD dr (some (2 + 9 * (0 + (pre.length : Int)))) (some (11 + 9 * (0 + (pre.length : Int)))) = pa at hcut
      have hpm : cutD (dr.map D.int) (some (2 + 9 * (0 + (pre.length : Int)))) (some (11 + 9 * (0 + (pre.length : Int)))) = pa.map D.int := by rw [cut_map, hpa]
      have I : ∀ i : Int, 0 ≤ i → i < 9 → ∃ v : Int, ixD (.lst (pa.map .int)) (.int i) = some (.int v) := fun i a b => ix_int a (by omega)
      obtain ⟨q0, r0⟩ := I 0 (by omega) (by omega)
      obtain ⟨q1, r1⟩ := I 1 (by omega) (by omega)
      obtain ⟨q2, r2⟩ := I 2 (by omega) (by omega)
      obtain ⟨q3, r3⟩ := I 3 (by omega) (by omega)
      obtain ⟨q4, r4⟩ := I 4 (by omega) (by omega)
      obtain ⟨q5, r5⟩ := I 5 (by omega) (by omega)
      obtain ⟨q6, r6⟩ := I 6 (by omega) (by omega)
      obtain ⟨a4, b4⟩ := mod_b (v := q4) (n := 2) (by omega)
      obtain ⟨a5, b5⟩ := mod_b (v := q5) (n := 3) (by omega)
      obtain ⟨n4, hn4⟩ : ∃ n : Nat, (n : Int) = q4 % 2 := ⟨(q4 % 2).toNat, by omega⟩
      obtain ⟨n5, hn5⟩ : ∃ n : Nat, (n : Int) = q5 % 3 := ⟨(q5 % 3).toNat, by omega⟩
      obtain ⟨m1, hm1, hmo1⟩ := matcher_eq (a := q0) (b := q1) hn hl hv
      obtain ⟨m2, hm2, hmo2⟩ := matcher_eq (a := q2) (b := q3) hn hl hv
      rw [turn_name]
      have z1 : sAsg (gName 6) (eSl (eVar 3) (oSome (eBin .add (eCon (.int 2)) (eBin .mul (eCon (.int 9)) (eVar 5)))) (oSome (eBin .add (eCon (.int 11)) (eBin .mul (eCon (.int 9)) (eVar 5))))) [.val (.int c), .val (.lst (nm.map .str)), .val (.lst (wo.map .str)), .val (.lst (dr.map .int)), .own (hs.map eHol), .val (.int (0 + (pre.length : Int))), x6, x7, x8, x9, .no] =
          some (.nx [.val (.int c), .val (.lst (nm.map .str)), .val (.lst (wo.map .str)), .val (.lst (dr.map .int)), .own (hs.map eHol), .val (.int (0 + (pre.length : Int))), .val (.lst (pa.map .int)), x7, x8, x9, .no]) := by
        rw [← hpm]
        exact ev_set (ev_slI rfl (ev_add rfl (ev_mul2 rfl rfl s9)) (ev_add rfl (ev_mul2 rfl rfl s9))) rfl
      have z2 : sAsg (gName 7) (eLst (aCons (eCall s__law_matcher (aCons (eIx (bVar 6) (eCon (.int 0))) (aCons (eIx (bVar 6) (eCon (.int 1))) (aCons (eVar 1) (aCons (eVar 2) aNil))))) aNil)) [.val (.int c), .val (.lst (nm.map .str)), .val (.lst (wo.map .str)), .val (.lst (dr.map .int)), .own (hs.map eHol), .val (.int (0 + (pre.length : Int))), .val (.lst (pa.map .int)), x7, x8, x9, .no] =
          some (.nx [.val (.int c), .val (.lst (nm.map .str)), .val (.lst (wo.map .str)), .val (.lst (dr.map .int)), .own (hs.map eHol), .val (.int (0 + (pre.length : Int))), .val (.lst (pa.map .int)), .val (.lst ([m1].map eMat)), x8, x9, .no]) := by
        refine ev_set (d := .lst ([m1].map eMat)) ?_ rfl
        show ((eCall s__law_matcher _ _).bind _).bind _ = _
        rw [ev_call4 (c := .lst (nm.map .str)) (d := .lst (wo.map .str)) (ev_ix (a := .lst (pa.map .int)) rfl rfl r0) (ev_ix (a := .lst (pa.map .int)) rfl rfl r1) rfl rfl hm1]
        rfl
      have z3 : eComp [10] (gName 10) (iRng rng1 (aCons (eBin .mod (eBlt .int (aCons (eIx (bVar 6) (eCon (.int 4))) aNil)) (eCon (.int 2))) aNil)) tYes (eCall s__law_matcher (aCons (eIx (bVar 6) (eCon (.int 2))) (aCons (eIx (bVar 6) (eCon (.int 3))) (aCons (eVar 1) (aCons (eVar 2) aNil))))) [.val (.int c), .val (.lst (nm.map .str)), .val (.lst (wo.map .str)), .val (.lst (dr.map .int)), .own (hs.map eHol), .val (.int (0 + (pre.length : Int))), .val (.lst (pa.map .int)), .val (.lst ([m1].map eMat)), x8, x9, .no] = some (.lst ((List.replicate n4 m2).map eMat)) := by
        have := comp_map (vs := [10]) (g := gName 10) (t := tYes) (e := eCall s__law_matcher (aCons (eIx (bVar 6) (eCon (.int 2))) (aCons (eIx (bVar 6) (eCon (.int 3))) (aCons (eVar 1) (aCons (eVar 2) aNil))))) (it := iRng rng1 (aCons (eBin .mod (eBlt .int (aCons (eIx (bVar 6) (eCon (.int 4))) aNil)) (eCon (.int 2))) aNil))
          (ρ := [.val (.int c), .val (.lst (nm.map .str)), .val (.lst (wo.map .str)), .val (.lst (dr.map .int)), .own (hs.map eHol), .val (.int (0 + (pre.length : Int))), .val (.lst (pa.map .int)), .val (.lst ([m1].map eMat)), x8, x9, .no]) (xs := List.range n4) (enc := fun k : Nat => D.int (0 + (k : Int))) (fun _ => eMat m2)
          (ev_rng1 (j := (n4 : Nat)) (by rw [hn4]; exact ev_mod (ev_int (ev_ix rfl rfl r4)) rfl (by omega)) (rng1_nat (b := n4) (by omega))) (by rw [List.length_range]; exact big_of (by omega)) (fun k hk => by
            show Option.map some (eCall s__law_matcher _ [.val (.int c), .val (.lst (nm.map .str)), .val (.lst (wo.map .str)), .val (.lst (dr.map .int)), .own (hs.map eHol), .val (.int (0 + (pre.length : Int))), .val (.lst (pa.map .int)), .val (.lst ([m1].map eMat)), x8, x9, .val (.int (0 + (k : Int)))]) = _
            rw [ev_call4 (c := .lst (nm.map .str)) (d := .lst (wo.map .str)) (ev_ix (a := .lst (pa.map .int)) rfl rfl r2) (ev_ix (a := .lst (pa.map .int)) rfl rfl r3) rfl rfl hm2]
            rfl)
        rw [this, List.map_replicate]
        have hrep : ∀ (l : List Nat), l.map (fun _ => eMat m2) = List.replicate l.length (eMat m2) := fun l => by
          induction l with
          | nil => rfl
          | cons a l ih => rw [List.map_cons, ih]; rfl
        rw [hrep, List.length_range]
      obtain ⟨eq, y1, y2, y3⟩ := comp_ex (vs := [10]) (g := gName 10) (t := tYes) (e := eIx (bVar 1) (eBin .mod (eBlt .int (aCons (eBin .add (eIx (bVar 6) (eCon (.int 6))) (eVar 10)) aNil)) (eBlt .len (aCons (bVar 1) aNil)))) (it := iRng rng1 (aCons (eBin .mod (eBlt .int (aCons (eIx (bVar 6) (eCon (.int 5))) aNil)) (eCon (.int 3))) aNil))
        (ρ := [.val (.int c), .val (.lst (nm.map .str)), .val (.lst (wo.map .str)), .val (.lst (dr.map .int)), .own (hs.map eHol), .val (.int (0 + (pre.length : Int))), .val (.lst (pa.map .int)), .val (.lst ([m1].map eMat)), .val (.lst ((List.replicate n4 m2).map eMat)), x9, .no]) (xs := List.range n5) (enc := fun k : Nat => D.int (0 + (k : Int))) (fun x => x ∈ nm) D.str
        (ev_rng1 (j := (n5 : Nat)) (by rw [hn5]; exact ev_mod (ev_int (ev_ix rfl rfl r5)) rfl (by omega)) (rng1_nat (b := n5) (by omega))) (by rw [List.length_range]; exact big_of (by omega)) (fun k hk => by
          obtain ⟨x, hx, e⟩ := pick (eb := bVar 1) (e := eBin .add (eIx (bVar 6) (eCon (.int 6))) (eVar 10)) (ρ := [.val (.int c), .val (.lst (nm.map .str)), .val (.lst (wo.map .str)), .val (.lst (dr.map .int)), .own (hs.map eHol), .val (.int (0 + (pre.length : Int))), .val (.lst (pa.map .int)), .val (.lst ([m1].map eMat)), .val (.lst ((List.replicate n4 m2).map eMat)), x9, .val (.int (0 + (k : Int)))]) (enc := D.str) hn0 rfl (ev_add (ev_ix rfl rfl r6) rfl)
          refine ⟨x, hx, ?_⟩
          show Option.map some (eIx (bVar 1) _ [.val (.int c), .val (.lst (nm.map .str)), .val (.lst (wo.map .str)), .val (.lst (dr.map .int)), .own (hs.map eHol), .val (.int (0 + (pre.length : Int))), .val (.lst (pa.map .int)), .val (.lst ([m1].map eMat)), .val (.lst ((List.replicate n4 m2).map eMat)), x9, .val (.int (0 + (k : Int)))]) = _
          rw [e]
          rfl)
      rw [List.length_range] at y2
      refine ⟨[.val (.int c), .val (.lst (nm.map .str)), .val (.lst (wo.map .str)), .val (.lst (dr.map .int)), .own ((hs ++ [(⟨[m1], List.replicate n4 m2, eq⟩ : Hol)]).map eHol), .val (.int (0 + (pre.length : Int))), .val (.lst (pa.map .int)), .val (.lst ([m1].map eMat)), .val (.lst ((List.replicate n4 m2).map eMat)), .val (.lst (eq.map .str)), .no],
        ev_seq z1 (ev_seq z2 (ev_seq (ρ1 := [.val (.int c), .val (.lst (nm.map .str)), .val (.lst (wo.map .str)), .val (.lst (dr.map .int)), .own (hs.map eHol), .val (.int (0 + (pre.length : Int))), .val (.lst (pa.map .int)), .val (.lst ([m1].map eMat)), .val (.lst ((List.replicate n4 m2).map eMat)), x9, .no]) (ev_set z3 rfl) (ev_seq (ρ1 := [.val (.int c), .val (.lst (nm.map .str)), .val (.lst (wo.map .str)), .val (.lst (dr.map .int)), .own (hs.map eHol), .val (.int (0 + (pre.length : Int))), .val (.lst (pa.map .int)), .val (.lst ([m1].map eMat)), .val (.lst ((List.replicate n4 m2).map eMat)), .val (.lst (eq.map .str)), .no]) (ev_set y1 rfl) ?_))), hs ++ [(⟨[m1], List.replicate n4 m2, eq⟩ : Hol)], _, _, _, _, _, rfl, by simp [g1], fun x hx => ?_⟩
      · rw [List.map_append]
        exact ev_app (ds := hs.map eHol) (ev_tup (ev_a3 (ev_blt1 (d := .lst ([m1].map eMat)) rfl rfl) (ev_blt1 (d := .lst ((List.replicate n4 m2).map eMat)) rfl rfl) (ev_blt1 (d := .lst (eq.map .str)) rfl rfl)) (by simp)) rfl (by rw [List.length_map]; omega)
      · rcases List.mem_append.mp hx with hx | hx
        · exact g2 x hx
        · rw [List.mem_singleton.mp hx]
          refine ⟨by simp, fun m hm => ?_, by simp; omega, fun m hm => ?_, by show eq.length ≤ 2; omega, fun g hg => (hn.ok g (y3 g hg)).2⟩
          · rw [List.mem_singleton.mp hm]
            exact hmo1
          · rw [(List.mem_replicate.mp hm).2]
            exact hmo2) ⟨[], .no, .no, .no, .no, .no, rfl, rfl, fun s hs => by cases hs⟩
  rw [List.length_range] at l1
  refine ⟨hs, run_rt rfl (ev_seq (ρ1 := [.val (.int c), .val (.lst (nm.map .str)), .val (.lst (wo.map .str)), .val (.lst (dr.map .int)), .no, .no, .no, .no, .no, .no, .no]) (ev_set (ev_call2 (a := .int c) (b := .int 20) rfl rfl d1) rfl) (ev_seq (ρ1 := [.val (.int c), .val (.lst (nm.map .str)), .val (.lst (wo.map .str)), .val (.lst (dr.map .int)), .own [], .no, .no, .no, .no, .no, .no]) rfl (ev_seq (ev_for (ev_rng1 (j := (n0 : Nat)) (by rw [hn0']; exact ev_mod (ev_int (ev_ix rfl rfl h0)) rfl (by omega)) (rng1_nat (b := n0) (by omega))) k1) ?_))), by omega, o1⟩
  rw [e1]
  rfl
end WF
end
/-! text M20 -/
section
set_option Elab.async false
set_option linter.all false
set_option maxHeartbeats 1000000
/-! The setup's checks hold. -/
namespace WF
open PySem
theorem ev_drop {e : SE} {ρ : Env} {d : D} (h : e ρ = some d) : sDrop e ρ = some (.nx ρ) := by
  show (e ρ).map _ = _
  rw [h]
  rfl
theorem ev_andE {a b : SE} {ρ : Env} {r : Option D} (h : a ρ = some (.bl true)) (k : b ρ = r) : eAnd a b ρ = r := by
  show (a ρ).bind _ = r
  rw [h]
  exact k
theorem ev_orE {a b : SE} {ρ : Env} {c : Bool} (h : a ρ = some (.bl c)) (k : c = false → b ρ = some (.bl true)) : eOr a b ρ = some (.bl true) := by
  show (a ρ).bind _ = _
  rw [h]
  cases c with
  | true => rfl
  | false => exact k rfl
theorem between_T {a b c : Int} (h1 : a ≤ b) (h2 : b ≤ c) : s_is_between [.int a, .int b, .int c] = some (.bl true) := by
  refine run_rt rfl (ev_ret ?_)
  have : tChain .le (eVar 0) (eVar 1) (tLast .le (bVar 2)) (entry 3 [.int a, .int b, .int c]) = some (decide (a ≤ b) && decide (b ≤ c)) := ev_chain rfl rfl rfl rfl rfl
  rw [decide_eq_true h1, decide_eq_true h2] at this
  exact ev_test this
theorem all_ok {α : Type} (xs : List α) : s_all_true [.lst (xs.map fun _ => .bl true)] = some (.bl true) := by
  obtain ⟨ρ', k, _⟩ := for_inv (f := forTurn (gName 1) (sIf (tNot (tVal (eVar 1))) (sRet (eCon (.bl false))) sNext)) (enc := fun _ : α => D.bl true) (fun _ ρ => ∃ a, ρ = [.val (.lst (xs.map fun _ => .bl true)), a]) xs [.val (.lst (xs.map fun _ => .bl true)), .no] (by
    rintro pre x post ρ - ⟨a, rfl⟩
    exact ⟨[.val (.lst (xs.map fun _ => .bl true)), .val (.bl true)], by rw [turn_name]; exact ev_ifF (b := sNext) (ev_not (b := true) rfl) rfl, _, rfl⟩) ⟨_, rfl⟩
  exact run_rt rfl (ev_seq (ev_for (ds := xs.map fun _ => .bl true) rfl k) rfl)
theorem span_T {days : Int} {s : Span} (h : SpanOk days s) : s_span_fits [.int days, eSpan s] = some (.bl true) := by
  obtain ⟨h1, h2, h3⟩ := h
  simp [s_span_fits, b_span_fits, runD, entry, atD, h1, h2, h3]
theorem inl_T {x : Str} {l : List Str} (h : x ∈ l) : cmpD .inn (.str x) (.lst (l.map .str)) = some true := by
  show (strsOf (l.map D.str)).map (fun l => decide (x ∈ l)) = _
  have h2 : strsOf (l.map D.str) = some l := by
    have := strsOf_map (xs := l) (g := fun x => x)
    rw [List.map_id'] at this
    exact this
  rw [h2]
  show some (decide (x ∈ l)) = _
  rw [decide_eq_true h]
theorem len_T {α : Type} {enc : α → D} {xs : List α} : bltD .len [.tup (xs.map enc)] = some (.int (xs.length : Nat)) := by
  show some (D.int ((xs.map enc).length : Nat)) = _
  rw [List.length_map]
theorem labels_T {gr : List Str} (hl : gr.length ≤ 2) (h : ∀ g ∈ gr, LabOk g) : s_labels_fit [.tup (gr.map .str)] = some (.bl true) := by
  have t1 : tCmp .le (eBlt .len (aCons (bVar 0) aNil)) (eCon (.int 6)) (entry 2 [.tup (gr.map .str)]) = some true := by
    have : tCmp .le (eBlt .len (aCons (bVar 0) aNil)) (eCon (.int 6)) (entry 2 [.tup (gr.map .str)]) = some (decide ((gr.length : Int) ≤ 6)) := ev_cmp (ev_blt1 (d := .tup (gr.map .str)) rfl len_T) rfl rfl
    rw [this, decide_eq_true (by omega)]
  refine run_rt rfl (ev_ret (ev_andE (ev_test t1) (ev_call1 (comp_map (xs := gr) (enc := D.str) (fun _ => .bl true) rfl (big_of (by omega)) fun g hg => ?_) (all_ok gr))))
  show Option.map some (eCall s_label_fits (aCons (eVar 1) aNil) [.val (.tup (gr.map .str)), .val (.str g)]) = _
  rw [ev_call1 (d := .str g) rfl (h g hg)]
  rfl
theorem between_t {e1 e2 e3 : SE} {ρ : Env} {a b c : Int} (k1 : e1 ρ = some (.int a)) (k2 : e2 ρ = some (.int b)) (k3 : e3 ρ = some (.int c)) (h1 : a ≤ b) (h2 : b ≤ c) : tNot (tVal (eCall s_is_between (aCons e1 (aCons e2 (aCons e3 aNil))))) ρ = some false :=
  ev_not (b := true) (ev_val (ev_call3 k1 k2 k3 (between_T h1 h2)) rfl)
theorem layer_T {days : Int} {ns : List Str} {l : Lay} (K : LayK days ns l) : s_layer_fits [.int days, .lst (ns.map .str), eLay l] = some (.bl true) := by
  have B := K.b
  have hml : 1 ≤ l.ms.length := List.length_pos_iff.mpr B.ms
  have h1 := B.ml
  have h2 := B.st0
  have h3 := B.st1
  have h4 := B.sh0
  have h5 := B.sh1
  have h6 := B.sl
  have c1 : eComp [8] (gName 8) (iSeq (eVar 3)) tYes (eTest (tCmp .inn (eVar 8) (bVar 1))) [.val (.int days), .val (.lst (ns.map .str)), .val (eLay l), .val (.tup (l.ms.map .str)), .val (.int l.st), .val (.int l.sh), .val (.tup (l.sp.map eSpan)), .no, .no] = some (.lst (l.ms.map fun _ => .bl true)) := by
    refine comp_map (xs := l.ms) (enc := D.str) (fun _ => .bl true) rfl (big_of (by omega)) fun m hm => ?_
    show Option.map some (eTest _ [.val (.int days), .val (.lst (ns.map .str)), .val (eLay l), .val (.tup (l.ms.map .str)), .val (.int l.st), .val (.int l.sh), .val (.tup (l.sp.map eSpan)), .no, .val (.str m)]) = _
    rw [ev_test (ev_cmp (a := .str m) (b := .lst (ns.map .str)) rfl rfl (inl_T (K.ms m hm)))]
    rfl
  have c2 : eComp [7] (gName 7) (iSeq (eVar 6)) tYes (eCall s_span_fits (aCons (eVar 0) (aCons (eVar 7) aNil))) [.val (.int days), .val (.lst (ns.map .str)), .val (eLay l), .val (.tup (l.ms.map .str)), .val (.int l.st), .val (.int l.sh), .val (.tup (l.sp.map eSpan)), .no, .no] = some (.lst (l.sp.map fun _ => .bl true)) := by
    refine comp_map (xs := l.sp) (enc := eSpan) (fun _ => .bl true) rfl (big_of (by omega)) fun s hs => ?_
    show Option.map some (eCall _ _ [.val (.int days), .val (.lst (ns.map .str)), .val (eLay l), .val (.tup (l.ms.map .str)), .val (.int l.st), .val (.int l.sh), .val (.tup (l.sp.map eSpan)), .val (eSpan s), .no]) = _
    rw [ev_call2 (a := .int days) (b := eSpan s) rfl rfl (span_T (K.sp s hs))]
    rfl
  exact run_rt rfl (ev_seq (ρ1 := [.val (.int days), .val (.lst (ns.map .str)), .val (eLay l), .val (.tup (l.ms.map .str)), .val (.int l.st), .val (.int l.sh), .val (.tup (l.sp.map eSpan)), .no, .no]) rfl
    (ev_seq (ev_ifF (b := sNext) (ev_orF (between_t (b := (l.ms.length : Nat)) rfl (ev_blt1 (d := .tup (l.ms.map .str)) rfl len_T) rfl (by omega) (by omega)) (between_t (b := l.sh) rfl rfl rfl (by omega) (by omega))) rfl)
    (ev_seq (ev_ifF (b := sNext) (ev_orF (between_t (b := l.st) rfl rfl rfl (by omega) (by omega)) (ev_not (b := true) (ev_val (ev_call1 c1 (all_ok l.ms)) rfl))) rfl) (ev_ret (ev_call1 c2 (all_ok l.sp))))))
theorem standin_T {ns : List Str} {x : Int × Int × Str} (h : 0 ≤ x.1 ∧ x.1 < x.2.1 ∧ x.2.1 ≤ 42 ∧ x.2.2 ∈ ns) : s_standin_fits [.lst (ns.map .str), eStd x] = some (.bl true) := by
  obtain ⟨h1, h2, h3, h4⟩ := h
  refine run_rt rfl (ev_seq (ρ1 := [.val (.lst (ns.map .str)), .val (eStd x), .val (.int x.1), .val (.int x.2.1), .val (.str x.2.2)]) rfl (ev_ret (ev_andE ?_ (ev_test (ev_cmp (a := .str x.2.2) (b := .lst (ns.map .str)) rfl rfl (inl_T h4))))))
  have h5 : x.2.1 ≤ 10000 := by omega
  simp [h1, h2, h5]
theorem schedule_T {days : Int} {ns : List Str} {s : Sch} (K : SchK days ns s) : s_schedule_fits [.int days, .lst (ns.map .str), eSch s] = some (.bl true) := by
  have h1 := K.ll
  have h2 := K.sl
  have z1 : sAsg (gTup [3, 4]) (eSl (eVar 2) (oSome (eCon (.int 1))) oNone) (entry 7 [.int days, .lst (ns.map .str), eSch s]) = some (.nx [.val (.int days), .val (.lst (ns.map .str)), .val (eSch s), .val (.tup (s.ls.map eLay)), .val (.tup (s.ss.map eStd)), .no, .no]) := rfl
  have t1 : tCmp .gt (eBlt .len (aCons (bVar 3) aNil)) (eCon (.int 6)) [.val (.int days), .val (.lst (ns.map .str)), .val (eSch s), .val (.tup (s.ls.map eLay)), .val (.tup (s.ss.map eStd)), .no, .no] = some false := by
    have : tCmp .gt (eBlt .len (aCons (bVar 3) aNil)) (eCon (.int 6)) [.val (.int days), .val (.lst (ns.map .str)), .val (eSch s), .val (.tup (s.ls.map eLay)), .val (.tup (s.ss.map eStd)), .no, .no] = some (decide ((6 : Int) < (s.ls.length : Int))) := ev_cmp (a := .int (s.ls.length : Nat)) (ev_blt1 (d := .tup (s.ls.map eLay)) rfl len_T) rfl rfl
    rw [this, decide_eq_false (by omega)]
  have t2 : tCmp .gt (eBlt .len (aCons (bVar 4) aNil)) (eCon (.int 20)) [.val (.int days), .val (.lst (ns.map .str)), .val (eSch s), .val (.tup (s.ls.map eLay)), .val (.tup (s.ss.map eStd)), .no, .no] = some false := by
    have : tCmp .gt (eBlt .len (aCons (bVar 4) aNil)) (eCon (.int 20)) [.val (.int days), .val (.lst (ns.map .str)), .val (eSch s), .val (.tup (s.ls.map eLay)), .val (.tup (s.ss.map eStd)), .no, .no] = some (decide ((20 : Int) < (s.ss.length : Int))) := ev_cmp (a := .int (s.ss.length : Nat)) (ev_blt1 (d := .tup (s.ss.map eStd)) rfl len_T) rfl rfl
    rw [this, decide_eq_false (by omega)]
  have c1 : eComp [6] (gName 6) (iSeq (eVar 3)) tYes (eCall s_layer_fits (aCons (eVar 0) (aCons (eVar 1) (aCons (eVar 6) aNil)))) [.val (.int days), .val (.lst (ns.map .str)), .val (eSch s), .val (.tup (s.ls.map eLay)), .val (.tup (s.ss.map eStd)), .no, .no] = some (.lst (s.ls.map fun _ => .bl true)) := by
    refine comp_map (xs := s.ls) (enc := eLay) (fun _ => .bl true) rfl (big_of (by omega)) fun l hl => ?_
    show Option.map some (eCall _ _ [.val (.int days), .val (.lst (ns.map .str)), .val (eSch s), .val (.tup (s.ls.map eLay)), .val (.tup (s.ss.map eStd)), .no, .val (eLay l)]) = _
    rw [ev_call3 (a := .int days) (b := .lst (ns.map .str)) (c := eLay l) rfl rfl rfl (layer_T (K.lk l hl))]
    rfl
  have c2 : eComp [5] (gName 5) (iSeq (eVar 4)) tYes (eCall s_standin_fits (aCons (eVar 1) (aCons (eVar 5) aNil))) [.val (.int days), .val (.lst (ns.map .str)), .val (eSch s), .val (.tup (s.ls.map eLay)), .val (.tup (s.ss.map eStd)), .no, .no] = some (.lst (s.ss.map fun _ => .bl true)) := by
    refine comp_map (xs := s.ss) (enc := eStd) (fun _ => .bl true) rfl (big_of (by omega)) fun x hx => ?_
    show Option.map some (eCall _ _ [.val (.int days), .val (.lst (ns.map .str)), .val (eSch s), .val (.tup (s.ls.map eLay)), .val (.tup (s.ss.map eStd)), .val (eStd x), .no]) = _
    rw [ev_call2 (a := .lst (ns.map .str)) (b := eStd x) rfl rfl (standin_T (K.sk x hx))]
    rfl
  exact run_rt rfl (ev_seq z1 (ev_seq (ev_ifF (b := sNext) (ev_orF t1 t2) rfl) (ev_seq (ev_ifF (b := sNext) (ev_not (b := true) (ev_val (ev_call1 c1 (all_ok s.ls)) rfl)) rfl) (ev_ret (ev_call1 c2 (all_ok s.ss))))))
theorem policy_T {ts : List Str} {p : Pol} (K : PolK ts p) : s_policy_fits [.lst (ts.map .str), ePol p] = some (.bl true) := by
  have h1 := K.l0
  have h2 := K.l1
  have c1 : eComp [3, 4] (gTup [3, 4]) (iSeq (eVar 2)) tYes (eAnd (eTest (tCmp .inn (eVar 3) (bVar 0))) (eCall s_is_between (aCons (eCon (.int 0)) (aCons (eVar 4) (aCons (eCon (.int 1000)) aNil))))) [.val (.lst (ts.map .str)), .val (ePol p), .val (.tup (p.lv.map eLev)), .no, .no] = some (.lst (p.lv.map fun _ => .bl true)) := by
    refine comp_map (xs := p.lv) (enc := eLev) (fun _ => .bl true) rfl (big_of (by omega)) fun l hl => ?_
    obtain ⟨k1, k2, k3⟩ := K.lk l hl
    show Option.map some (eAnd _ _ [.val (.lst (ts.map .str)), .val (ePol p), .val (.tup (p.lv.map eLev)), .val (.str l.1), .val (.int l.2)]) = _
    rw [ev_andE (ev_test (ev_cmp (a := .str l.1) (b := .lst (ts.map .str)) rfl rfl (inl_T k1))) (ev_call3 (a := .int 0) (b := .int l.2) (c := .int 1000) rfl rfl rfl (between_T (by omega) (by omega)))]
    rfl
  exact run_rt rfl (ev_seq (ρ1 := [.val (.lst (ts.map .str)), .val (ePol p), .val (.tup (p.lv.map eLev)), .no, .no]) rfl (ev_seq (ev_ifF (b := sNext) (between_t (b := (p.lv.length : Nat)) rfl (ev_blt1 (d := .tup (p.lv.map eLev)) rfl len_T) rfl (by omega) (by omega)) rfl) (ev_ret (ev_call1 c1 (all_ok p.lv)))))
theorem window_T {days : Int} {p : Win} (K : WinK days p) : s_window_fits [.int days, eWin p] = some (.bl true) := by
  have h1 := K.l0
  have h2 := K.l1
  have c1 : eComp [2] (gName 2) (iSeq (eIx (bVar 1) (eCon (.int 1)))) tYes (eCall s_span_fits (aCons (eVar 0) (aCons (eVar 2) aNil))) (entry 3 [.int days, eWin p]) = some (.lst (p.sp.map fun _ => .bl true)) := by
    refine comp_map (xs := p.sp) (enc := eSpan) (fun _ => .bl true) rfl (big_of (by omega)) fun s hs => ?_
    show Option.map some (eCall _ _ [.val (.int days), .val (eWin p), .val (eSpan s)]) = _
    rw [ev_call2 (a := .int days) (b := eSpan s) rfl rfl (span_T (K.sp s hs))]
    rfl
  exact run_rt rfl (ev_ret (ev_andE (ev_call3 (a := .int 1) (b := .int (p.sp.length : Nat)) (c := .int 8) rfl (ev_blt1 (d := .tup (p.sp.map eSpan)) rfl len_T) rfl (between_T (by omega) (by omega))) (ev_call1 c1 (all_ok p.sp))))
theorem matcher_T {m : Mat} (K : MatOk m) : s_matcher_fits [eMat m] = some (.bl true) := by
  have h1 := K.l0
  have h2 := K.l1
  have z1 : sAsg (gTup [1, 2]) (eSl (eVar 0) oNone (oSome (eCon (.int 2)))) (entry 4 [eMat m]) = some (.nx [.val (eMat m), .val (.str m.nm), .val (.tup (m.vs.map .str)), .no]) := rfl
  have c1 : eComp [3] (gName 3) (iSeq (eVar 2)) tYes (eOr (eTest (tCmp .eq (eVar 3) (eCon (.str "")))) (eCall s_is_value (aCons (eVar 3) aNil))) [.val (eMat m), .val (.str m.nm), .val (.tup (m.vs.map .str)), .no] = some (.lst (m.vs.map fun _ => .bl true)) := by
    refine comp_map (xs := m.vs) (enc := D.str) (fun _ => .bl true) rfl (big_of (by omega)) fun v hv => ?_
    show Option.map some (eOr _ _ [.val (eMat m), .val (.str m.nm), .val (.tup (m.vs.map .str)), .val (.str v)]) = _
    rw [ev_orE (c := decide (v = "")) (ev_test (ev_cmp (a := .str v) (b := .str "") rfl rfl rfl)) fun hc => ev_call1 (d := .str v) rfl (by
      rcases K.vs v hv with e | e
      · rw [e] at hc
        simp at hc
      · exact e)]
    rfl
  exact run_rt rfl (ev_seq z1 (ev_seq (ev_ifF (b := sNext) (ev_orF (ev_not (b := true) (ev_val (ev_call1 (d := .str m.nm) rfl K.nm) rfl)) (between_t (b := (m.vs.length : Nat)) rfl (ev_blt1 (d := .tup (m.vs.map .str)) rfl len_T) rfl (by omega) (by omega))) rfl) (ev_ret (ev_call1 c1 (all_ok m.vs)))))
theorem matchers_T {ms : List Mat} (hl : ms.length ≤ 2) (h : ∀ m ∈ ms, MatOk m) : s_matchers_fit [.tup (ms.map eMat)] = some (.bl true) := by
  have t1 : tCmp .le (eBlt .len (aCons (bVar 0) aNil)) (eCon (.int 6)) (entry 2 [.tup (ms.map eMat)]) = some true := by
    have : tCmp .le (eBlt .len (aCons (bVar 0) aNil)) (eCon (.int 6)) (entry 2 [.tup (ms.map eMat)]) = some (decide ((ms.length : Int) ≤ 6)) := ev_cmp (ev_blt1 (d := .tup (ms.map eMat)) rfl len_T) rfl rfl
    rw [this, decide_eq_true (by omega)]
  refine run_rt rfl (ev_ret (ev_andE (ev_test t1) (ev_call1 (comp_map (xs := ms) (enc := eMat) (fun _ => .bl true) rfl (big_of (by omega)) fun m hm => ?_) (all_ok ms))))
  show Option.map some (eCall s_matcher_fits (aCons (eVar 1) aNil) [.val (.tup (ms.map eMat)), .val (eMat m)]) = _
  rw [ev_call1 (d := eMat m) rfl (matcher_T (h m hm))]
  rfl
theorem settings_T {wn pn : List Str} {place : Int} {r : Rou} (K : RouK pn wn place r) : s_settings_fit [.lst (wn.map .str), .lst (pn.map .str), eStg r.se] = some (.bl true) := by
  have h1 := K.wt0
  have h2 := K.wt1
  have h3 := K.iv0
  have h4 := K.iv1
  have h5 := K.ag0
  have h6 := K.ag1
  have h7 := K.mul
  have t1 : tCmp .le (eBlt .len (aCons (bVar 7) aNil)) (eCon (.int 6)) [.val (.lst (wn.map .str)), .val (.lst (pn.map .str)), .val (eStg r.se), .val (.tup (r.se.gr.map .str)), .val (.int r.se.wt), .val (.int r.se.iv), .val (.int r.se.ag), .val (.tup (r.se.mu.map .str)), .val (.str r.se.po), .no] = some true := by
    have : tCmp .le (eBlt .len (aCons (bVar 7) aNil)) (eCon (.int 6)) [.val (.lst (wn.map .str)), .val (.lst (pn.map .str)), .val (eStg r.se), .val (.tup (r.se.gr.map .str)), .val (.int r.se.wt), .val (.int r.se.iv), .val (.int r.se.ag), .val (.tup (r.se.mu.map .str)), .val (.str r.se.po), .no] = some (decide ((r.se.mu.length : Int) ≤ 6)) := ev_cmp (ev_blt1 (d := .tup (r.se.mu.map .str)) rfl len_T) rfl rfl
    rw [this, decide_eq_true (by omega)]
  have c1 : eComp [9] (gName 9) (iSeq (eVar 7)) tYes (eTest (tCmp .inn (eVar 9) (bVar 0))) [.val (.lst (wn.map .str)), .val (.lst (pn.map .str)), .val (eStg r.se), .val (.tup (r.se.gr.map .str)), .val (.int r.se.wt), .val (.int r.se.iv), .val (.int r.se.ag), .val (.tup (r.se.mu.map .str)), .val (.str r.se.po), .no] = some (.lst (r.se.mu.map fun _ => .bl true)) := by
    refine comp_map (xs := r.se.mu) (enc := D.str) (fun _ => .bl true) rfl (big_of (by omega)) fun n hn => ?_
    show Option.map some (eTest _ [.val (.lst (wn.map .str)), .val (.lst (pn.map .str)), .val (eStg r.se), .val (.tup (r.se.gr.map .str)), .val (.int r.se.wt), .val (.int r.se.iv), .val (.int r.se.ag), .val (.tup (r.se.mu.map .str)), .val (.str r.se.po), .val (.str n)]) = _
    rw [ev_test (ev_cmp (a := .str n) (b := .lst (wn.map .str)) rfl rfl (inl_T (K.mum n hn)))]
    rfl
  exact run_rt rfl (ev_seq (ρ1 := [.val (.lst (wn.map .str)), .val (.lst (pn.map .str)), .val (eStg r.se), .val (.tup (r.se.gr.map .str)), .val (.int r.se.wt), .val (.int r.se.iv), .val (.int r.se.ag), .val (.tup (r.se.mu.map .str)), .val (.str r.se.po), .no]) rfl
    (ev_seq (ev_ifF (b := sNext) (ev_orF (ev_not (b := true) (ev_val (ev_call1 (d := .tup (r.se.gr.map .str)) rfl (labels_T K.gl K.gk)) rfl)) (between_t (b := r.se.wt) rfl rfl rfl (by omega) (by omega))) rfl)
    (ev_seq (ev_ifF (b := sNext) (ev_orF (between_t (b := r.se.iv) rfl rfl rfl (by omega) (by omega)) (between_t (a := r.se.iv) (b := r.se.ag) rfl rfl rfl (by omega) (by omega))) rfl)
    (ev_ret (ev_andE (ev_test t1) (ev_andE (ev_call1 c1 (all_ok r.se.mu)) (ev_test (ev_cmp (a := .str r.se.po) (b := .lst (pn.map .str)) rfl rfl (inl_T K.pol)))))))))
theorem route_T {wn pn : List Str} {place : Int} {r : Rou} (h0 : 0 ≤ place) (K : RouK pn wn place r) : s_route_fits [.lst (wn.map .str), .lst (pn.map .str), .int place, eRou r] = some (.bl true) := by
  have tail : (sRet (eAnd (eCall s_matchers_fit (aCons (eVar 5) aNil)) (eCall s_settings_fit (aCons (eVar 0) (aCons (eVar 1) (aCons (eVar 6) aNil)))))) [.val (.lst (wn.map .str)), .val (.lst (pn.map .str)), .val (.int place), .val (eRou r), .val (eOpt r.pa), .val (.tup (r.mt.map eMat)), .val (eStg r.se)] = some (.rt (.bl true)) :=
    ev_ret (ev_andE (ev_call1 (d := .tup (r.mt.map eMat)) rfl (matchers_T K.ml K.mko)) (ev_call3 (a := .lst (wn.map .str)) (b := .lst (pn.map .str)) (c := eStg r.se) rfl rfl rfl (settings_T K)))
  have t1 : tCmp .eq (eVar 2) (eCon (.int 0)) [.val (.lst (wn.map .str)), .val (.lst (pn.map .str)), .val (.int place), .val (eRou r), .val (eOpt r.pa), .val (.tup (r.mt.map eMat)), .val (eStg r.se)] = some (decide (place = 0)) := rfl
  refine run_rt rfl (ev_seq (ρ1 := [.val (.lst (wn.map .str)), .val (.lst (pn.map .str)), .val (.int place), .val (eRou r), .val (eOpt r.pa), .val (.tup (r.mt.map eMat)), .val (eStg r.se)]) rfl ?_)
  by_cases c : place = 0
  · obtain ⟨k1, k2⟩ := K.p0 c
    rw [decide_eq_true c] at t1
    refine ev_seq (ev_ifT t1 (ev_ifF (b := sNext) (ev_orF ?_ ?_) rfl)) tail
    · rw [k1]
      rfl
    · rw [k2]
      rfl
  · obtain ⟨p, k1, k2, k3⟩ := K.p1 (by omega)
    rw [decide_eq_false c] at t1
    refine ev_seq (ev_ifF t1 (ev_ifF (b := sNext) (ev_orF ?_ (between_t (a := 0) (b := p) (c := place - 1) rfl ?_ (ev_sub rfl rfl) k2 (by omega))) rfl)) tail
    · rw [k1]
      rfl
    · rw [k1]
      rfl
theorem holdback_T {h : Hol} (K : HolK h) : s_holdback_fits [eHol h] = some (.bl true) :=
  run_rt rfl (ev_seq (ρ1 := [.val (eHol h), .val (.tup (h.sr.map eMat)), .val (.tup (h.tg.map eMat)), .val (.tup (h.eq.map .str))]) rfl (ev_ret (ev_andE (ev_call1 (d := .tup (h.sr.map eMat)) rfl (matchers_T K.sl K.sk)) (ev_andE (ev_call1 (d := .tup (h.tg.map eMat)) rfl (matchers_T K.tl K.tk)) (ev_call1 (d := .tup (h.eq.map .str)) rfl (labels_T K.el K.ek))))))
theorem store_T : s_store_fits [.tup [.int 0, .int 10, .int 2, .int 0]] = some (.bl true) :=
  run_rt rfl (ev_seq (ρ1 := [.val (.tup [.int 0, .int 10, .int 2, .int 0]), .val (.int 0), .val (.int 10), .val (.int 2), .val (.int 0)]) rfl (ev_seq (ev_ifF (b := sNext) (ev_orF (between_t (a := 0) (b := 0) (c := 1000) rfl rfl rfl (by omega) (by omega)) (between_t (a := 1) (b := 10) (c := 1000) rfl rfl rfl (by omega) (by omega))) rfl)
    (ev_ret (ev_andE (ev_call3 (a := .int 2) (b := .int 2) (c := .int 10) rfl rfl rfl (between_T (by omega) (by omega))) (ev_call3 (a := .int 0) (b := .int 0) (c := .int 3) rfl rfl rfl (between_T (by omega) (by omega)))))))
section
variable {α : Type} {enc : α → D} {nm : α → Str} {r : α → List D}
theorem names_T (he : ∀ x, enc x = .tup (.str (nm x) :: r x)) {xs : List α} (hl : xs.length ≤ 900) : s_names_of [.lst (xs.map enc)] = some (.lst ((xs.map nm).map .str)) := by
  rw [List.map_map]
  refine run_rt rfl (ev_ret (comp_map (xs := xs) (enc := enc) (D.str ∘ nm) rfl (big_of (by omega)) fun x hx => ?_))
  show Option.map some (eIx (bVar 1) (eCon (.int 0)) [.val (.lst (xs.map enc)), .val (enc x)]) = _
  rw [ev_ix (a := enc x) (b := .int 0) rfl rfl (r := some (.str (nm x))) (by rw [he]; rfl)]
  rfl
theorem new_T (he : ∀ x, enc x = .tup (.str (nm x) :: r x)) {xs : List α} (hl : xs.length ≤ 900) (hn : (xs.map nm).Nodup) (ho : ∀ x ∈ xs, NameOk (nm x)) {i : Nat} {x : α} (hx : xs[i]? = some x) : s_is_new_name [.lst (xs.map enc), .int (i : Nat)] = some (.bl true) := by
  have hix : ixD (.lst (xs.map enc)) (.int (i : Nat)) = some (enc x) := by
    show atD (xs.map enc) ((i : Nat) : Int) = _
    unfold atD
    rw [if_pos (by omega), Int.toNat_natCast, List.getElem?_map, hx]
    rfl
  have hsl : eSl (eVar 0) oNone (oSome (eVar 1)) [.val (.lst (xs.map enc)), .val (.int (i : Nat)), .val (.str (nm x))] = some (.lst ((xs.take i).map enc)) := by
    have := ev_slP (e := eVar 0) (e2 := eVar 1) (ρ := [.val (.lst (xs.map enc)), .val (.int (i : Nat)), .val (.str (nm x))]) (ds := xs.map enc) (hi := (i : Nat)) rfl rfl
    rw [this, cut_map, cut_pre (by omega), Int.toNat_natCast]
  have hnot : cmpD .notIn (.str (nm x)) (.lst (((xs.take i).map nm).map .str)) = some true := by
    show ((strsOf (((xs.take i).map nm).map D.str)).map (fun l => decide (nm x ∈ l))).map (!·) = _
    have h2 : strsOf (((xs.take i).map nm).map D.str) = some ((xs.take i).map nm) := by
      have := strsOf_map (xs := (xs.take i).map nm) (g := fun x => x)
      rw [List.map_id'] at this
      exact this
    rw [h2]
    show some (!decide (nm x ∈ (xs.take i).map nm)) = _
    have hni : nm x ∉ (xs.take i).map nm := fun hm => by
      obtain ⟨y, hy, e⟩ := List.mem_map.mp hm
      obtain ⟨j, hj, ey⟩ := List.mem_iff_getElem.mp hy
      rw [List.length_take] at hj
      have hxi := (List.getElem?_eq_some_iff.mp hx)
      obtain ⟨hil, hxe⟩ := hxi
      rw [List.getElem_take] at ey
      have hp := List.pairwise_iff_getElem.mp hn j i (by rw [List.length_map]; omega) (by rw [List.length_map]; exact hil) (by omega)
      rw [List.getElem_map, List.getElem_map, ey, hxe] at hp
      exact hp e
    rw [decide_eq_false hni]
    rfl
  refine run_rt rfl (ev_seq (ρ1 := [.val (.lst (xs.map enc)), .val (.int (i : Nat)), .val (.str (nm x))]) (ev_set (ev_ix (a := enc x) (ev_ix rfl rfl hix) rfl (r := some (.str (nm x))) (by rw [he]; rfl)) rfl) (ev_ret (ev_andE (ev_call1 (d := .str (nm x)) rfl (ho x (List.mem_of_getElem? hx))) (ev_test (ev_cmp (a := .str (nm x)) rfl (ev_call1 hsl (names_T he (by rw [List.length_take]; omega))) hnot)))))
theorem enum_gen : ∀ (k : Nat) (xs : List α), enumFrom k (xs.map enc) = (xs.zipIdx k).map fun p => D.tup [.int (p.2 : Nat), enc p.1]
  | _, [] => rfl
  | k, x :: xs => by
    rw [List.map_cons, List.zipIdx_cons, List.map_cons, ← enum_gen (k + 1) xs]
    rfl
/-- the flags of a loop are all True -/
theorem flags_T {p q f : Nat} {E : SE} (mk : Slot → Slot → List D → Env) (hset : ∀ a b fl x y, gTup [p, q] (.tup [x, y]) (mk a b fl) = some (mk (.val x) (.val y) fl)) (hget : ∀ a b fl, (mk a b fl)[f]? = some (.own fl)) (happ : ∀ a b fl fl', (mk a b fl).set f (.own fl') = mk a b fl') (xs : List α) (hl : xs.length ≤ 900)
    (hE : ∀ (i : Nat) x fl, xs[i]? = some x → E (mk (.val (.int (i : Nat))) (.val (enc x)) fl) = some (.bl true)) (a b : Slot) : ∃ a' b', forLoop (forTurn (gTup [p, q]) (sApp f E)) (enumFrom 0 (xs.map enc)) (mk a b []) = some (.nx (mk a' b' (xs.map fun _ => .bl true))) := by
  rw [enum_gen]
  obtain ⟨ρ1, k1, a', b', e1⟩ := for_inv (f := forTurn (gTup [p, q]) (sApp f E)) (enc := fun p : α × Nat => D.tup [.int (p.2 : Nat), enc p.1]) (fun pre ρ => ∃ a b, ρ = mk a b (pre.map fun _ => .bl true)) (xs.zipIdx 0) (mk a b []) (by
    rintro pre ⟨x, i⟩ post ρ e ⟨a, b, rfl⟩
    have hm : (x, i) ∈ xs.zipIdx 0 := by rw [e]; simp
    have hg : xs[i]? = some x := by
      have := List.mem_zipIdx_iff_getElem?.mp hm
      simpa using this
    have hlen := congrArg List.length e
    rw [List.length_zipIdx, List.length_append, List.length_cons] at hlen
    refine ⟨_, turn_tup (hset a b _ _ _) (ev_app (hE i x _ hg) (hget _ _ _) (by rw [List.length_map]; omega)), .val (.int (i : Nat)), .val (enc x), ?_⟩
    rw [happ, List.map_append]
    rfl) ⟨a, b, rfl⟩
  have hz : ∀ (xs : List α) (k : Nat), (xs.zipIdx k).map (fun _ => D.bl true) = xs.map fun _ => D.bl true := by
    intro xs
    induction xs with
    | nil => exact fun k => rfl
    | cons x xs ih => exact fun k => by rw [List.zipIdx_cons, List.map_cons, List.map_cons, ih]
  exact ⟨a', b', by rw [k1, e1, hz]⟩
theorem require_T {part : Str} (xs : List α) (hl : xs.length ≤ 900) : s_require [.str part, .lst (xs.map fun _ => .bl true)] = some .non := by
  obtain ⟨ρ1, k1, _⟩ := for_inv (f := forTurn (gTup [2, 3]) (sIf (tNot (tVal (eVar 3))) sFail sNext)) (enc := fun p : α × Nat => D.tup [.int (p.2 : Nat), .bl true]) (fun _ ρ => ∃ a b, ρ = [.val (.str part), .val (.lst (xs.map fun _ => .bl true)), a, b]) (xs.zipIdx 0) [.val (.str part), .val (.lst (xs.map fun _ => .bl true)), .no, .no] (by
    rintro pre ⟨x, i⟩ post ρ e ⟨a, b, rfl⟩
    exact ⟨[.val (.str part), .val (.lst (xs.map fun _ => .bl true)), .val (.int (i : Nat)), .val (.bl true)], turn_tup rfl (ev_ifF (b := sNext) (ev_not (b := true) rfl) rfl), _, _, rfl⟩) ⟨_, _, rfl⟩
  refine run_nx (ρ := ρ1) rfl (ev_for (ds := enumFrom 0 (xs.map fun _ => D.bl true)) rfl ?_)
  rw [enum_gen (enc := fun _ : α => D.bl true)]
  exact k1
end
end WF
end
/-! text M21 -/
section
set_option Elab.async false
set_option linter.all false
set_option maxHeartbeats 1000000
/-! setup of a good world. -/
namespace WF
open PySem
structure WorV (w : Wor) : Prop where
  w0 : 2 ≤ w.wk
  w1 : w.wk ≤ 24
  pl : w.pe.length ≤ 4
  pn : (w.pe.map (·.1)).Nodup
  pk : ∀ x ∈ w.pe, NameOk x.1 ∧ 0 ≤ x.2 ∧ x.2 ≤ 20
  sl : w.sc.length ≤ 2
  sn : (w.sc.map (·.nm)).Nodup
  sk : ∀ x ∈ w.sc, NameOk x.nm ∧ SchK w.wk (w.pe.map (·.1)) x
  ol : w.po.length ≤ 2
  on : (w.po.map (·.nm)).Nodup
  ok : ∀ x ∈ w.po, NameOk x.nm ∧ PolK (w.sc.map (·.nm)) x
  wl : w.wi.length ≤ 2
  wn : (w.wi.map (·.nm)).Nodup
  wk' : ∀ x ∈ w.wi, NameOk x.nm ∧ WinK w.wk x
  rl0 : 1 ≤ w.ro.length
  rl : w.ro.length ≤ 4
  rk : ∀ (i : Nat) (r : Rou), w.ro[i]? = some r → RouK (w.po.map (·.nm)) (w.wi.map (·.nm)) (i : Int) r
  hl : w.ho.length ≤ 2
  hk : ∀ h ∈ w.ho, HolK h
  re0 : 1 ≤ w.re
  re1 : w.re ≤ 3
  pz0 : 0 ≤ w.pz
  pz1 : w.pz ≤ 3
  dn0 : 0 ≤ w.dn
  dn1 : w.dn ≤ 2
theorem WorV.b {w : Wor} (V : WorV w) : WorB w where
  wk := ⟨V.w0, V.w1⟩
  sb := fun s hs => by
    have K := (V.sk s hs).2
    exact ⟨K.ll, K.sl, fun l hl => (K.lk l hl).b, fun x hx => ⟨(K.sk x hx).2.1, (K.sk x hx).2.2.1⟩⟩
  pl := fun s hs => by
    have K := (V.sk s hs).2
    exact ⟨fun l hl m hm => (K.lk l hl).ms m hm, fun x hx => (K.sk x hx).2.2.2⟩
  pb := fun p hp => by
    have K := (V.ok p hp).2
    exact ⟨K.l0, K.l1, K.lk⟩
  wb := fun x hx => (V.wk' x hx).2.l1
  rb := fun r hr => by
    obtain ⟨i, hi, e⟩ := List.mem_iff_getElem.mp hr
    have K := V.rk i r (by rw [List.getElem?_eq_getElem hi, e])
    exact ⟨K.wt0, K.wt1, K.iv0, K.iv1, K.ag0, K.ag1, K.mul, K.mum, K.pol⟩
  re0 := V.re0
  re1 := V.re1
  pz0 := V.pz0
  pz1 := V.pz1
theorem WorV.r {w : Wor} (V : WorV w) : RoB w.ro := fun k r hr p hp => by
  have K := V.rk k r hr
  by_cases c : k = 0
  · have := (K.p0 (by omega)).1
    rw [this] at hp
    cases hp
  · obtain ⟨q, h1, h2, h3⟩ := K.p1 (by omega)
    rw [h1] at hp
    cases hp
    exact ⟨h2, h3⟩
section
variable {w : Wor}
theorem ev_lst1 {e : SE} {ρ : Env} {a : D} (h : e ρ = some a) : eLst (aCons e aNil) ρ = some (.lst [a]) := by
  show ((e ρ).bind _).bind _ = _
  rw [h]
  rfl
theorem one_T {part : Str} {e : SE} {ρ : Env} (h : e ρ = some (.bl true)) : sDrop (eCall s_require (aCons (eCon (.str part)) (aCons (eLst (aCons e aNil)) aNil))) ρ = some (.nx ρ) :=
  ev_drop (ev_call2 (a := .str part) (b := .lst [.bl true]) rfl (ev_lst1 h) (require_T (part := part) [()] (by decide)))
theorem freq {α : Type} {i : Nat} {part : Str} {ρ ρ' : Env} (xs : List α) (hl : xs.length ≤ 900) (h : frz [i] ρ = ρ') (k : eVar i ρ' = some (.lst (xs.map fun _ => .bl true))) : sFrz [i] (sDrop (eCall s_require (aCons (eCon (.str part)) (aCons (eVar i) aNil)))) ρ = some (.nx ρ') := by
  show sDrop _ (frz [i] ρ) = _
  rw [h]
  exact ev_drop (ev_call2 (a := .str part) rfl k (require_T xs hl))
theorem ev_enum {e : SE} {ρ : Env} {ds : List D} (h : e ρ = some (.lst ds)) : iEnum e ρ = some (enumFrom 0 ds) := by
  show (e ρ).bind _ = _
  rw [h]
  rfl
theorem people_T (V : WorV w) : s_check_people [eWor w] = some .non := by
  have h0 := V.w0
  have h1 := V.w1
  have h2 := V.pl
  have h3 := V.sl
  obtain ⟨a2, a3, k1⟩ := flags_T (enc := ePer) (p := 2) (q := 3) (f := 1) (E := eAnd (eCall s_is_new_name (aCons (eFld (eVar 0) "people") (aCons (eVar 2) aNil))) (eCall s_is_between (aCons (eCon (.int 0)) (aCons (eIx (bVar 3) (eCon (.int 1))) (aCons (eCon (.int 20)) aNil)))))
    (fun a b fl => [.val (eWor w), .own fl, a, b, .no, .no]) (fun _ _ _ _ _ => rfl) (fun _ _ _ => rfl) (fun _ _ _ _ => rfl) w.pe (by omega) (fun i x fl hx => by
      obtain ⟨p1, p2, p3⟩ := V.pk x (List.mem_of_getElem? hx)
      exact ev_andE (ev_call2 (a := .lst (w.pe.map ePer)) (b := .int (i : Nat)) (ev_fld rfl (f_people w)) rfl (new_T he_per (by omega) V.pn (fun y hy => (V.pk y hy).1) hx)) (ev_call3 (a := .int 0) (b := .int x.2) (c := .int 20) rfl rfl rfl (between_T p2 p3))) .no .no
  obtain ⟨b2, b5, k2⟩ := flags_T (enc := eSch) (p := 2) (q := 5) (f := 1) (E := eAnd (eCall s_is_new_name (aCons (eFld (eVar 0) "schedules") (aCons (eVar 2) aNil))) (eCall s_schedule_fits (aCons (eFld (eVar 0) "week") (aCons (eVar 4) (aCons (eVar 5) aNil)))))
    (fun a b fl => [.val (eWor w), .own fl, a, a3, .val (.lst ((w.pe.map (·.1)).map .str)), b]) (fun _ _ _ _ _ => rfl) (fun _ _ _ => rfl) (fun _ _ _ _ => rfl) w.sc (by omega) (fun i x fl hx => by
      obtain ⟨p1, p2⟩ := V.sk x (List.mem_of_getElem? hx)
      exact ev_andE (ev_call2 (a := .lst (w.sc.map eSch)) (b := .int (i : Nat)) (ev_fld rfl (f_sch w)) rfl (new_T he_sch (by omega) V.sn (fun y hy => (V.sk y hy).1) hx)) (ev_call3 (a := .int w.wk) (b := .lst ((w.pe.map (·.1)).map .str)) (c := eSch x) (ev_fld rfl (f_week w)) rfl rfl (schedule_T p2))) a2 .no
  refine run_nx rfl (ev_seq (one_T (ev_call3 (a := .int 1) (b := .int w.wk) (c := .int 2000) rfl (ev_fld rfl (f_week w)) rfl (between_T (by omega) (by omega)))) (ev_seq (ρ1 := [.val (eWor w), .own [], .no, .no, .no, .no]) rfl (ev_seq (ev_for (ev_enum (ev_fld rfl (f_people w))) k1)
    (ev_seq (ρ1 := [.val (eWor w), .val (.lst (w.pe.map fun _ => .bl true)), a2, a3, .no, .no]) (freq (ρ' := [.val (eWor w), .val (.lst (w.pe.map fun _ => .bl true)), a2, a3, .no, .no]) w.pe (by omega) rfl rfl)
    (ev_seq (ρ1 := [.val (eWor w), .val (.lst (w.pe.map fun _ => .bl true)), a2, a3, .val (.lst ((w.pe.map (·.1)).map .str)), .no]) (ev_set (ev_call1 (d := .lst (w.pe.map ePer)) (ev_fld rfl (f_people w)) (names_T he_per (by omega))) rfl)
    (ev_seq (ρ1 := [.val (eWor w), .own [], a2, a3, .val (.lst ((w.pe.map (·.1)).map .str)), .no]) rfl (ev_seq (ev_for (ev_enum (ev_fld rfl (f_sch w))) k2)
    (freq (ρ' := [.val (eWor w), .val (.lst (w.sc.map fun _ => .bl true)), b2, a3, .val (.lst ((w.pe.map (·.1)).map .str)), b5]) w.sc (by omega) rfl rfl))))))))
theorem routes_T (V : WorV w) : s_check_routes [eWor w] = some .non := by
  have h0 := V.w0
  have h1 := V.w1
  have h2 := V.ol
  have h3 := V.wl
  have h4 := V.rl
  have h5 := V.hl
  have h6 := V.sl
  obtain ⟨a3, a4, k1⟩ := flags_T (enc := ePol) (p := 3) (q := 4) (f := 2) (E := eAnd (eCall s_is_new_name (aCons (eFld (eVar 0) "policies") (aCons (eVar 3) aNil))) (eCall s_policy_fits (aCons (eVar 1) (aCons (eVar 4) aNil))))
    (fun a b fl => [.val (eWor w), .val (.lst ((w.sc.map (·.nm)).map .str)), .own fl, a, b, .no, .no, .no, .no, .no]) (fun _ _ _ _ _ => rfl) (fun _ _ _ => rfl) (fun _ _ _ _ => rfl) w.po (by omega) (fun i x fl hx => by
      obtain ⟨p1, p2⟩ := V.ok x (List.mem_of_getElem? hx)
      exact ev_andE (ev_call2 (a := .lst (w.po.map ePol)) (b := .int (i : Nat)) (ev_fld rfl (f_pol w)) rfl (new_T he_pol (by omega) V.on (fun y hy => (V.ok y hy).1) hx)) (ev_call2 (a := .lst ((w.sc.map (·.nm)).map .str)) (b := ePol x) rfl rfl (policy_T p2))) .no .no
  obtain ⟨b3, b5, k2⟩ := flags_T (enc := eWin) (p := 3) (q := 5) (f := 2) (E := eAnd (eCall s_is_new_name (aCons (eFld (eVar 0) "windows") (aCons (eVar 3) aNil))) (eCall s_window_fits (aCons (eFld (eVar 0) "week") (aCons (eVar 5) aNil))))
    (fun a b fl => [.val (eWor w), .val (.lst ((w.sc.map (·.nm)).map .str)), .own fl, a, a4, b, .no, .no, .no, .no]) (fun _ _ _ _ _ => rfl) (fun _ _ _ => rfl) (fun _ _ _ _ => rfl) w.wi (by omega) (fun i x fl hx => by
      obtain ⟨p1, p2⟩ := V.wk' x (List.mem_of_getElem? hx)
      exact ev_andE (ev_call2 (a := .lst (w.wi.map eWin)) (b := .int (i : Nat)) (ev_fld rfl (f_win w)) rfl (new_T he_win (by omega) V.wn (fun y hy => (V.wk' y hy).1) hx)) (ev_call2 (a := .int w.wk) (b := eWin x) (ev_fld rfl (f_week w)) rfl (window_T p2))) a3 .no
  obtain ⟨c3, c8, k3⟩ := flags_T (enc := eRou) (p := 3) (q := 8) (f := 2) (E := eAnd (eTest (tCmp .lt (eVar 3) (eCon (.int 30)))) (eCall s_route_fits (aCons (eVar 6) (aCons (eVar 7) (aCons (eVar 3) (aCons (eVar 8) aNil))))))
    (fun a b fl => [.val (eWor w), .val (.lst ((w.sc.map (·.nm)).map .str)), .own fl, a, a4, b5, .val (.lst ((w.wi.map (·.nm)).map .str)), .val (.lst ((w.po.map (·.nm)).map .str)), b, .no]) (fun _ _ _ _ _ => rfl) (fun _ _ _ => rfl) (fun _ _ _ _ => rfl) w.ro (by omega) (fun i x fl hx => by
      have hi := (List.getElem?_eq_some_iff.mp hx).1
      have t1 : tCmp .lt (eVar 3) (eCon (.int 30)) [.val (eWor w), .val (.lst ((w.sc.map (·.nm)).map .str)), .own fl, .val (.int (i : Nat)), a4, b5, .val (.lst ((w.wi.map (·.nm)).map .str)), .val (.lst ((w.po.map (·.nm)).map .str)), .val (eRou x), .no] = some (decide ((i : Int) < 30)) := rfl
      rw [decide_eq_true (by omega)] at t1
      exact ev_andE (ev_test t1) (ev_call4 (a := .lst ((w.wi.map (·.nm)).map .str)) (b := .lst ((w.po.map (·.nm)).map .str)) (c := .int (i : Nat)) (d := eRou x) rfl rfl rfl rfl (route_T (by omega) (V.rk i x hx)))) b3 .no
  have hro : tNot (tVal (eFld (eVar 0) "routes")) [.val (eWor w), .val (.lst ((w.sc.map (·.nm)).map .str)), .val (.lst (w.wi.map fun _ => .bl true)), b3, a4, b5, .no, .no, .no, .no] = some false := by
    refine ev_not (b := true) (ev_val (ev_fld rfl (f_rou w)) ?_)
    show some (!(w.ro.map eRou).isEmpty) = some true
    have := V.rl0
    cases hr : w.ro with
    | nil => rw [hr] at this; simp at this
    | cons a b => rfl
  have hho : eComp [3, 9] (gTup [3, 9]) (iEnum (eFld (eVar 0) "holdbacks")) tYes (eAnd (eTest (tCmp .lt (eVar 3) (eCon (.int 10)))) (eCall s_holdback_fits (aCons (eVar 9) aNil))) [.val (eWor w), .val (.lst ((w.sc.map (·.nm)).map .str)), .val (.lst (w.ro.map fun _ => .bl true)), c3, a4, b5, .val (.lst ((w.wi.map (·.nm)).map .str)), .val (.lst ((w.po.map (·.nm)).map .str)), c8, .no] =
      some (.lst ((w.ho.zipIdx 0).map fun _ => .bl true)) := by
    refine comp_map (xs := w.ho.zipIdx 0) (enc := fun p : Hol × Nat => D.tup [.int (p.2 : Nat), eHol p.1]) (fun _ => .bl true) (by rw [← enum_gen (enc := eHol)]; exact ev_enum (ev_fld rfl (f_hol w))) (by rw [List.length_zipIdx]; exact big_of (by omega)) fun p hp => ?_
    obtain ⟨x, i⟩ := p
    have hg : w.ho[i]? = some x := by
      have := List.mem_zipIdx_iff_getElem?.mp hp
      simpa using this
    have hi := (List.getElem?_eq_some_iff.mp hg).1
    have t1 : tCmp .lt (eVar 3) (eCon (.int 10)) [.val (eWor w), .val (.lst ((w.sc.map (·.nm)).map .str)), .val (.lst (w.ro.map fun _ => .bl true)), .val (.int (i : Nat)), a4, b5, .val (.lst ((w.wi.map (·.nm)).map .str)), .val (.lst ((w.po.map (·.nm)).map .str)), c8, .val (eHol x)] = some (decide ((i : Int) < 10)) := rfl
    rw [decide_eq_true (by omega)] at t1
    show Option.map some (eAnd _ _ [.val (eWor w), .val (.lst ((w.sc.map (·.nm)).map .str)), .val (.lst (w.ro.map fun _ => .bl true)), .val (.int (i : Nat)), a4, b5, .val (.lst ((w.wi.map (·.nm)).map .str)), .val (.lst ((w.po.map (·.nm)).map .str)), c8, .val (eHol x)]) = _
    rw [ev_andE (ev_test t1) (ev_call1 (d := eHol x) rfl (holdback_T (V.hk x (List.mem_of_getElem? hg))))]
    rfl
  refine run_nx rfl (ev_seq (ρ1 := [.val (eWor w), .val (.lst ((w.sc.map (·.nm)).map .str)), .no, .no, .no, .no, .no, .no, .no, .no]) (ev_set (ev_call1 (d := .lst (w.sc.map eSch)) (ev_fld rfl (f_sch w)) (names_T he_sch (by omega))) rfl)
    (ev_seq (ρ1 := [.val (eWor w), .val (.lst ((w.sc.map (·.nm)).map .str)), .own [], .no, .no, .no, .no, .no, .no, .no]) rfl (ev_seq (ev_for (ev_enum (ev_fld rfl (f_pol w))) k1)
    (ev_seq (ρ1 := [.val (eWor w), .val (.lst ((w.sc.map (·.nm)).map .str)), .val (.lst (w.po.map fun _ => .bl true)), a3, a4, .no, .no, .no, .no, .no]) (freq (ρ' := [.val (eWor w), .val (.lst ((w.sc.map (·.nm)).map .str)), .val (.lst (w.po.map fun _ => .bl true)), a3, a4, .no, .no, .no, .no, .no]) w.po (by omega) rfl rfl)
    (ev_seq (ρ1 := [.val (eWor w), .val (.lst ((w.sc.map (·.nm)).map .str)), .own [], a3, a4, .no, .no, .no, .no, .no]) rfl (ev_seq (ev_for (ev_enum (ev_fld rfl (f_win w))) k2)
    (ev_seq (ρ1 := [.val (eWor w), .val (.lst ((w.sc.map (·.nm)).map .str)), .val (.lst (w.wi.map fun _ => .bl true)), b3, a4, b5, .no, .no, .no, .no]) (freq (ρ' := [.val (eWor w), .val (.lst ((w.sc.map (·.nm)).map .str)), .val (.lst (w.wi.map fun _ => .bl true)), b3, a4, b5, .no, .no, .no, .no]) w.wi (by omega) rfl rfl)
    (ev_seq (ev_ifF (b := sNext) hro rfl)
    (ev_seq (ρ1 := [.val (eWor w), .val (.lst ((w.sc.map (·.nm)).map .str)), .val (.lst (w.wi.map fun _ => .bl true)), b3, a4, b5, .val (.lst ((w.wi.map (·.nm)).map .str)), .no, .no, .no]) (ev_set (ev_call1 (d := .lst (w.wi.map eWin)) (ev_fld rfl (f_win w)) (names_T he_win (by omega))) rfl)
    (ev_seq (ρ1 := [.val (eWor w), .val (.lst ((w.sc.map (·.nm)).map .str)), .val (.lst (w.wi.map fun _ => .bl true)), b3, a4, b5, .val (.lst ((w.wi.map (·.nm)).map .str)), .val (.lst ((w.po.map (·.nm)).map .str)), .no, .no]) (ev_set (ev_call1 (d := .lst (w.po.map ePol)) (ev_fld rfl (f_pol w)) (names_T he_pol (by omega))) rfl)
    (ev_seq (ρ1 := [.val (eWor w), .val (.lst ((w.sc.map (·.nm)).map .str)), .own [], b3, a4, b5, .val (.lst ((w.wi.map (·.nm)).map .str)), .val (.lst ((w.po.map (·.nm)).map .str)), .no, .no]) rfl (ev_seq (ev_for (ev_enum (ev_fld rfl (f_rou w))) k3)
    (ev_seq (ρ1 := [.val (eWor w), .val (.lst ((w.sc.map (·.nm)).map .str)), .val (.lst (w.ro.map fun _ => .bl true)), c3, a4, b5, .val (.lst ((w.wi.map (·.nm)).map .str)), .val (.lst ((w.po.map (·.nm)).map .str)), c8, .no]) (freq (ρ' := [.val (eWor w), .val (.lst ((w.sc.map (·.nm)).map .str)), .val (.lst (w.ro.map fun _ => .bl true)), c3, a4, b5, .val (.lst ((w.wi.map (·.nm)).map .str)), .val (.lst ((w.po.map (·.nm)).map .str)), c8, .no]) w.ro (by omega) rfl rfl)
    (ev_drop (ev_call2 (a := .str "holdbacks") rfl hho (require_T (w.ho.zipIdx 0) (by rw [List.length_zipIdx]; omega)))))))))))))))))
theorem rest_T (V : WorV w) : s_check_rest [eWor w] = some .non := by
  have h1 := V.re0
  have h2 := V.re1
  have h3 := V.pz0
  have h4 := V.pz1
  have h5 := V.dn0
  have h6 := V.dn1
  exact run_nx rfl (ev_seq (ρ1 := [.val (eWor w), .own [], .no, .no]) rfl (ev_seq (ρ1 := [.val (eWor w), .own [], .no, .no]) (ev_for (ds := []) (ev_enum (ev_fld rfl (f_grp w))) rfl)
    (ev_seq (ρ1 := [.val (eWor w), .val (.lst []), .no, .no]) (freq (ρ' := [.val (eWor w), .val (.lst []), .no, .no]) ([] : List Unit) (by decide) rfl rfl)
    (ev_seq (one_T (ev_call3 (a := .int 1) (b := .int w.re) (c := .int 5) rfl (ev_fld rfl (f_rep w)) rfl (between_T (by omega) (by omega))))
    (ev_seq (one_T (ev_call3 (a := .int 0) (b := .int w.pz) (c := .int 1000) rfl (ev_fld rfl (f_pau w)) rfl (between_T (by omega) (by omega))))
    (ev_seq (one_T (ev_call3 (a := .int 0) (b := .int w.dn) (c := .int 20) rfl (ev_fld rfl (f_dwn w)) rfl (between_T (by omega) (by omega))))
    (ev_seq (one_T (ev_call1 (d := .tup [.int 0, .int 10, .int 2, .int 0]) (ev_fld rfl (f_sto w)) store_T))
    (one_T (ev_call3 (a := .int 1) (b := .int 5) (c := .int 1000) rfl (ev_fld rfl (f_loo w)) rfl (between_T (by omega) (by omega)))))))))))
/-- _law_setup of a good world's parts gives the world -/
theorem setup_T (V : WorV w) {nums : List D} (hn : nums = [.int w.re, .int w.pz, .int w.dn, .int 5]) : s__law_setup [.int w.wk, .lst (w.pe.map ePer), .lst (w.sc.map eSch), .lst (w.po.map ePol), .lst (w.wi.map eWin), .lst (w.ro.map eRou), .lst (w.ho.map eHol), .lst [], .lst nums] = some (eWor w) := by
  subst hn
  have hs : s_setup [.int w.wk, .lst (w.pe.map ePer), .lst (w.sc.map eSch), .lst (w.po.map ePol), .lst (w.wi.map eWin), .lst (w.ro.map eRou), .lst (w.ho.map eHol), .lst [], .int w.re, .int w.pz, .int w.dn, .tup [.int 0, .int 10, .int 2, .int 0], .int 5] = some (eWor w) :=
    run_rt rfl (ev_seq (ρ1 := [.val (.int w.wk), .val (.lst (w.pe.map ePer)), .val (.lst (w.sc.map eSch)), .val (.lst (w.po.map ePol)), .val (.lst (w.wi.map eWin)), .val (.lst (w.ro.map eRou)), .val (.lst (w.ho.map eHol)), .val (.lst []), .val (.int w.re), .val (.int w.pz), .val (.int w.dn), .val (.tup [.int 0, .int 10, .int 2, .int 0]), .val (.int 5), .val (.tup [.int w.re, .int w.pz, .int w.dn, .tup [.int 0, .int 10, .int 2, .int 0], .int 5]), .no]) rfl
      (ev_seq (ρ1 := [.val (.int w.wk), .val (.lst (w.pe.map ePer)), .val (.lst (w.sc.map eSch)), .val (.lst (w.po.map ePol)), .val (.lst (w.wi.map eWin)), .val (.lst (w.ro.map eRou)), .val (.lst (w.ho.map eHol)), .val (.lst []), .val (.int w.re), .val (.int w.pz), .val (.int w.dn), .val (.tup [.int 0, .int 10, .int 2, .int 0]), .val (.int 5), .val (.tup [.int w.re, .int w.pz, .int w.dn, .tup [.int 0, .int 10, .int 2, .int 0], .int 5]), .val (eWor w)]) rfl
      (ev_seq (ev_drop (ev_call1 (d := eWor w) rfl (people_T V))) (ev_seq (ev_drop (ev_call1 (d := eWor w) rfl (routes_T V))) (ev_seq (ev_drop (ev_call1 (d := eWor w) rfl (rest_T V))) rfl)))))
  refine run_rt rfl (ev_ret ?_)
  show (some _).bind (fun ds => s_setup (put_store ds)) = _
  exact hs
end
end WF
end
/-! text M22 -/
section
set_option Elab.async false
set_option linter.all false
set_option maxHeartbeats 2000000
/-! The law's world is good. -/
namespace WF
open PySem
theorem comp_ex3 {α β γ : Type} {vs : List Nat} {g : SG} {it : SA} {t : ST} {e : SE} {ρ : Env} {xs : List α} {enc : α → D} (P : β → Prop) (f : β → γ) (h : α → γ) (enc2 : β → D) (hi : it ρ = some (xs.map enc)) (hl : xs.length ≤ big) (hx : ∀ x ∈ xs, ∃ y, f y = h x ∧ P y ∧ compTurn g t e vs ρ (enc x) = some (some (enc2 y))) :
    ∃ ys : List β, eComp vs g it t e ρ = some (.lst (ys.map enc2)) ∧ ys.map f = xs.map h ∧ ∀ y ∈ ys, P y := by
  have A : ∀ xs : List α, (∀ x ∈ xs, ∃ y, f y = h x ∧ P y ∧ compTurn g t e vs ρ (enc x) = some (some (enc2 y))) → ∃ ys : List β, compLoop (compTurn g t e vs ρ) (xs.map enc) = some (ys.map enc2) ∧ ys.map f = xs.map h ∧ ∀ y ∈ ys, P y := by
    intro xs
    induction xs with
    | nil => exact fun _ => ⟨[], rfl, rfl, fun y hy => by cases hy⟩
    | cons x xs ih =>
      intro hx
      obtain ⟨ys, h1, h2, h3⟩ := ih fun z hz => hx z (List.mem_cons_of_mem _ hz)
      obtain ⟨y, hf, hy, e1⟩ := hx x (List.mem_cons_self ..)
      refine ⟨y :: ys, ?_, by rw [List.map_cons, List.map_cons, hf, h2], fun z hz => ?_⟩
      · show (compTurn g t e vs ρ (enc x)).bind _ = _
        rw [e1]
        show (compLoop (compTurn g t e vs ρ) (xs.map enc)).map _ = _
        rw [h1]
        rfl
      · rcases List.mem_cons.mp hz with rfl | hz
        · exact hy
        · exact h3 z hz
  obtain ⟨ys, h1, h2, h3⟩ := A xs hx
  refine ⟨ys, ?_, h2, h3⟩
  show (it ρ).bind _ = _
  rw [hi]
  show (if (xs.map enc).length ≤ big then (compLoop (compTurn g t e vs ρ) (xs.map enc)).map D.lst else none) = _
  rw [if_pos (by rw [List.length_map]; exact hl), h1]
  rfl
theorem ix_str {ws : List Str} {i : Int} (h0 : 0 ≤ i) (h1 : i < (ws.length : Int)) : ixD (.lst (ws.map .str)) (.int i) = some (.str (ws.getD i.toNat "")) := by
  have hl : i.toNat < ws.length := by omega
  show atD (ws.map D.str) i = _
  unfold atD
  rw [if_pos h0, List.getElem?_map, List.getElem?_eq_getElem hl, List.getD_eq_getElem?_getD, List.getElem?_eq_getElem hl]
  rfl
theorem nd_get {ws : List Str} {a n : Nat} (h : ws.Nodup) (hl : a + n ≤ ws.length) : ((List.range n).map fun k => ws.getD (a + k) "").Nodup := by
  refine List.Pairwise.map _ (fun a b h => h) ?_
  refine List.Pairwise.imp_of_mem (R := fun a b => a < b) (fun {x y} hx hy hxy e => ?_) List.pairwise_lt_range
  have hx2 := List.mem_range.mp hx
  have hy2 := List.mem_range.mp hy
  have hp := List.pairwise_iff_getElem.mp h (a + x) (a + y) (by omega) (by omega) (by omega)
  rw [List.getD_eq_getElem?_getD, List.getD_eq_getElem?_getD, List.getElem?_eq_getElem (by omega), List.getElem?_eq_getElem (by omega)] at e
  exact hp e
theorem get_mem {ws : List Str} {i : Nat} (h : i < ws.length) : ws.getD i "" ∈ ws := by
  rw [List.getD_eq_getElem?_getD, List.getElem?_eq_getElem h]
  exact List.getElem_mem h
theorem range_get {ws : List Str} : (List.range ws.length).map (fun k => ws.getD (0 + k) "") = ws := by
  refine List.ext_getElem? fun j => ?_
  rw [List.getElem?_map]
  by_cases c : j < ws.length
  · rw [List.getElem?_range c]
    show some (ws.getD (0 + j) "") = _
    rw [Nat.zero_add, List.getD_eq_getElem?_getD, List.getElem?_eq_getElem c]
    rfl
  · rw [List.getElem?_eq_none (by rw [List.length_range]; omega), List.getElem?_eq_none (by omega)]
    rfl
theorem ev_callN {f : List D → Option D} {es : SA} {ρ : Env} {ds : List D} {r : Option D} (h : es ρ = some ds) (k : f ds = r) : eCall f es ρ = r := by
  show (es ρ).bind f = r
  rw [h]
  exact k
theorem ev_lst4 {e1 e2 e3 e4 : SE} {ρ : Env} {a b c d : D} (h1 : e1 ρ = some a) (h2 : e2 ρ = some b) (h3 : e3 ρ = some c) (h4 : e4 ρ = some d) : eLst (aCons e1 (aCons e2 (aCons e3 (aCons e4 aNil)))) ρ = some (.lst [a, b, c, d]) := by
  show (aCons e1 (aCons e2 (aCons e3 (aCons e4 aNil))) ρ).bind _ = _
  rw [ev_cons h1 (ev_a3 h2 h3 h4)]
  rfl
theorem world_T (ns : List Int) : ∃ (w : Wor) (nm wo : List Str), s__law_world [.scr ns] = some [eWor w, .lst (nm.map .str), .lst (wo.map .str)] ∧ WorV w ∧ WordsOk nm 3 ∧ wo.length = 3 ∧ ∀ x ∈ wo, ValOk x := by
  have s8 : small64 8 = true := small64_of (by omega) (by omega)
  have s6 : small64 6 = true := small64_of (by omega) (by omega)
  obtain ⟨c0, hc0⟩ := cell_eq (ns := ns) (k := 0) (by omega)
  obtain ⟨c1, hc1⟩ := cell_eq (ns := ns) (k := 1) (by omega)
  obtain ⟨c2, hc2⟩ := cell_eq (ns := ns) (k := 2) (by omega)
  obtain ⟨c5, hc5⟩ := cell_eq (ns := ns) (k := 5) (by omega)
  obtain ⟨c6, hc6⟩ := cell_eq (ns := ns) (k := 6) (by omega)
  obtain ⟨c11, hc11⟩ := cell_eq (ns := ns) (k := 11) (by omega)
  obtain ⟨ws, hws, W⟩ := words_eq c0 (n := 8) (by omega)
  obtain ⟨nm, hnm, N⟩ := words_eq c1 (n := 3) (by omega)
  obtain ⟨wo, hwo, wl, wv⟩ := worths_eq c1 (n := 3) (by omega)
  obtain ⟨dr, hdr, dl, din⟩ := draws_eq (c := c2) (n := 16) (by omega)
  obtain ⟨st, hst, sl, sin⟩ := draws_eq (c := c5) (n := 16) (by omega)
  obtain ⟨ba, hba, bl, bin⟩ := draws_eq (c := c6) (n := 12) (by omega)
  obtain ⟨ho, hho, hol, hok⟩ := holds_eq (c := c11) N wl wv
  have wlen := W.len
  have I : ∀ i : Int, 0 ≤ i → i < 16 → ∃ v : Int, ixD (.lst (dr.map .int)) (.int i) = some (.int v) := fun i a b => ix_int a (by omega)
  obtain ⟨p0, h0⟩ := I 0 (by omega) (by omega)
  obtain ⟨p5, h5⟩ := I 5 (by omega) (by omega)
  obtain ⟨p6, h6⟩ := I 6 (by omega) (by omega)
  obtain ⟨p7, h7⟩ := I 7 (by omega) (by omega)
  obtain ⟨p8, h8⟩ := I 8 (by omega) (by omega)
  obtain ⟨p9, h9⟩ := I 9 (by omega) (by omega)
  obtain ⟨p10, h10⟩ := I 10 (by omega) (by omega)
  obtain ⟨p11, h11⟩ := I 11 (by omega) (by omega)
  obtain ⟨p12, h12⟩ := I 12 (by omega) (by omega)
  obtain ⟨a0, b0⟩ := mod_b (v := p0) (n := 23) (by omega)
  obtain ⟨a5, b5⟩ := mod_b (v := p5) (n := 4) (by omega)
  obtain ⟨a6, b6⟩ := mod_b (v := p6) (n := 2) (by omega)
  obtain ⟨a7, b7⟩ := mod_b (v := p7) (n := 2) (by omega)
  obtain ⟨a8, b8⟩ := mod_b (v := p8) (n := 3) (by omega)
  obtain ⟨a9, b9⟩ := mod_b (v := p9) (n := 4) (by omega)
  obtain ⟨a10, b10⟩ := mod_b (v := p10) (n := 3) (by omega)
  obtain ⟨a11, b11⟩ := mod_b (v := p11) (n := 4) (by omega)
  obtain ⟨a12, b12⟩ := mod_b (v := p12) (n := 3) (by omega)
  obtain ⟨days, hdays⟩ : ∃ days : Int, days = 2 + p0 % 23 := ⟨_, rfl⟩
  obtain ⟨n5, hn5⟩ : ∃ n : Nat, (n : Int) = 1 + p5 % 4 := ⟨(1 + p5 % 4).toNat, by omega⟩
  obtain ⟨n6, hn6⟩ : ∃ n : Nat, (n : Int) = 1 + p6 % 2 := ⟨(1 + p6 % 2).toNat, by omega⟩
  obtain ⟨n7, hn7⟩ : ∃ n : Nat, (n : Int) = 1 + p7 % 2 := ⟨(1 + p7 % 2).toNat, by omega⟩
  obtain ⟨n8, hn8⟩ : ∃ n : Nat, (n : Int) = p8 % 3 := ⟨(p8 % 3).toNat, by omega⟩
  obtain ⟨n9, hn9⟩ : ∃ n : Nat, (n : Int) = 1 + p9 % 4 := ⟨(1 + p9 % 4).toNat, by omega⟩
  -- the staff
  obtain ⟨pe, pe1, pe2, pe3⟩ := comp_ex3 (vs := [6]) (g := gName 6) (t := tYes) (e := eTup (aCons (eIx (bVar 1) (eVar 6)) (aCons (eBin .mod (eBlt .int (aCons (eIx (bVar 4) (eBin .add (eCon (.int 1)) (eVar 6))) aNil)) (eCon (.int 4))) aNil))) (it := iRng rng1 (aCons (eBin .add (eCon (.int 1)) (eBin .mod (eBlt .int (aCons (eIx (bVar 4) (eCon (.int 5))) aNil)) (eCon (.int 4)))) aNil))
    (ρ := [.val (.scr ns), .val (.lst (ws.map .str)), .val (.lst (nm.map .str)), .val (.lst (wo.map .str)), .val (.lst (dr.map .int)), .val (.int days), .no, .no, .no, .no, .no, .no, .no, .no, .no, .no, .no, .no, .no, .no, .no, .no]) (xs := List.range n5) (enc := fun k : Nat => D.int (0 + (k : Int)))
    (fun p : Str × Int => 0 ≤ p.2 ∧ p.2 ≤ 20) (·.1) (fun k => ws.getD (0 + k) "") ePer
    (ev_rng1 (j := (n5 : Nat)) (by rw [hn5]; exact ev_add rfl (ev_mod (ev_int (ev_ix rfl rfl h5)) rfl (by omega))) (rng1_nat (b := n5) (by omega))) (by rw [List.length_range]; exact big_of (by omega)) (fun k hk => by
      have hk2 := List.mem_range.mp hk
      obtain ⟨v, hv⟩ := I (1 + (0 + (k : Int))) (by omega) (by omega)
      obtain ⟨v0, v1⟩ := mod_b (v := v) (n := 4) (by omega)
      have hw := ix_str (ws := ws) (i := 0 + (k : Int)) (by omega) (by omega)
      rw [show (0 + (k : Int)).toNat = 0 + k by omega] at hw
      refine ⟨(ws.getD (0 + k) "", v % 4), rfl, ⟨v0, by show v % 4 ≤ 20; omega⟩, ?_⟩
      show Option.map some (eTup _ [.val (.scr ns), .val (.lst (ws.map .str)), .val (.lst (nm.map .str)), .val (.lst (wo.map .str)), .val (.lst (dr.map .int)), .val (.int days), .val (.int (0 + (k : Int))), .no, .no, .no, .no, .no, .no, .no, .no, .no, .no, .no, .no, .no, .no, .no]) = _
      rw [ev_tup (ev_a2 (ev_ix rfl rfl hw) (ev_mod (ev_int (ev_ix rfl (ev_add rfl rfl) hv)) rfl (by omega))) (by simp)]
      rfl)
  have pel : pe.length = n5 := by
    have := congrArg List.length pe2
    simpa using this
  have crew0 : pe.map (·.1) ≠ [] := fun z => by
    have hz : (pe.map (·.1)).length = 0 := by rw [z]; rfl
    rw [List.length_map] at hz
    omega
  -- the crew
  have crew : eComp [19] (gName 19) (iSeq (eVar 7)) tYes (eIx (bVar 19) (eCon (.int 0))) [.val (.scr ns), .val (.lst (ws.map .str)), .val (.lst (nm.map .str)), .val (.lst (wo.map .str)), .val (.lst (dr.map .int)), .val (.int days), .no, .val (.lst (pe.map ePer)), .no, .no, .no, .no, .no, .no, .no, .no, .no, .no, .no, .no, .no, .no] = some (.lst ((pe.map (·.1)).map .str)) := by
    rw [List.map_map]
    refine comp_map (xs := pe) (enc := ePer) _ rfl (big_of (by omega)) fun x hx => ?_
    rfl
  -- the titles
  have ti : eSl (eVar 1) (oSome (eCon (.int 4))) (oSome (eBin .add (eCon (.int 5)) (eBin .mod (eBlt .int (aCons (eIx (bVar 4) (eCon (.int 6))) aNil)) (eCon (.int 2))))) [.val (.scr ns), .val (.lst (ws.map .str)), .val (.lst (nm.map .str)), .val (.lst (wo.map .str)), .val (.lst (dr.map .int)), .val (.int days), .no, .val (.lst (pe.map ePer)), .val (.lst ((pe.map (·.1)).map .str)), .no, .no, .no, .no, .no, .no, .no, .no, .no, .no, .no, .no, .no] = some (.lst (((List.range n6).map fun k => ws.getD (4 + k) "").map .str)) := by
    rw [ev_slI rfl rfl (ev_add rfl (ev_mod (ev_int (ev_ix rfl rfl h6)) rfl (by omega))), cut_map]
    congr 3
    unfold cutD sIx
    dsimp only
    rw [if_neg (show ¬ (4 : Int) < 0 by omega), if_neg (show ¬ 5 + p6 % 2 < 0 by omega), wlen, show min (4 : Int).toNat 8 = 4 by decide, show min (5 + p6 % 2).toNat 8 - 4 = n6 by omega]
    refine List.ext_getElem? fun j => ?_
    rw [List.getElem?_take, List.getElem?_drop, List.getElem?_map]
    by_cases c : j < n6
    · rw [if_pos c, List.getElem?_range c, List.getElem?_eq_getElem (by omega)]
      show _ = some (ws.getD (4 + j) "")
      rw [List.getD_eq_getElem?_getD, List.getElem?_eq_getElem (by omega)]
      rfl
    · rw [if_neg c, List.getElem?_eq_none (by rw [List.length_range]; omega)]
      rfl
  generalize htl : (List.range n6).map (fun k => ws.getD (4 + k) "") = tl at ti
  have tll : tl.length = n6 := by rw [← htl]; simp
  have tlne : tl ≠ [] := fun z => by rw [z] at tll; simp at tll; omega
  have tlnd : tl.Nodup := by rw [← htl]; exact nd_get W.nd (by omega)
  have tlok : ∀ x ∈ tl, NameOk x := fun x hx => by
    rw [← htl] at hx
    obtain ⟨k, hk, rfl⟩ := List.mem_map.mp hx
    have := List.mem_range.mp hk
    exact (W.ok _ (get_mem (by omega))).1
  -- the rotas
  obtain ⟨sc, sc1, sc2, sc3⟩ := comp_ex3 (vs := [6]) (g := gName 6) (t := tYes) (e := eCall s__law_rota (aCons (eCall s__law_cell (aCons (eVar 0) (aCons (eBin .add (eCon (.int 3)) (eVar 6)) aNil))) (aCons (eIx (bVar 9) (eVar 6)) (aCons (eVar 8) (aCons (eVar 5) aNil))))) (it := iRng rng1 (aCons (eBlt .len (aCons (bVar 9) aNil)) aNil))
    (ρ := [.val (.scr ns), .val (.lst (ws.map .str)), .val (.lst (nm.map .str)), .val (.lst (wo.map .str)), .val (.lst (dr.map .int)), .val (.int days), .no, .val (.lst (pe.map ePer)), .val (.lst ((pe.map (·.1)).map .str)), .val (.lst (tl.map .str)), .no, .no, .no, .no, .no, .no, .no, .no, .no, .no, .no, .no]) (xs := List.range tl.length) (enc := fun k : Nat => D.int (0 + (k : Int)))
    (fun x : Sch => NameOk x.nm ∧ SchK days (pe.map (·.1)) x) (·.nm) (fun k => tl.getD (0 + k) "") eSch
    (ev_rng1 (j := (tl.length : Nat)) (ev_blt1 (d := .lst (tl.map .str)) rfl (by show some (D.int ((tl.map D.str).length : Nat)) = _; rw [List.length_map])) (rng1_nat (b := tl.length) (by omega))) (by rw [List.length_range]; exact big_of (by omega)) (fun k hk => by
      have hk2 := List.mem_range.mp hk
      obtain ⟨v, hv⟩ := cell_eq (ns := ns) (k := 3 + (0 + (k : Int))) (by omega)
      have hw := ix_str (ws := tl) (i := 0 + (k : Int)) (by omega) (by omega)
      rw [show (0 + (k : Int)).toNat = 0 + k by omega] at hw
      obtain ⟨x, x1, x2, x3⟩ := rota_eq (c := v) (days := days) (nm := tl.getD (0 + k) "") crew0 (by omega) (by omega)
      refine ⟨x, x2, ⟨by rw [x2]; exact tlok _ (get_mem (by omega)), x3⟩, ?_⟩
      show Option.map some (eCall s__law_rota _ [.val (.scr ns), .val (.lst (ws.map .str)), .val (.lst (nm.map .str)), .val (.lst (wo.map .str)), .val (.lst (dr.map .int)), .val (.int days), .val (.int (0 + (k : Int))), .val (.lst (pe.map ePer)), .val (.lst ((pe.map (·.1)).map .str)), .val (.lst (tl.map .str)), .no, .no, .no, .no, .no, .no, .no, .no, .no, .no, .no, .no]) = _
      rw [ev_call4 (a := .int v) (c := .lst ((pe.map (·.1)).map .str)) (d := .int days) (ev_call2 (a := .scr ns) (b := .int (3 + (0 + (k : Int)))) rfl (ev_add rfl rfl) hv) (ev_ix rfl rfl hw) rfl rfl x1]
      rfl)
  rw [range_get] at sc2
  have scl : sc.length = n6 := by
    have := congrArg List.length sc2
    rw [List.length_map, tll] at this
    exact this
  -- the ladders
  obtain ⟨po, po1, po2, po3⟩ := comp_ex3 (vs := [6]) (g := gName 6) (t := tYes) (e := eCall s__law_ladder (aCons (eSl (eVar 11) (oSome (eBin .mul (eCon (.int 8)) (eVar 6))) (oSome (eBin .add (eBin .mul (eCon (.int 8)) (eVar 6)) (eCon (.int 8))))) (aCons (eIx (bVar 1) (eBin .add (eCon (.int 6)) (eVar 6))) (aCons (eVar 9) aNil)))) (it := iRng rng1 (aCons (eBin .add (eCon (.int 1)) (eBin .mod (eBlt .int (aCons (eIx (bVar 4) (eCon (.int 7))) aNil)) (eCon (.int 2)))) aNil))
    (ρ := [.val (.scr ns), .val (.lst (ws.map .str)), .val (.lst (nm.map .str)), .val (.lst (wo.map .str)), .val (.lst (dr.map .int)), .val (.int days), .no, .val (.lst (pe.map ePer)), .val (.lst ((pe.map (·.1)).map .str)), .val (.lst (tl.map .str)), .val (.lst (sc.map eSch)), .val (.lst (st.map .int)), .no, .no, .no, .no, .no, .no, .no, .no, .no, .no]) (xs := List.range n7) (enc := fun k : Nat => D.int (0 + (k : Int)))
    (fun x : Pol => NameOk x.nm ∧ PolK tl x) (·.nm) (fun k => ws.getD (6 + k) "") ePol
    (ev_rng1 (j := (n7 : Nat)) (by rw [hn7]; exact ev_add rfl (ev_mod (ev_int (ev_ix rfl rfl h7)) rfl (by omega))) (rng1_nat (b := n7) (by omega))) (by rw [List.length_range]; exact big_of (by omega)) (fun k hk => by
      have hk2 := List.mem_range.mp hk
      have hw := ix_str (ws := ws) (i := 6 + (0 + (k : Int))) (by omega) (by omega)
      rw [show (6 + (0 + (k : Int))).toNat = 6 + k by omega] at hw
      have hcut := cut_len (xs := st) (lo := 8 * (0 + (k : Int))) (hi := 8 * (0 + (k : Int)) + 8) (by omega) (by omega) (by omega)
      obtain ⟨x, x1, x2, x3⟩ := ladder_eq (dr := cutD st (some (8 * (0 + (k : Int)))) (some (8 * (0 + (k : Int)) + 8))) (nm := ws.getD (6 + k) "") (by omega) tlne
      rw [← cut_map] at x1
      refine ⟨x, x2, ⟨by rw [x2]; exact (W.ok _ (get_mem (by omega))).1, x3⟩, ?_⟩
      show Option.map some (eCall s__law_ladder _ [.val (.scr ns), .val (.lst (ws.map .str)), .val (.lst (nm.map .str)), .val (.lst (wo.map .str)), .val (.lst (dr.map .int)), .val (.int days), .val (.int (0 + (k : Int))), .val (.lst (pe.map ePer)), .val (.lst ((pe.map (·.1)).map .str)), .val (.lst (tl.map .str)), .val (.lst (sc.map eSch)), .val (.lst (st.map .int)), .no, .no, .no, .no, .no, .no, .no, .no, .no, .no]) = _
      rw [ev_call3 (c := .lst (tl.map .str)) (ev_slI rfl (ev_mul2 rfl rfl s8) (ev_add (ev_mul2 rfl rfl s8) rfl)) (ev_ix rfl (ev_add rfl rfl) hw) rfl x1]
      rfl)
  have pol : po.length = n7 := by
    have := congrArg List.length po2
    simpa using this
  have po0 : po.map (·.nm) ≠ [] := fun z => by
    have hz : (po.map (·.nm)).length = 0 := by rw [z]; rfl
    rw [List.length_map] at hz
    omega
  -- the shutters
  obtain ⟨wi, wi1, wi2, wi3⟩ := comp_ex3 (vs := [6]) (g := gName 6) (t := tYes) (e := eCall s__law_shutter (aCons (eSl (eVar 13) (oSome (eBin .mul (eCon (.int 6)) (eVar 6))) (oSome (eBin .add (eBin .mul (eCon (.int 6)) (eVar 6)) (eCon (.int 6))))) (aCons (eIx (bVar 1) (eVar 6)) (aCons (eVar 5) aNil)))) (it := iRng rng1 (aCons (eBin .mod (eBlt .int (aCons (eIx (bVar 4) (eCon (.int 8))) aNil)) (eCon (.int 3))) aNil))
    (ρ := [.val (.scr ns), .val (.lst (ws.map .str)), .val (.lst (nm.map .str)), .val (.lst (wo.map .str)), .val (.lst (dr.map .int)), .val (.int days), .no, .val (.lst (pe.map ePer)), .val (.lst ((pe.map (·.1)).map .str)), .val (.lst (tl.map .str)), .val (.lst (sc.map eSch)), .val (.lst (st.map .int)), .val (.lst (po.map ePol)), .val (.lst (ba.map .int)), .no, .no, .no, .no, .no, .no, .no, .no]) (xs := List.range n8) (enc := fun k : Nat => D.int (0 + (k : Int)))
    (fun x : Win => NameOk x.nm ∧ WinK days x) (·.nm) (fun k => ws.getD (0 + k) "") eWin
    (ev_rng1 (j := (n8 : Nat)) (by rw [hn8]; exact ev_mod (ev_int (ev_ix rfl rfl h8)) rfl (by omega)) (rng1_nat (b := n8) (by omega))) (by rw [List.length_range]; exact big_of (by omega)) (fun k hk => by
      have hk2 := List.mem_range.mp hk
      have hw := ix_str (ws := ws) (i := 0 + (k : Int)) (by omega) (by omega)
      rw [show (0 + (k : Int)).toNat = 0 + k by omega] at hw
      have hcut := cut_len (xs := ba) (lo := 6 * (0 + (k : Int))) (hi := 6 * (0 + (k : Int)) + 6) (by omega) (by omega) (by omega)
      obtain ⟨x, x1, x2, x3⟩ := shutter_eq (dr := cutD ba (some (6 * (0 + (k : Int)))) (some (6 * (0 + (k : Int)) + 6))) (nm := ws.getD (0 + k) "") (days := days) (by omega) (by omega)
      rw [← cut_map] at x1
      refine ⟨x, x2, ⟨by rw [x2]; exact (W.ok _ (get_mem (by omega))).1, x3⟩, ?_⟩
      show Option.map some (eCall s__law_shutter _ [.val (.scr ns), .val (.lst (ws.map .str)), .val (.lst (nm.map .str)), .val (.lst (wo.map .str)), .val (.lst (dr.map .int)), .val (.int days), .val (.int (0 + (k : Int))), .val (.lst (pe.map ePer)), .val (.lst ((pe.map (·.1)).map .str)), .val (.lst (tl.map .str)), .val (.lst (sc.map eSch)), .val (.lst (st.map .int)), .val (.lst (po.map ePol)), .val (.lst (ba.map .int)), .no, .no, .no, .no, .no, .no, .no, .no]) = _
      rw [ev_call3 (c := .int days) (ev_slI rfl (ev_mul2 rfl rfl s6) (ev_add (ev_mul2 rfl rfl s6) rfl)) (ev_ix rfl rfl hw) rfl x1]
      rfl)
  have wil : wi.length = n8 := by
    have := congrArg List.length wi2
    simpa using this
  -- the tree
  obtain ⟨ρ1, k1, ro, x6, x9, e1, rol, rok⟩ := for_inv (f := forTurn (gName 6) (sSeq (sAsg (gName 9) (eComp [20] (gName 20) (iSeq (eVar 14)) tYes (eIx (bVar 20) (eCon (.int 0)))))
    (sApp 15 (eCall s__law_route (aCons (eCall s__law_cell (aCons (eVar 0) (aCons (eBin .add (eCon (.int 7)) (eVar 6)) aNil))) (aCons (eVar 6) (aCons (eVar 2) (aCons (eVar 3) (aCons (eComp [21] (gName 21) (iSeq (eVar 12)) tYes (eIx (bVar 21) (eCon (.int 0)))) (aCons (eVar 9) aNil)))))))))) (enc := fun k : Nat => D.int (0 + (k : Int)))
    (fun pre ρ => ∃ (ro : List Rou) (x6 x9 : Slot), ρ = [.val (.scr ns), .val (.lst (ws.map .str)), .val (.lst (nm.map .str)), .val (.lst (wo.map .str)), .val (.lst (dr.map .int)), .val (.int days), x6, .val (.lst (pe.map ePer)), .val (.lst ((pe.map (·.1)).map .str)), x9, .val (.lst (sc.map eSch)), .val (.lst (st.map .int)), .val (.lst (po.map ePol)), .val (.lst (ba.map .int)), .val (.lst (wi.map eWin)), .own (ro.map eRou), .no, .no, .no, .no, .no, .no] ∧ ro.length = pre.length ∧
      ∀ (i : Nat) (r : Rou), ro[i]? = some r → RouK (po.map (·.nm)) (wi.map (·.nm)) (i : Int) r) (List.range n9)
    [.val (.scr ns), .val (.lst (ws.map .str)), .val (.lst (nm.map .str)), .val (.lst (wo.map .str)), .val (.lst (dr.map .int)), .val (.int days), .no, .val (.lst (pe.map ePer)), .val (.lst ((pe.map (·.1)).map .str)), .val (.lst (tl.map .str)), .val (.lst (sc.map eSch)), .val (.lst (st.map .int)), .val (.lst (po.map ePol)), .val (.lst (ba.map .int)), .val (.lst (wi.map eWin)), .own [], .no, .no, .no, .no, .no, .no] (by
      rintro pre k post ρ hk ⟨ro, x6, x9, rfl, g1, g2⟩
      obtain ⟨hk1, hk2⟩ := range_pre hk
      subst hk1
      obtain ⟨v, hv⟩ := cell_eq (ns := ns) (k := 7 + (0 + (pre.length : Int))) (by omega)
      obtain ⟨r, r1, r2⟩ := route_eq (c := v) (place := 0 + (pre.length : Int)) (ladders := po.map (·.nm)) (shutters := wi.map (·.nm)) N wl wv (by omega) (by omega) po0 (by rw [List.length_map]; omega)
      rw [turn_name]
      have z1 : sAsg (gName 9) (eComp [20] (gName 20) (iSeq (eVar 14)) tYes (eIx (bVar 20) (eCon (.int 0)))) [.val (.scr ns), .val (.lst (ws.map .str)), .val (.lst (nm.map .str)), .val (.lst (wo.map .str)), .val (.lst (dr.map .int)), .val (.int days), .val (.int (0 + (pre.length : Int))), .val (.lst (pe.map ePer)), .val (.lst ((pe.map (·.1)).map .str)), x9, .val (.lst (sc.map eSch)), .val (.lst (st.map .int)), .val (.lst (po.map ePol)), .val (.lst (ba.map .int)), .val (.lst (wi.map eWin)), .own (ro.map eRou), .no, .no, .no, .no, .no, .no] =
          some (.nx [.val (.scr ns), .val (.lst (ws.map .str)), .val (.lst (nm.map .str)), .val (.lst (wo.map .str)), .val (.lst (dr.map .int)), .val (.int days), .val (.int (0 + (pre.length : Int))), .val (.lst (pe.map ePer)), .val (.lst ((pe.map (·.1)).map .str)), .val (.lst ((wi.map (·.nm)).map .str)), .val (.lst (sc.map eSch)), .val (.lst (st.map .int)), .val (.lst (po.map ePol)), .val (.lst (ba.map .int)), .val (.lst (wi.map eWin)), .own (ro.map eRou), .no, .no, .no, .no, .no, .no]) := by
        refine ev_set (d := .lst ((wi.map (·.nm)).map .str)) ?_ rfl
        refine Eq.trans (comp_map (xs := wi) (enc := eWin) (fun x => D.str x.nm) rfl (big_of (by omega)) fun x hx => ?_) ?_
        · rfl
        · exact congrArg (fun z => some (D.lst z)) (List.map_map (l := wi) (f := Win.nm) (g := D.str)).symm
      have z2 : eComp [21] (gName 21) (iSeq (eVar 12)) tYes (eIx (bVar 21) (eCon (.int 0))) [.val (.scr ns), .val (.lst (ws.map .str)), .val (.lst (nm.map .str)), .val (.lst (wo.map .str)), .val (.lst (dr.map .int)), .val (.int days), .val (.int (0 + (pre.length : Int))), .val (.lst (pe.map ePer)), .val (.lst ((pe.map (·.1)).map .str)), .val (.lst ((wi.map (·.nm)).map .str)), .val (.lst (sc.map eSch)), .val (.lst (st.map .int)), .val (.lst (po.map ePol)), .val (.lst (ba.map .int)), .val (.lst (wi.map eWin)), .own (ro.map eRou), .no, .no, .no, .no, .no, .no] = some (.lst ((po.map (·.nm)).map .str)) := by
        refine Eq.trans (comp_map (xs := po) (enc := ePol) (fun x => D.str x.nm) rfl (big_of (by omega)) fun x hx => ?_) ?_
        · rfl
        · exact congrArg (fun z => some (D.lst z)) (List.map_map (l := po) (f := Pol.nm) (g := D.str)).symm
      refine ⟨[.val (.scr ns), .val (.lst (ws.map .str)), .val (.lst (nm.map .str)), .val (.lst (wo.map .str)), .val (.lst (dr.map .int)), .val (.int days), .val (.int (0 + (pre.length : Int))), .val (.lst (pe.map ePer)), .val (.lst ((pe.map (·.1)).map .str)), .val (.lst ((wi.map (·.nm)).map .str)), .val (.lst (sc.map eSch)), .val (.lst (st.map .int)), .val (.lst (po.map ePol)), .val (.lst (ba.map .int)), .val (.lst (wi.map eWin)), .own ((ro ++ [r]).map eRou), .no, .no, .no, .no, .no, .no], ev_seq z1 ?_, ro ++ [r], _, _, rfl, by simp [g1], fun i x hx => ?_⟩
      · rw [List.map_append]
        exact ev_app (ds := ro.map eRou) (ev_callN (ev_cons (d := .int v) (ev_call2 (a := .scr ns) (b := .int (7 + (0 + (pre.length : Int)))) rfl (ev_add rfl rfl) hv) (ev_cons (d := .int (0 + (pre.length : Int))) rfl (ev_cons (d := .lst (nm.map .str)) rfl (ev_a3 (a := .lst (wo.map .str)) (c := .lst ((wi.map (·.nm)).map .str)) rfl z2 rfl)))) r1) rfl (by rw [List.length_map]; omega)
      · by_cases q : i < ro.length
        · rw [List.getElem?_append_left q] at hx
          exact g2 i x hx
        · rw [List.getElem?_append_right (by omega)] at hx
          have hi : i - ro.length = 0 := by
            refine Decidable.byContradiction fun z => ?_
            rw [List.getElem?_eq_none (by simp; omega)] at hx
            cases hx
          rw [hi] at hx
          cases hx
          rw [show (i : Int) = 0 + (pre.length : Int) by omega]
          exact r2) ⟨[], .no, _, rfl, rfl, fun i r h => by simp at h⟩
  rw [List.length_range] at rol
  obtain ⟨w, hw⟩ : ∃ w : Wor, w = ⟨days, pe, sc, po, wi, ro, ho, 1 + p10 % 3, p11 % 4, p12 % 3⟩ := ⟨_, rfl⟩
  have V : WorV w := by
    subst hw
    refine ⟨by show 2 ≤ days; omega, by show days ≤ 24; omega, by show pe.length ≤ 4; omega, ?_, fun x hx => ?_, by show sc.length ≤ 2; omega, ?_, fun x hx => sc3 x hx, by show po.length ≤ 2; omega, ?_, fun x hx => ⟨(po3 x hx).1, ?_⟩, by show wi.length ≤ 2; omega, ?_, fun x hx => wi3 x hx,
      by show 1 ≤ ro.length; omega, by show ro.length ≤ 4; omega, rok, hol, hok, by show 1 ≤ 1 + p10 % 3; omega, by show 1 + p10 % 3 ≤ 3; omega, a11, by show p11 % 4 ≤ 3; omega, a12, by show p12 % 3 ≤ 2; omega⟩
    · show (pe.map (·.1)).Nodup
      rw [pe2]
      exact nd_get W.nd (by omega)
    · refine ⟨?_, pe3 x hx⟩
      have hm : x.1 ∈ pe.map (·.1) := List.mem_map_of_mem hx
      rw [pe2] at hm
      obtain ⟨k, hk, e⟩ := List.mem_map.mp hm
      have := List.mem_range.mp hk
      rw [← e]
      exact (W.ok _ (get_mem (by omega))).1
    · show (sc.map (·.nm)).Nodup
      rw [sc2]
      exact tlnd
    · show (po.map (·.nm)).Nodup
      rw [po2]
      exact nd_get W.nd (by omega)
    · show PolK (sc.map (·.nm)) x
      rw [sc2]
      exact (po3 x hx).2
    · show (wi.map (·.nm)).Nodup
      rw [wi2]
      exact nd_get W.nd (by omega)
  have hset := setup_T V (nums := [.int w.re, .int w.pz, .int w.dn, .int 5]) rfl
  rw [hw] at hset
  refine ⟨w, nm, wo, ?_, V, N, wl, wv⟩
  have hfin : b__law_world_0 (entry 22 [.scr ns]) = some (.nx [.val (.scr ns), .val (.lst (ws.map .str)), .val (.lst (nm.map .str)), .val (.lst (wo.map .str)), .val (.lst (dr.map .int)), .val (.int days), x6, .val (.lst (pe.map ePer)), .val (.lst ((pe.map (·.1)).map .str)), x9, .val (.lst (sc.map eSch)), .val (.lst (st.map .int)), .val (.lst (po.map ePol)), .val (.lst (ba.map .int)), .val (.lst (wi.map eWin)), .val (.lst (ro.map eRou)), .val (.lst (ho.map eHol)), .val (.lst [.int (1 + p10 % 3), .int (p11 % 4), .int (p12 % 3), .int 5]), .val (eWor w), .no, .no, .no]) := by
    refine ev_seq (ρ1 := [.val (.scr ns), .val (.lst (ws.map .str)), .no, .no, .no, .no, .no, .no, .no, .no, .no, .no, .no, .no, .no, .no, .no, .no, .no, .no, .no, .no]) (ev_set (ev_call2 (a := .int c0) (b := .int 8) (ev_call2 (a := .scr ns) (b := .int 0) rfl rfl hc0) rfl hws) rfl) ?_
    refine ev_seq (ρ1 := [.val (.scr ns), .val (.lst (ws.map .str)), .val (.lst (nm.map .str)), .no, .no, .no, .no, .no, .no, .no, .no, .no, .no, .no, .no, .no, .no, .no, .no, .no, .no, .no]) (ev_set (ev_call2 (a := .int c1) (b := .int 3) (ev_call2 (a := .scr ns) (b := .int 1) rfl rfl hc1) rfl hnm) rfl) ?_
    refine ev_seq (ρ1 := [.val (.scr ns), .val (.lst (ws.map .str)), .val (.lst (nm.map .str)), .val (.lst (wo.map .str)), .no, .no, .no, .no, .no, .no, .no, .no, .no, .no, .no, .no, .no, .no, .no, .no, .no, .no]) (ev_set (ev_call2 (a := .int c1) (b := .int 3) (ev_call2 (a := .scr ns) (b := .int 1) rfl rfl hc1) rfl hwo) rfl) ?_
    refine ev_seq (ρ1 := [.val (.scr ns), .val (.lst (ws.map .str)), .val (.lst (nm.map .str)), .val (.lst (wo.map .str)), .val (.lst (dr.map .int)), .no, .no, .no, .no, .no, .no, .no, .no, .no, .no, .no, .no, .no, .no, .no, .no, .no]) (ev_set (ev_call2 (a := .int c2) (b := .int 16) (ev_call2 (a := .scr ns) (b := .int 2) rfl rfl hc2) rfl hdr) rfl) ?_
    refine ev_seq (ρ1 := [.val (.scr ns), .val (.lst (ws.map .str)), .val (.lst (nm.map .str)), .val (.lst (wo.map .str)), .val (.lst (dr.map .int)), .val (.int days), .no, .no, .no, .no, .no, .no, .no, .no, .no, .no, .no, .no, .no, .no, .no, .no]) (ev_set (d := .int days) (by rw [hdays]; exact ev_add rfl (ev_mod (ev_int (ev_ix rfl rfl h0)) rfl (by omega))) rfl) ?_
    refine ev_seq (ρ1 := [.val (.scr ns), .val (.lst (ws.map .str)), .val (.lst (nm.map .str)), .val (.lst (wo.map .str)), .val (.lst (dr.map .int)), .val (.int days), .no, .val (.lst (pe.map ePer)), .no, .no, .no, .no, .no, .no, .no, .no, .no, .no, .no, .no, .no, .no]) (ev_set pe1 rfl) ?_
    refine ev_seq (ρ1 := [.val (.scr ns), .val (.lst (ws.map .str)), .val (.lst (nm.map .str)), .val (.lst (wo.map .str)), .val (.lst (dr.map .int)), .val (.int days), .no, .val (.lst (pe.map ePer)), .val (.lst ((pe.map (·.1)).map .str)), .no, .no, .no, .no, .no, .no, .no, .no, .no, .no, .no, .no, .no]) (ev_set crew rfl) ?_
    refine ev_seq (ρ1 := [.val (.scr ns), .val (.lst (ws.map .str)), .val (.lst (nm.map .str)), .val (.lst (wo.map .str)), .val (.lst (dr.map .int)), .val (.int days), .no, .val (.lst (pe.map ePer)), .val (.lst ((pe.map (·.1)).map .str)), .val (.lst (tl.map .str)), .no, .no, .no, .no, .no, .no, .no, .no, .no, .no, .no, .no]) (ev_set ti rfl) ?_
    refine ev_seq (ρ1 := [.val (.scr ns), .val (.lst (ws.map .str)), .val (.lst (nm.map .str)), .val (.lst (wo.map .str)), .val (.lst (dr.map .int)), .val (.int days), .no, .val (.lst (pe.map ePer)), .val (.lst ((pe.map (·.1)).map .str)), .val (.lst (tl.map .str)), .val (.lst (sc.map eSch)), .no, .no, .no, .no, .no, .no, .no, .no, .no, .no, .no]) (ev_set sc1 rfl) ?_
    refine ev_seq (ρ1 := [.val (.scr ns), .val (.lst (ws.map .str)), .val (.lst (nm.map .str)), .val (.lst (wo.map .str)), .val (.lst (dr.map .int)), .val (.int days), .no, .val (.lst (pe.map ePer)), .val (.lst ((pe.map (·.1)).map .str)), .val (.lst (tl.map .str)), .val (.lst (sc.map eSch)), .val (.lst (st.map .int)), .no, .no, .no, .no, .no, .no, .no, .no, .no, .no]) (ev_set (ev_call2 (a := .int c5) (b := .int 16) (ev_call2 (a := .scr ns) (b := .int 5) rfl rfl hc5) rfl hst) rfl) ?_
    refine ev_seq (ρ1 := [.val (.scr ns), .val (.lst (ws.map .str)), .val (.lst (nm.map .str)), .val (.lst (wo.map .str)), .val (.lst (dr.map .int)), .val (.int days), .no, .val (.lst (pe.map ePer)), .val (.lst ((pe.map (·.1)).map .str)), .val (.lst (tl.map .str)), .val (.lst (sc.map eSch)), .val (.lst (st.map .int)), .val (.lst (po.map ePol)), .no, .no, .no, .no, .no, .no, .no, .no, .no]) (ev_set po1 rfl) ?_
    refine ev_seq (ρ1 := [.val (.scr ns), .val (.lst (ws.map .str)), .val (.lst (nm.map .str)), .val (.lst (wo.map .str)), .val (.lst (dr.map .int)), .val (.int days), .no, .val (.lst (pe.map ePer)), .val (.lst ((pe.map (·.1)).map .str)), .val (.lst (tl.map .str)), .val (.lst (sc.map eSch)), .val (.lst (st.map .int)), .val (.lst (po.map ePol)), .val (.lst (ba.map .int)), .no, .no, .no, .no, .no, .no, .no, .no]) (ev_set (ev_call2 (a := .int c6) (b := .int 12) (ev_call2 (a := .scr ns) (b := .int 6) rfl rfl hc6) rfl hba) rfl) ?_
    refine ev_seq (ρ1 := [.val (.scr ns), .val (.lst (ws.map .str)), .val (.lst (nm.map .str)), .val (.lst (wo.map .str)), .val (.lst (dr.map .int)), .val (.int days), .no, .val (.lst (pe.map ePer)), .val (.lst ((pe.map (·.1)).map .str)), .val (.lst (tl.map .str)), .val (.lst (sc.map eSch)), .val (.lst (st.map .int)), .val (.lst (po.map ePol)), .val (.lst (ba.map .int)), .val (.lst (wi.map eWin)), .no, .no, .no, .no, .no, .no, .no]) (ev_set wi1 rfl) ?_
    refine ev_seq (ρ1 := [.val (.scr ns), .val (.lst (ws.map .str)), .val (.lst (nm.map .str)), .val (.lst (wo.map .str)), .val (.lst (dr.map .int)), .val (.int days), .no, .val (.lst (pe.map ePer)), .val (.lst ((pe.map (·.1)).map .str)), .val (.lst (tl.map .str)), .val (.lst (sc.map eSch)), .val (.lst (st.map .int)), .val (.lst (po.map ePol)), .val (.lst (ba.map .int)), .val (.lst (wi.map eWin)), .own [], .no, .no, .no, .no, .no, .no]) rfl ?_
    refine ev_seq (ev_for (ev_rng1 (j := (n9 : Nat)) (by rw [hn9]; exact ev_add rfl (ev_mod (ev_int (ev_ix rfl rfl h9)) rfl (by omega))) (rng1_nat (b := n9) (by omega))) k1) ?_
    rw [e1]
    refine ev_seq (ρ1 := [.val (.scr ns), .val (.lst (ws.map .str)), .val (.lst (nm.map .str)), .val (.lst (wo.map .str)), .val (.lst (dr.map .int)), .val (.int days), x6, .val (.lst (pe.map ePer)), .val (.lst ((pe.map (·.1)).map .str)), x9, .val (.lst (sc.map eSch)), .val (.lst (st.map .int)), .val (.lst (po.map ePol)), .val (.lst (ba.map .int)), .val (.lst (wi.map eWin)), .own (ro.map eRou), .val (.lst (ho.map eHol)), .no, .no, .no, .no, .no]) (ev_set (ev_call3 (a := .int c11) (b := .lst (nm.map .str)) (c := .lst (wo.map .str)) (ev_call2 (a := .scr ns) (b := .int 11) rfl rfl hc11) rfl rfl hho) rfl) ?_
    refine ev_seq (ρ1 := [.val (.scr ns), .val (.lst (ws.map .str)), .val (.lst (nm.map .str)), .val (.lst (wo.map .str)), .val (.lst (dr.map .int)), .val (.int days), x6, .val (.lst (pe.map ePer)), .val (.lst ((pe.map (·.1)).map .str)), x9, .val (.lst (sc.map eSch)), .val (.lst (st.map .int)), .val (.lst (po.map ePol)), .val (.lst (ba.map .int)), .val (.lst (wi.map eWin)), .own (ro.map eRou), .val (.lst (ho.map eHol)), .val (.lst [.int (1 + p10 % 3), .int (p11 % 4), .int (p12 % 3), .int 5]), .no, .no, .no, .no]) (ev_set (ev_lst4 (ev_add rfl (ev_mod (ev_int (ev_ix rfl rfl h10)) rfl (by omega))) (ev_mod (ev_int (ev_ix rfl rfl h11)) rfl (by omega)) (ev_mod (ev_int (ev_ix rfl rfl h12)) rfl (by omega)) rfl) rfl) ?_
    rw [hw]
    exact ev_set (ρ := [.val (.scr ns), .val (.lst (ws.map .str)), .val (.lst (nm.map .str)), .val (.lst (wo.map .str)), .val (.lst (dr.map .int)), .val (.int days), x6, .val (.lst (pe.map ePer)), .val (.lst ((pe.map (·.1)).map .str)), x9, .val (.lst (sc.map eSch)), .val (.lst (st.map .int)), .val (.lst (po.map ePol)), .val (.lst (ba.map .int)), .val (.lst (wi.map eWin)), .val (.lst (ro.map eRou)), .val (.lst (ho.map eHol)), .val (.lst [.int (1 + p10 % 3), .int (p11 % 4), .int (p12 % 3), .int 5]), .no, .no, .no, .no])
      (ev_callN (ev_cons (d := .int days) rfl (ev_cons (d := .lst (pe.map ePer)) rfl (ev_cons (d := .lst (sc.map eSch)) rfl (ev_cons (d := .lst (po.map ePol)) rfl (ev_cons (d := .lst (wi.map eWin)) rfl (ev_cons (d := .lst (ro.map eRou)) rfl (ev_a3 (a := .lst (ho.map eHol)) (b := .lst []) (c := .lst [.int (1 + p10 % 3), .int (p11 % 4), .int (p12 % 3), .int 5]) rfl rfl rfl))))))) hset) rfl
  unfold s__law_world
  rw [if_pos (show ([D.scr ns] : List D).length = 1 from rfl), hfin]
  rfl
end WF
end
/-! text M23 -/
section
set_option Elab.async false
set_option linter.all false
set_option maxHeartbeats 1000000
/-! the richer world, the labels; the law's text gives True. -/
namespace WF
open PySem
theorem ev_rng05 {e1 e2 e3 : SE} {ρ : Env} (h1 : e1 ρ = some (.int 0)) (h2 : e2 ρ = some (.int 5)) (h3 : e3 ρ = some (.int 2)) :
    iRng rng3 (aCons e1 (aCons e2 (aCons e3 aNil))) ρ = some ((List.range 3).map fun k : Nat => D.int (0 + (k : Int) * 2)) := by
  show (aCons e1 (aCons e2 (aCons e3 aNil)) ρ).bind _ = _
  rw [ev_a3 h1 h2 h3]
  show (if (small62 0 && small62 5) = true then (if (2 : Int) = -1 then some (byStep 0 (-1) (0 - 5 : Int).toNat) else if (2 : Int) = 2 ∧ (0 : Int) = 0 ∧ (5 : Int) = 5 then some (byStep 0 2 3) else none) else none) = _
  rw [small62_of (by omega) (by omega), small62_of (by omega) (by omega)]
  show some (byStep 0 2 3) = _
  rfl
theorem turn_of {g : SG} {t : ST} {e : SE} {vs : List Nat} {ρ ρ' : Env} {d r : D} (hg : g d (wipeE ρ vs) = some ρ') (ht : t ρ' = some true) (he : e ρ' = some r) : compTurn g t e vs ρ d = some (some r) := by
  unfold compTurn
  rw [hg]
  show (t ρ').bind _ = _
  rw [ht]
  show (e ρ').map some = _
  rw [he]
  rfl
theorem labs_T {dr : List Int} (hl : dr.length = 6) {nm wo : List Str} (hn : nm ≠ []) (hw : wo ≠ []) : ∃ ps, r__law_labels [.lst (dr.map .int), .lst (nm.map .str), .lst (wo.map .str)] ps := by
  obtain ⟨ρ1, k1, ps, us, x5, x6, e1, _, _⟩ := for_inv (f := forTurn (gName 5) (sSeq (sAsg (gName 6) (eIx (bVar 1) (eBin .mod (eBlt .int (aCons (eIx (bVar 0) (eVar 5)) aNil)) (eBlt .len (aCons (bVar 1) aNil)))))
    (sIf (tCmp .notIn (eVar 6) (bVar 4))
      (sSeq (sApp 4 (eVar 6))
      (sApp 3 (eTup (aCons (eVar 6) (aCons (eIx (bVar 2) (eBin .mod (eBlt .int (aCons (eIx (bVar 0) (eBin .add (eVar 5) (eCon (.int 1)))) aNil)) (eBlt .len (aCons (bVar 2) aNil)))) aNil)))))
      sNext))) (enc := fun k : Nat => D.int (0 + (k : Int) * 2))
    (fun pre ρ => ∃ (ps : List (Str × Str)) (us : List Str) (x5 x6 : Slot), ρ = [.val (.lst (dr.map .int)), .val (.lst (nm.map .str)), .val (.lst (wo.map .str)), .own (ps.map pairD), .own (us.map .str), x5, x6] ∧ ps.length ≤ pre.length ∧ us.length ≤ pre.length) (List.range 3)
    [.val (.lst (dr.map .int)), .val (.lst (nm.map .str)), .val (.lst (wo.map .str)), .own [], .own [], .no, .no] (by
      rintro pre k post ρ hk ⟨ps, us, x5, x6, rfl, g1, g2⟩
      obtain ⟨hk1, hk2⟩ := range_pre hk
      subst hk1
      obtain ⟨v, hv⟩ := ix_int (xs := dr) (i := 0 + (pre.length : Int) * 2) (by omega) (by omega)
      obtain ⟨v2, hv2⟩ := ix_int (xs := dr) (i := 0 + (pre.length : Int) * 2 + 1) (by omega) (by omega)
      rw [turn_name]
      obtain ⟨n, n1, n2⟩ := pick (enc := D.str) (eb := bVar 1) (e := eIx (bVar 0) (eVar 5)) (ρ := [.val (.lst (dr.map .int)), .val (.lst (nm.map .str)), .val (.lst (wo.map .str)), .own (ps.map pairD), .own (us.map .str), .val (.int (0 + (pre.length : Int) * 2)), x6]) hn rfl (ev_ix rfl rfl hv)
      have z1 := ev_set (i := 6) n2 (ρ' := [.val (.lst (dr.map .int)), .val (.lst (nm.map .str)), .val (.lst (wo.map .str)), .own (ps.map pairD), .own (us.map .str), .val (.int (0 + (pre.length : Int) * 2)), .val (.str n)]) rfl
      have t : tCmp .notIn (eVar 6) (bVar 4) [.val (.lst (dr.map .int)), .val (.lst (nm.map .str)), .val (.lst (wo.map .str)), .own (ps.map pairD), .own (us.map .str), .val (.int (0 + (pre.length : Int) * 2)), .val (.str n)] = some (!decide (n ∈ us)) := by
        refine ev_cmp (a := .str n) (b := .lst (us.map .str)) rfl rfl ?_
        show ((strsOf (us.map D.str)).map (fun l => decide (n ∈ l))).map (!·) = _
        have h2 : strsOf (us.map D.str) = some us := by
          have := strsOf_map (xs := us) (g := fun x => x)
          rw [List.map_id'] at this
          exact this
        rw [h2]
        rfl
      by_cases q : n ∈ us
      · rw [decide_eq_true q] at t
        refine ⟨[.val (.lst (dr.map .int)), .val (.lst (nm.map .str)), .val (.lst (wo.map .str)), .own (ps.map pairD), .own (us.map .str), .val (.int (0 + (pre.length : Int) * 2)), .val (.str n)], ev_seq z1 (ev_ifF (b := sNext) t rfl), ps, us, _, _, rfl, ?_, ?_⟩
        · rw [List.length_append]; omega
        · rw [List.length_append]; omega
      · rw [decide_eq_false q] at t
        obtain ⟨m, m1, m2⟩ := pick (enc := D.str) (eb := bVar 2) (e := eIx (bVar 0) (eBin .add (eVar 5) (eCon (.int 1)))) (ρ := [.val (.lst (dr.map .int)), .val (.lst (nm.map .str)), .val (.lst (wo.map .str)), .own (ps.map pairD), .own ((us ++ [n]).map .str), .val (.int (0 + (pre.length : Int) * 2)), .val (.str n)]) hw rfl (ev_ix rfl (ev_add rfl rfl) hv2)
        refine ⟨[.val (.lst (dr.map .int)), .val (.lst (nm.map .str)), .val (.lst (wo.map .str)), .own ((ps ++ [(n, m)]).map pairD), .own ((us ++ [n]).map .str), .val (.int (0 + (pre.length : Int) * 2)), .val (.str n)], ev_seq z1 (ev_ifT t (ev_seq (ρ1 := [.val (.lst (dr.map .int)), .val (.lst (nm.map .str)), .val (.lst (wo.map .str)), .own (ps.map pairD), .own ((us ++ [n]).map .str), .val (.int (0 + (pre.length : Int) * 2)), .val (.str n)]) ?_ ?_)), ps ++ [(n, m)], us ++ [n], _, _, rfl, ?_, ?_⟩
        · rw [List.map_append]
          exact ev_app (ds := us.map .str) (d := .str n) rfl rfl (by rw [List.length_map]; omega)
        · rw [List.map_append (l₁ := ps)]
          exact ev_app (ds := ps.map pairD) (d := pairD (n, m)) (ev_tup (ds := [.str n, .str m]) (ev_a2 rfl m2) (by show 2 ≤ 1000; omega)) rfl (by rw [List.length_map]; omega)
        · rw [List.length_append, List.length_append, List.length_singleton, List.length_singleton]; omega
        · rw [List.length_append, List.length_append, List.length_singleton, List.length_singleton]; omega) ⟨[], [], .no, .no, rfl, Nat.le_refl _, Nat.le_refl _⟩
  refine ⟨ps, ρ1, rfl, ?_, by rw [e1]; rfl⟩
  have hlen : bltD .len [.lst (dr.map .int)] = some (.int 6) := by
    show some (D.int ((dr.map D.int).length : Nat)) = _
    rw [List.length_map, hl]
    rfl
  refine ev_seq (ρ1 := [.val (.lst (dr.map .int)), .val (.lst (nm.map .str)), .val (.lst (wo.map .str)), .own [], .no, .no, .no]) rfl
    (ev_seq (ρ1 := [.val (.lst (dr.map .int)), .val (.lst (nm.map .str)), .val (.lst (wo.map .str)), .own [], .own [], .no, .no]) rfl
    (ev_for (ev_rng05 rfl (ev_sub (a := 6) (b := 1) (ev_blt1 (d := .lst (dr.map .int)) rfl hlen) rfl) rfl) k1))
theorem rich_T (ns : List Int) : ∃ (w : Wor) (nm wo : List Str), s__law_rich [.scr ns] = some (.lst [eWor w, .lst (nm.map .str), .lst (wo.map .str)]) ∧ WorV w ∧ WordsOk nm 3 ∧ wo.length = 3 ∧ ∀ x ∈ wo, ValOk x := by
  obtain ⟨w, nm, wo, h1, V, N, wl, wv⟩ := world_T ns
  obtain ⟨c, hc⟩ := cell_eq (ns := ns) (k := 13) (by omega)
  have i0 : b__law_rich_0 [.val (.scr ns), .own [eWor w, .lst (nm.map .str), .lst (wo.map .str)], .no, .no, .no, .no] = some (.nx [.val (.scr ns), .own [eWor w, .lst (nm.map .str), .lst (wo.map .str)], .val (eWor w), .no, .no, .no]) :=
    ev_set (ev_ix (a := .lst [eWor w, .lst (nm.map .str), .lst (wo.map .str)]) (b := .int 0) rfl rfl rfl) rfl
  have t : t__law_rich [.val (.scr ns), .own [eWor w, .lst (nm.map .str), .lst (wo.map .str)], .val (eWor w), .no, .no, .no] = some (decide (c % 2 = 0)) :=
    ev_cmp (a := .int (c % 2)) (b := .int 0) (ev_mod (ev_int (ev_call2 (a := .scr ns) (b := .int 13) rfl rfl hc)) rfl (by omega)) rfl rfl
  by_cases q : c % 2 = 0
  · rw [decide_eq_true q] at t
    obtain ⟨w', hw⟩ : ∃ w' : Wor, w' = { w with pe := w.pe.map (fun p => (p.1, w.dn + 1)), ho := [] } := ⟨_, rfl⟩
    have d0 := V.dn0
    have d1 := V.dn1
    have pl := V.pl
    have hpe : w'.pe.map (·.1) = w.pe.map (·.1) := by
      rw [hw]
      show (w.pe.map fun p => (p.1, w.dn + 1)).map (·.1) = _
      rw [List.map_map]
      rfl
    have hpe2 : w'.pe = w.pe.map (fun p => (p.1, w.dn + 1)) := by rw [hw]
    have V' : WorV w' := by
      have hn := V.pn
      have hk := V.sk
      rw [← hpe] at hn hk
      rw [hw] at hn hk ⊢
      exact ⟨V.w0, V.w1, by show (w.pe.map _).length ≤ 4; rw [List.length_map]; exact pl, hn, fun x hx => by
        obtain ⟨p, p1, p2⟩ := List.mem_map.mp (show x ∈ w.pe.map (fun p => (p.1, w.dn + 1)) from hx)
        subst p2
        exact ⟨(V.pk p p1).1, by show 0 ≤ w.dn + 1; omega, by show w.dn + 1 ≤ 20; omega⟩, V.sl, V.sn, hk, V.ol, V.on, V.ok, V.wl, V.wn, V.wk', V.rl0, V.rl, V.rk, by show (0 : Nat) ≤ 2; omega, fun h hh => (by cases hh), V.re0, V.re1, V.pz0, V.pz1, V.dn0, V.dn1⟩
    have hset := setup_T V' (nums := [.int w.re, .int w.pz, .int w.dn, .int 5]) (by rw [hw])
    rw [show w'.wk = w.wk by rw [hw], show w'.sc = w.sc by rw [hw], show w'.po = w.po by rw [hw], show w'.wi = w.wi by rw [hw], show w'.ro = w.ro by rw [hw], show w'.ho = [] by rw [hw]] at hset
    refine ⟨w', nm, wo, ?_, V', N, wl, wv⟩
    have z1 : sAsg (gName 3) (eComp [5] (gName 5) (iSeq (eFld (eVar 2) "people")) tYes (eTup (aCons (eIx (bVar 5) (eCon (.int 0))) (aCons (eBin .add (eFld (eVar 2) "down") (eCon (.int 1))) aNil)))) [.val (.scr ns), .own [eWor w, .lst (nm.map .str), .lst (wo.map .str)], .val (eWor w), .no, .no, .no] =
        some (.nx [.val (.scr ns), .own [eWor w, .lst (nm.map .str), .lst (wo.map .str)], .val (eWor w), .val (.lst (w'.pe.map ePer)), .no, .no]) := by
      refine ev_set (d := .lst (w'.pe.map ePer)) ?_ rfl
      have hit : iSeq (eFld (eVar 2) "people") [.val (.scr ns), .own [eWor w, .lst (nm.map .str), .lst (wo.map .str)], .val (eWor w), .no, .no, .no] = some (w.pe.map ePer) := by
        show (eFld (eVar 2) "people" _).bind seqD = _
        rw [ev_fld rfl (f_people w)]
        rfl
      refine Eq.trans (comp_map (xs := w.pe) (enc := ePer) (fun p => ePer (p.1, w.dn + 1)) hit (big_of (by omega)) fun x hx => ?_) ?_
      · exact turn_of (ρ' := [.val (.scr ns), .own [eWor w, .lst (nm.map .str), .lst (wo.map .str)], .val (eWor w), .no, .no, .val (ePer x)]) rfl rfl (ev_tup (ds := [.str x.1, .int (w.dn + 1)]) (ev_a2 rfl (ev_add (ev_fld rfl (f_dwn w)) rfl)) (by show 2 ≤ 1000; omega))
      · rw [hpe2, List.map_map]
        rfl
    have i1 : b__law_rich_1 [.val (.scr ns), .own [eWor w, .lst (nm.map .str), .lst (wo.map .str)], .val (eWor w), .no, .no, .no] =
        some (.nx [.val (.scr ns), .own [eWor w, .lst (nm.map .str), .lst (wo.map .str)], .val (eWor w), .val (.lst (w'.pe.map ePer)), .val (.lst [.int w.re, .int w.pz, .int w.dn, .int 5]), .no]) :=
      ev_seq z1 (ev_set rfl rfl)
    have i2 : e__law_rich [.val (.scr ns), .own [eWor w, .lst (nm.map .str), .lst (wo.map .str)], .val (eWor w), .val (.lst (w'.pe.map ePer)), .val (.lst [.int w.re, .int w.pz, .int w.dn, .int 5]), .no] = some (eWor w') := by
      exact ev_callN (ev_cons (d := .int w.wk) (ev_fld rfl (f_week w)) (ev_cons (d := .lst (w'.pe.map ePer)) rfl (ev_cons (d := .lst (w.sc.map eSch)) (ev_fld rfl (f_sch w)) (ev_cons (d := .lst (w.po.map ePol)) (ev_fld rfl (f_pol w)) (ev_cons (d := .lst (w.wi.map eWin)) (ev_fld rfl (f_win w)) (ev_cons (d := .lst (w.ro.map eRou)) (ev_fld rfl (f_rou w)) (ev_a3 (a := .lst []) (b := .lst []) (c := .lst [.int w.re, .int w.pz, .int w.dn, .int 5]) rfl rfl rfl))))))) hset
    have i3 : sPut0 1 e__law_rich [.val (.scr ns), .own [eWor w, .lst (nm.map .str), .lst (wo.map .str)], .val (eWor w), .val (.lst (w'.pe.map ePer)), .val (.lst [.int w.re, .int w.pz, .int w.dn, .int 5]), .no] =
        some (.nx [.val (.scr ns), .own [eWor w', .lst (nm.map .str), .lst (wo.map .str)], .val (eWor w), .val (.lst (w'.pe.map ePer)), .val (.lst [.int w.re, .int w.pz, .int w.dn, .int 5]), .no]) := by
      show (e__law_rich _).bind _ = _
      rw [i2]
      rfl
    unfold s__law_rich
    rw [if_pos (show ([D.scr ns] : List D).length = 1 from rfl), h1]
    show finD (b__law_rich_3 [.val (.scr ns), .own [eWor w, .lst (nm.map .str), .lst (wo.map .str)], .no, .no, .no, .no]) = _
    have e : b__law_rich_3 [.val (.scr ns), .own [eWor w, .lst (nm.map .str), .lst (wo.map .str)], .no, .no, .no, .no] = some (.rt (.lst [eWor w', .lst (nm.map .str), .lst (wo.map .str)])) :=
      ev_seq i0 (ev_seq (ev_ifT (b := sNext) t (ev_seq i1 i3)) rfl)
    rw [e]
    rfl
  · rw [decide_eq_false q] at t
    refine ⟨w, nm, wo, ?_, V, N, wl, wv⟩
    unfold s__law_rich
    rw [if_pos (show ([D.scr ns] : List D).length = 1 from rfl), h1]
    show finD (b__law_rich_3 [.val (.scr ns), .own [eWor w, .lst (nm.map .str), .lst (wo.map .str)], .no, .no, .no, .no]) = _
    have e : b__law_rich_3 [.val (.scr ns), .own [eWor w, .lst (nm.map .str), .lst (wo.map .str)], .no, .no, .no, .no] = some (.rt (.lst [eWor w, .lst (nm.map .str), .lst (wo.map .str)])) :=
      ev_seq i0 (ev_seq (ev_ifF (b := sNext) t rfl) rfl)
    rw [e]
    rfl
theorem law_true (ns : List Int) : LawOk ns := by
  obtain ⟨w, nm, wo, h1, V, N, wl, wv⟩ := rich_T ns
  obtain ⟨c, hc⟩ := cell_eq (ns := ns) (k := 12) (by omega)
  obtain ⟨dr, d1, d2, d3⟩ := draws_eq (c := c) (n := 8) (by omega)
  have hcut : cutD (dr.map D.int) none (some 6) = (dr.take 6).map .int := by
    rw [cut_map, cut_pre (by omega)]
    rfl
  obtain ⟨ps, hp⟩ := labs_T (dr := dr.take 6) (nm := nm) (wo := wo) (by rw [List.length_take]; omega) (fun z => by have := N.len; rw [z] at this; cases this) (fun z => by rw [z] at wl; cases wl)
  refine ⟨[eWor w, .lst (nm.map .str), .lst (wo.map .str)], [.val (.scr ns), .val (eWor w), .val (.lst (nm.map .str)), .val (.lst (wo.map .str)), .no, .no, .no, .no, .no, .no, .no, .no, .no, .no, .no, .no, .no, .no],
    [.val (.scr ns), .val (eWor w), .val (.lst (nm.map .str)), .val (.lst (wo.map .str)), .val (.lst (dr.map .int)), .no, .no, .no, .no, .no, .no, .no, .no, .no, .no, .no, .no, .no], [.lst ((dr.take 6).map .int), .lst (nm.map .str), .lst (wo.map .str)], ps, h1, rfl, ?_, ?_, hp, fun qs => ?_⟩
  · exact ev_set (ev_call2 (a := .int c) (b := .int 8) (ev_call2 (a := .scr ns) (b := .int 12) rfl rfl hc) rfl d1) rfl
  · rw [← hcut]
    exact ev_a3 (ev_slP (ds := dr.map .int) (hi := 6) rfl rfl) rfl rfl
  · have l0 := V.rl0
    have l1 := V.rl
    exact law_rest V.b V.r (by omega) (by omega)
end WF
end
set_option Elab.async false
theorem PySem.Challenge.cw_watchfloor_k95_analysis_whole_sure_for_a_holds : PySem.Challenge.rw_watchfloor_k95_analysis_whole_sure_for_a.Holds := by
  exact end_of fun ns _ => WF.law_true ns
