import PyProof.Rows.All
import Wide.All
import OpenK.AllK
import Wide.FinOn
import HandS.ForMost
import HandS.Exc
import HandS.HeadHook1
import HandS.HeadHook4
import OpenK.KCell
import PySem.Challenge.RW_twocolourflips_k62_whole_tables_of_all_d
import KE.KOpsOwn
import HandS.ExcField
import KE.KExcInit
import KE.KSuper
import KE.KStateDown
import Lean
import HandS.Head0
import HandS.Head1
import HandS.Head2
import HandS.Star
import HandS.Property
import HandS.WordsExc
import HandS.TryMany
import PyProof.RulesMatch
import KE.DatumOrd
import KE.DatumMoreOrd
import HandS.OwnEq
import HandS.Style
import HandS.Deep
import HandS.Text
import PyProof.StrOps2
import PyProof.InstNe
import HandS.ExcInit
import KE.KExcSuper
import HandS.Finally
import HandS.HotCalls
import KE.KWithOwn
import HandS.IsInst
import HandS.Lambda
import HandS.HeadWalk
import HandS.Evl
import HandS.Walk
import HandS.Flow
import HandS.Conv
import HandS.Wide
import HandS.Small
import HandS.Ends
import HandS.More
import HandS.Defaults
import HandS.HeadEnd
set_option Elab.async false
set_option linter.all false
set_option maxRecDepth 100000
set_option maxHeartbeats 4000000
/-! HK: a Hook of my own: the part of the heap that the walk needs, found along the names, held by forcing; facts as Bools, defs by their statements. -/
namespace Tcf
open PySem PySem.Spec PyProof.Rows L2
/-! ### forcing -/
def fNat {α : Type} (n : Nat) (k : Nat → α) : α := match n with
  | 0 => k 0
  | m + 1 => k (m + 1)
theorem fNat_eq {α : Type} (n : Nat) (k : Nat → α) : fNat n k = k n := by cases n <;> rfl
def fAs {α : Type} : List Addr → (List Addr → α) → α
  | [], k => k []
  | a :: r, k => fNat a fun a => fAs r fun r => k (a :: r)
theorem fAs_eq {α : Type} : ∀ (l : List Addr) (k : List Addr → α), fAs l k = k l
  | [], _ => rfl
  | a :: r, k => by
    show fNat a (fun a => fAs r fun r => k (a :: r)) = _
    rw [fNat_eq, fAs_eq]
/-- the objects at these addresses -/
def fFr {α : Type} (g : Addr → Option Obj) : List Addr → (PySem.W.Frag → α) → α
  | [], k => k []
  | a :: r, k => match g a with
    | some ⟨c, d, dt, sl⟩ => fFr g r fun r => k ((a, ⟨c, d, dt, sl⟩) :: r)
    | none => fFr g r k
theorem fFr_eq {α : Type} (g : Addr → Option Obj) : ∀ (l : List Addr) (k : PySem.W.Frag → α), fFr g l k = k (He.frG g l)
  | [], _ => rfl
  | a :: r, k => by
    unfold fFr He.frG
    cases e : g a with
    | none =>
      rw [List.filterMap_cons, e]
      exact fFr_eq g r k
    | some o =>
      rw [List.filterMap_cons, e]
      exact fFr_eq g r fun r => k ((a, o) :: r)
/-! ### which addresses: along the module's names -/
def kids (o : Obj) : List Addr := match o.data with
  | .dict es _ => es.toList.flatMap fun e => He.refV e.val
  | .func fd => He.refV fd.code ++ fd.closure.map (·.2)
  | .cls cd => [cd.ns]
  | .fields vs => (match o.cls with
    | .type "property" => vs.toList.flatMap He.refV
    | _ => [])
  | _ => []
def kidsOf (g : Addr → Option Obj) (as : List Addr) : List Addr := as.flatMap fun a => match g a with
  | some o => kids o
  | none => []
/-- n levels below as, all of them -/
def lvls {α : Type} (g : Addr → Option Obj) : Nat → List Addr → (List Addr → α) → α
  | 0, as, k => k as
  | n + 1, as, k => fAs (kidsOf g as) fun bs => lvls g n bs fun r => k (as ++ r)
/-! ### what is looked at -/
/-- the getter of a property -/
def pgAd (K : PySem.W.Frag) (C f : Str) : Addr := match PySem.W.recIn K (He.ma K (He.ga K C) f) "property" with
  | some (.ref g :: _) => g
  | _ => 0
/-- where a def stands: a global, a method, a property's getter -/
inductive Wh where
  | glo (x : Str) | met (C m : Str) | prp (C f : Str)
def Wh.ad (K : PySem.W.Frag) : Wh → Addr
  | .glo x => He.ga K x
  | .met C m => He.ma K (He.ga K C) m
  | .prp C f => pgAd K C f
structure DX where
  at_ : Wh
  name : Str
  qual : Str
  st : Stmt
  /-- it has a cell: its closure is not looked at here -/
  cl : Bool := false
abbrev FnZ : Type := Option (Str × Str × Arguments × FuncBody × Scope × Addr × List (Str × Addr) × Addr)
def fnZ (c : Bool) (K : PySem.W.Frag) (a : Addr) : FnZ := match K.lookup a with
  | some ⟨_, _, .func fd, _⟩ => some (fd.name, fd.qualname, fd.params, fd.body, fd.scope, fd.globals, if c then [] else fd.closure, fd.builtins)
  | _ => none
def DX.val (d : DX) : FnZ := some (d.name, d.qual, defArgs d.st, .stmts (defBody d.st), defScope d.st, mainGlobals, [], builtinsNs)
def isNon : Value → Bool
  | .none => true
  | _ => false
def DX.ok (K : PySem.W.Frag) (d : DX) : Bool := PySem.W.keepIn K (.ref (d.at_.ad K)) && (match K.lookup (d.at_.ad K) with
  | some ⟨_, _, .func fd, _⟩ => PySem.W.codeIn K fd.code d.qual && isNon fd.defaults
  | _ => false)
theorem DX.funC {K : PySem.W.Frag} {d : DX} (e : fnZ d.cl K (d.at_.ad K) = d.val) (c : d.ok K = true) : PySem.W.keepIn K (.ref (d.at_.ad K)) = true ∧ ∃ cl oc od osl kV doc pm an cdv ct, (d.cl = false → cl = []) ∧
    K.lookup (d.at_.ad K) = some ⟨oc, od, .func (PySem.W.fnX d.name d.qual (defArgs d.st) (defBody d.st) (defScope d.st) cl .none kV doc pm an cdv ct), osl⟩ ∧ PySem.W.codeIn K cdv d.qual = true := by
  obtain ⟨kp, c2⟩ := He.ba c
  unfold fnZ at e
  cases q : K.lookup (d.at_.ad K) with
  | none => rw [q] at c2; cases c2
  | some o =>
    obtain ⟨oc, od, dt, osl⟩ := o
    rw [q] at c2 e
    cases dt with
    | func fd =>
      obtain ⟨n1, n2, n3, n4, n5, n6, n7, n8, n9, n10, n11, n12, n13, n14, n15⟩ := fd
      have e2 : (some (n1, n2, n3, n4, n5, n6, (if d.cl then [] else n7), n15) : FnZ) = some (d.name, d.qual, defArgs d.st, .stmts (defBody d.st), defScope d.st, mainGlobals, [], builtinsNs) := e
      simp only [Option.some.injEq, Prod.mk.injEq] at e2
      obtain ⟨h1, h2, h3, h4, h5, h6, h7, h8⟩ := e2
      subst h1 h2 h3 h4 h5 h6 h8
      have c3 : (PySem.W.codeIn K n13 d.qual && isNon n8) = true := c2
      obtain ⟨k1, k2⟩ := He.ba c3
      have hn : n8 = .none := by
        cases n8 with
        | none => rfl
        | _ => cases k2
      subst hn
      exact ⟨kp, n7, oc, od, osl, n9, n10, n11, n12, n13, n14, fun z => by rw [z] at h7; exact h7, rfl, k1⟩
    | _ => cases c2
theorem DX.fun_ {K : PySem.W.Frag} {d : DX} (e : fnZ d.cl K (d.at_.ad K) = d.val) (c : d.ok K = true) (hc : d.cl = false) : ∃ fd, Fun K d.name d.qual d.st (d.at_.ad K) fd := by
  obtain ⟨kp, cl, oc, od, osl, kV, doc, pm, an, cdv, ct, hcl, lk, cd⟩ := DX.funC e c
  cases hcl hc
  exact ⟨_, ⟨oc, od, kV, doc, pm, an, cdv, ct, osl, rfl, lk, cd⟩, kp⟩
/-! ### the Hook -/
abbrev AlZ : Type := List Bool × List FnZ × List Bool
def tabs1 (g : Addr → Option Obj) (K : PySem.W.Frag) (p : He.Defn) : Bool := PySem.W.codeHdIn K (He.cT K p).1 (He.cT K p).2 && ((K.lookup (He.cT K p).2).isNone && (match g (He.cT K p).2 with
  | some o => He.emptyTab o
  | none => false))
def obsK (fx : List (PySem.W.Frag → Bool)) (fn : List DX) (tf : List He.Defn) (g : Addr → Option Obj) (K : PySem.W.Frag) : AlZ :=
  (fx.map (fun f => f K) ++ fn.map (fun d => d.ok K), fn.map (fun d => fnZ d.cl K (d.at_.ad K)), tf.map (tabs1 g K))
def obsZ (n : Nat) (fx : List (PySem.W.Frag → Bool)) (fn : List DX) (tf : List He.Defn) (g : Addr → Option Obj) : AlZ :=
  lvls g n [mainGlobals, cStatics] fun as => fFr g as fun K => obsK fx fn tf g K
def valZ (fx : List (PySem.W.Frag → Bool)) (fn : List DX) (tf : List He.Defn) : AlZ := (fx.map (fun _ => true) ++ fn.map (fun _ => true), fn.map DX.val, tf.map fun _ => true)
structure SaysZ (fx : List (PySem.W.Frag → Bool)) (fn : List DX) (tf : List He.Defn) (h : Heap) (K : PySem.W.Frag) : Prop where
  fx : ∀ f ∈ fx, f K = true
  ok : ∀ d ∈ fn, d.ok K = true
  fn : ∀ d ∈ fn, fnZ d.cl K (d.at_.ad K) = d.val
  hd : ∀ p ∈ tf, PySem.W.codeHdIn K (He.cT K p).1 (He.cT K p).2 = true
  out : ∀ p ∈ tf, K.lookup (He.cT K p).2 = none
  empty : ∀ p ∈ tf, h.get? (He.cT K p).2 = some { cls := .none, data := .fields #[] }
theorem lvls_any {α : Type} (g : Addr → Option Obj) : ∀ (n : Nat) (as : List Addr) (k : List Addr → α), ∃ l, lvls g n as k = k l
  | 0, as, k => ⟨as, rfl⟩
  | n + 1, as, k => by
    obtain ⟨l, e⟩ := lvls_any g n (kidsOf g as) fun r => k (as ++ r)
    refine ⟨as ++ l, ?_⟩
    show fAs (kidsOf g as) (fun bs => lvls g n bs fun r => k (as ++ r)) = _
    rw [fAs_eq, e]
theorem map_const_all {α β : Type} {l : List α} {f g : α → β} (h : l.map f = l.map g) : ∀ x ∈ l, f x = g x := by
  intro x hx
  obtain ⟨i, hi, e⟩ := List.mem_iff_getElem.mp hx
  have h2 : (l.map f)[i]? = (l.map g)[i]? := by rw [h]
  rw [List.getElem?_map, List.getElem?_map, List.getElem?_eq_getElem hi, e] at h2
  exact Option.some.inj h2
theorem says_of {n : Nat} {fx : List (PySem.W.Frag → Bool)} {fn : List DX} {tf : List He.Defn} {h : Heap} (e : obsZ n fx fn tf h.get? = valZ fx fn tf) : ∃ K : PySem.W.Frag, K.In h ∧ SaysZ fx fn tf h K := by
  unfold obsZ at e
  obtain ⟨l, el⟩ := lvls_any h.get? n [mainGlobals, cStatics] fun as => fFr h.get? as fun K => obsK fx fn tf h.get? K
  rw [el, fFr_eq] at e
  refine ⟨He.frG h.get? l, He.frG_in, ?_⟩
  generalize He.frG h.get? l = K at e
  have e1 : fx.map (fun f => f K) ++ fn.map (fun d => d.ok K) = fx.map (fun _ => true) ++ fn.map (fun _ => true) := congrArg (fun z : AlZ => z.1) e
  have e2 : fn.map (fun d => fnZ d.cl K (d.at_.ad K)) = fn.map DX.val := congrArg (fun z : AlZ => z.2.1) e
  have e3 : tf.map (tabs1 h.get? K) = tf.map fun _ => true := congrArg (fun z : AlZ => z.2.2) e
  obtain ⟨a1, a2⟩ := List.append_inj e1 (by simp)
  have t := map_const_all e3
  have tt : ∀ p ∈ tf, PySem.W.codeHdIn K (He.cT K p).1 (He.cT K p).2 = true ∧ K.lookup (He.cT K p).2 = none ∧ h.get? (He.cT K p).2 = some { cls := .none, data := .fields #[] } := fun p hp => by
    have h0 := t p hp
    unfold tabs1 at h0
    obtain ⟨h1, h2⟩ := He.ba h0
    obtain ⟨h3, h4⟩ := He.ba h2
    refine ⟨h1, Option.isNone_iff_eq_none.mp h3, ?_⟩
    cases q : h.get? (He.cT K p).2 with
    | none => rw [q] at h4; cases h4
    | some o =>
      rw [q] at h4
      rw [He.emptyTab_eq h4]
  exact ⟨map_const_all a1, map_const_all a2, map_const_all e2, fun p hp => (tt p hp).1, fun p hp => (tt p hp).2.1, fun p hp => (tt p hp).2.2⟩
def hookZ (n : Nat) (fx : List (PySem.W.Frag → Bool)) (fn : List DX) (tf : List He.Defn) : PySem.W.Hook where
  α := AlZ
  obs := fun s => obsZ n fx fn tf s.heap.get?
  val := fun _ => valZ fx fn tf
  says := fun _ h => ∃ K : PySem.W.Frag, K.In h ∧ SaysZ fx fn tf h K
  of := fun _ _ e => says_of e
  keeps := fun _ _ _ ⟨K, hK, c⟩ k => ⟨K, PySem.W.Frag.In.keeps hK k, ⟨c.fx, c.ok, c.fn, c.hd, c.out, fun p hp => k _ _ (c.empty p hp)⟩⟩
theorem obsZ_eq {n : Nat} {fx : List (PySem.W.Frag → Bool)} {fn : List DX} {tf : List He.Defn} {g : Addr → Option Obj} {s : Shared} (h : ∀ a, g a = s.heap.get? a) : obsZ n fx fn tf g = (hookZ n fx fn tf).obs s := by
  have e : g = s.heap.get? := funext h
  rw [e] <;> rfl
section
variable {fx : List (PySem.W.Frag → Bool)} {fn : List DX} {tf : List He.Defn} {h : Heap} {K : PySem.W.Frag}
theorem SaysZ.fact (c : SaysZ fx fn tf h K) (i : Nat) {f : PySem.W.Frag → Bool} (e : fx[i]? = some f := by rfl) : f K = true := c.fx f (List.mem_of_getElem? e)
theorem SaysZ.def_ (c : SaysZ fx fn tf h K) (i : Nat) {d : DX} (e : fn[i]? = some d := by rfl) (hc : d.cl = false := by rfl) : ∃ fd, Fun K d.name d.qual d.st (d.at_.ad K) fd :=
  DX.fun_ (c.fn d (List.mem_of_getElem? e)) (c.ok d (List.mem_of_getElem? e)) hc
theorem SaysZ.defC (c : SaysZ fx fn tf h K) (i : Nat) {d : DX} (e : fn[i]? = some d := by rfl) : PySem.W.keepIn K (.ref (d.at_.ad K)) = true ∧ ∃ cl oc od osl kV doc pm an cdv ct, (d.cl = false → cl = []) ∧
    K.lookup (d.at_.ad K) = some ⟨oc, od, .func (PySem.W.fnX d.name d.qual (defArgs d.st) (defBody d.st) (defScope d.st) cl .none kV doc pm an cdv ct), osl⟩ ∧ PySem.W.codeIn K cdv d.qual = true := DX.funC (c.fn d (List.mem_of_getElem? e)) (c.ok d (List.mem_of_getElem? e))
end
end Tcf

set_option Elab.async false
set_option linter.all false
set_option maxRecDepth 100000
set_option maxHeartbeats 4000000
/-! HT: the row's statements, the facts that are looked at (printed by gen_head.py). -/
namespace Tcf
open PySem PySem.Spec PyProof.Rows L2
abbrev R : PySem.W.OpenRow := PySem.W.OpenLaw.row PySem.Challenge.rw_twocolourflips_k62_whole_tables_of_all_d
def top (i : Nat) : Stmt := PySem.Challenge.pw_twocolourflips_k62_whole_tables_of_all_d.main.body.getD i (.Pass ⟨0, 0, 0, 0⟩)
def rtBase : List Value := [.type "RuntimeError", .type "Exception", .type "BaseException", .type "object"]
/-- a property and its getter -/
def prpB (K : PySem.W.Frag) (C f : Str) : Bool := He.eqO (PySem.W.findIn K (.ref (He.ga K C)) f) (some (some (.ref (He.ma K (He.ga K C) f)))) &&
  (He.eqO (PySem.W.specialIn K (.ref (He.ma K (He.ga K C) f)) "__get__") (some (some (.builtin "property.__get__"))) && (decide (PySem.W.takesIn K (.ref (He.ma K (He.ga K C) f)) = some true) &&
  (match PySem.W.recIn K (He.ma K (He.ga K C) f) "property" with
    | some (.ref _ :: _) => true
    | _ => false)))
/-- isinstance of an own class with itself -/
def insB (K : PySem.W.Frag) (C : Str) : Bool := He.eqO (PySem.W.findIn K (.ref (He.ga K C)) "__class__") (some (some (.builtin "object.__class__"))) &&
  (He.eqO (PySem.W.specialIn K (.builtin "object.__class__") "__get__") (some (some (.builtin "getset_descriptor.__get__"))) && (decide (PySem.W.takesIn K (.builtin "object.__class__") = some true) &&
  (decide (PySem.W.mroIn K (He.ga K C) (.type "object") = some true) && decide (PySem.W.kitOne K (.ref (He.ga K C)) (.ref (He.ga K C)) = some true))))
/-- != of an own class with its own == and no != -/
def neB (K : PySem.W.Frag) (C : Str) : Bool := He.eqO (PySem.W.findIn K (.ref (He.ga K C)) "__ne__") (some (some (.builtin "object.__ne__")))
/-- raised: a class of exceptions -/
def rseB (K : PySem.W.Frag) (C : Str) : Bool := decide (PySem.W.subIn K (.ref (He.ga K C)) (.type "BaseException") = some true) && decide (PySem.W.typeIn K (.ref (He.ga K C)) = some (.type "type"))
/-- what is looked at of the class: its object, its own ==, no own != -/
def neIn (K : PySem.W.Frag) (C f : Addr) : Bool := match K.lookup C with
  | some ⟨.type "type", _, .cls cd, sl⟩ => (match cd.mro, sl.toList with
    | [.ref C', .type "object"], [_, _, _, _, some (.builtin _), _] => C' == C && (!cd.hasDel && (PySem.W.nsOkIn K cd.ns && (He.eqO (PySem.W.nsIn K cd.ns "__eq__") (some (some (.ref f))) && He.eqO (PySem.W.nsIn K cd.ns "__ne__") (some none))))
    | _, _ => false)
  | _ => false
/-- InvalidPlan: fields are read, its __init__ closes over its class -/
def ipB (K : PySem.W.Frag) : Bool := xfB K (He.ga K "InvalidPlan") && He.eqO (PySem.W.findIn K (.ref (He.ga K "InvalidPlan")) "index") (some none)
def fileR : Str := R.prog.main.file
def ipCl (K : PySem.W.Frag) (C : Addr) : Bool := match K.lookup (He.ma K C "__init__") with
  | some ⟨_, _, .func fd, _⟩ => (match fd.closure, fd.code with
    | [(s, cc)], .ref cda => s == ("__class__" : Str) && ((match K.lookup cc with
      | some ⟨_, _, .cell (some (.ref D)), _⟩ => D == C
      | _ => false) && (match K.lookup cda with
      | some ⟨_, _, .fields vs, _⟩ => (match vs.toList with
        | _ :: _ :: .str f _ :: _ => fileR == f
        | _ => false)
      | _ => false))
    | _, _ => false)
  | _ => false
def ipCd (K : PySem.W.Frag) (C : Addr) : Bool := match PySem.W.clsIn K C with
  | some cd => PySem.HandSPX.refsVE cd.mro && cd.hasDict
  | none => false
def ipAll (K : PySem.W.Frag) (C : Addr) : List Bool := [PySem.W.excInitIn K C He.veBase "ValueError.__new__", ipCd K C, He.eqO (PySem.W.findIn K (.ref C) "__init__") (some (some (.ref (He.ma K C "__init__")))),
  decide (PySem.W.typeIn K (.ref (He.ma K C "__init__")) = some (.type "function")), He.eqO (PySem.W.findIn K (.ref C) "__setattr__") (some (some (.builtin "object.__setattr__"))), decide (PySem.W.mroIn K C (.ref C) = some true),
  He.eqO (PySem.W.nsIn K cStatics "thirdparty.any") (some none), He.eqO (PySem.W.ks_superIn K C C "__init__") (some (some (.builtin "ValueError.__init__"))), decide (PySem.W.subIn K (.ref C) (.type "ValueError") = some true), ipCl K C]

def fx0 : List (PySem.W.Frag → Bool) := [
  fun K => (He.Fa.glo "is_number").ok K,
  fun K => (He.Fa.glo "is_count").ok K,
  fun K => (He.Fa.glo "is_colour").ok K,
  fun K => (He.Fa.glo "joined").ok K,
  fun K => (He.Fa.glo "row_of").ok K,
  fun K => (He.Fa.glo "text_of").ok K,
  fun K => (He.Fa.glo "check_row").ok K,
  fun K => (He.Fa.glo "check_game").ok K,
  fun K => (He.Fa.glo "can_be_used").ok K,
  fun K => (He.Fa.glo "is_allowed").ok K,
  fun K => (He.Fa.glo "check_goal").ok K,
  fun K => (He.Fa.glo "check_words").ok K,
  fun K => (He.Fa.glo "sorting_cost").ok K,
  fun K => (He.Fa.glo "plain_cost").ok K,
  fun K => (He.Fa.glo "numbers_by_kind").ok K,
  fun K => (He.Fa.glo "state_after").ok K,
  fun K => (He.Fa.glo "kinds_of_game").ok K,
  fun K => (He.Fa.glo "best_kinds").ok K,
  fun K => (He.Fa.glo "first_flip").ok K,
  fun K => (He.Fa.glo "_law_stream").ok K,
  fun K => (He.Fa.glo "_law_draw").ok K,
  fun K => (He.Fa.glo "_law_text").ok K,
  fun K => (He.Fa.glo "_law_turn").ok K,
  fun K => (He.Fa.glo "_law_places").ok K]
def fx1 : List (PySem.W.Frag → Bool) := [
  fun K => (He.Fa.glo "_law_is_done").ok K,
  fun K => (He.Fa.glo "_law_words").ok K,
  fun K => (He.Fa.glo "_law_levels").ok K,
  fun K => (He.Fa.glo "_law_hint").ok K,
  fun K => (He.Fa.glo "_law_heard").ok K,
  fun K => (He.Fa.glo "_law_joined").ok K,
  fun K => (He.Fa.glo "_law_flipped").ok K,
  fun K => (He.Fa.glo "_law_undone").ok K,
  fun K => (He.Fa.glo "_law_redone").ok K,
  fun K => (He.Fa.glo "_law_listed").ok K,
  fun K => (He.Fa.glo "_law_drawn_place").ok K,
  fun K => (He.Fa.glo "_law_some_places").ok K,
  fun K => (He.Fa.glo "_law_pair").ok K,
  fun K => (He.Fa.glo "_law_more_pair").ok K,
  fun K => (He.Fa.glo "_law_agrees").ok K,
  fun K => (He.Fa.glo "law").ok K,
  fun K => (He.Fa.free "len").ok K,
  fun K => (He.Fa.free "isinstance").ok K,
  fun K => (He.Fa.free "int").ok K,
  fun K => (He.Fa.free "bool").ok K,
  fun K => (He.Fa.free "str").ok K,
  fun K => (He.Fa.free "list").ok K,
  fun K => (He.Fa.free "all").ok K,
  fun K => (He.Fa.free "sum").ok K]
def fx2 : List (PySem.W.Frag → Bool) := [
  fun K => (He.Fa.free "min").ok K,
  fun K => (He.Fa.free "max").ok K,
  fun K => (He.Fa.free "range").ok K,
  fun K => (He.Fa.free "enumerate").ok K,
  fun K => (He.Fa.free "dict").ok K,
  fun K => (He.Fa.free "super").ok K,
  fun K => (He.Fa.int "MAX_RUNS" 2000).ok K,
  fun K => (He.Fa.int "MAX_LENGTH" (10 ^ 30)).ok K,
  fun K => (He.Fa.int "MAX_ITEMS" 2000).ok K,
  fun K => He.lstB K "GAMES" [.str "front", .str "ends", .str "parts"],
  fun K => He.lstB K "GOALS" [.str "grouped", .str "sorted"],
  fun K => (He.Fa.glo "GAMES").ok K,
  fun K => (He.Fa.glo "GOALS").ok K,
  fun K => (He.Fa.glo "Row").ok K,
  fun K => (He.Fa.cls "Row").ok K,
  fun K => (He.Fa.mkr "Row").ok K,
  fun K => (He.Fa.noat "Row" "colour").ok K,
  fun K => (He.Fa.noat "Row" "sizes").ok K,
  fun K => (He.Fa.meth "Row" "__eq__").ok K,
  fun K => (He.Fa.meth "Row" "__add__").ok K,
  fun K => (He.Fa.meth "Row" "__invert__").ok K,
  fun K => (He.Fa.meth "Row" "part").ok K,
  fun K => (He.Fa.meth "Row" "borders").ok K,
  fun K => prpB K "Row" "first"]
def fx3 : List (PySem.W.Frag → Bool) := [
  fun K => prpB K "Row" "lengths",
  fun K => prpB K "Row" "runs",
  fun K => prpB K "Row" "length",
  fun K => PySem.W.selfFirst K (He.ga K "Row"),
  fun K => (He.Fa.glo "Flip").ok K,
  fun K => (He.Fa.cls "Flip").ok K,
  fun K => (He.Fa.mkr "Flip").ok K,
  fun K => (He.Fa.noat "Flip" "begin").ok K,
  fun K => (He.Fa.noat "Flip" "finish").ok K,
  fun K => (He.Fa.meth "Flip" "check").ok K,
  fun K => (He.Fa.meth "Flip" "__call__").ok K,
  fun K => prpB K "Flip" "start",
  fun K => prpB K "Flip" "end",
  fun K => PySem.W.selfFirst K (He.ga K "Flip"),
  fun K => (He.Fa.glo "Trial").ok K,
  fun K => (He.Fa.cls "Trial").ok K,
  fun K => (He.Fa.mkr "Trial").ok K,
  fun K => (He.Fa.noat "Trial" "home").ok K,
  fun K => (He.Fa.noat "Trial" "kept").ok K,
  fun K => (He.Fa.meth "Trial" "__enter__").ok K,
  fun K => (He.Fa.meth "Trial" "__exit__").ok K,
  fun K => PySem.W.selfFirst K (He.ga K "Trial"),
  fun K => (He.Fa.glo "Table").ok K,
  fun K => (He.Fa.cls "Table").ok K]
def fx4 : List (PySem.W.Frag → Bool) := [
  fun K => (He.Fa.mkr "Table").ok K,
  fun K => (He.Fa.noat "Table" "beginning").ok K,
  fun K => (He.Fa.noat "Table" "words").ok K,
  fun K => (He.Fa.noat "Table" "state").ok K,
  fun K => (He.Fa.meth "Table" "__len__").ok K,
  fun K => (He.Fa.meth "Table" "__eq__").ok K,
  fun K => (He.Fa.meth "Table" "__iadd__").ok K,
  fun K => (He.Fa.meth "Table" "flip").ok K,
  fun K => (He.Fa.meth "Table" "undo").ok K,
  fun K => (He.Fa.meth "Table" "redo").ok K,
  fun K => (He.Fa.meth "Table" "cost_of").ok K,
  fun K => (He.Fa.meth "Table" "cost").ok K,
  fun K => (He.Fa.meth "Table" "hint").ok K,
  fun K => (He.Fa.meth "Table" "wasted").ok K,
  fun K => (He.Fa.meth "Table" "tried").ok K,
  fun K => (He.Fa.meth "Table" "clone").ok K,
  fun K => prpB K "Table" "first_row",
  fun K => prpB K "Table" "row",
  fun K => prpB K "Table" "game",
  fun K => prpB K "Table" "flips",
  fun K => PySem.W.selfFirst K (He.ga K "Table"),
  fun K => insB K "Row",
  fun K => insB K "Flip",
  fun K => insB K "Table"]
def fx5 : List (PySem.W.Frag → Bool) := [
  fun K => neB K "Table",
  fun K => He.eqO (PySem.W.findIn K (.ref (He.ga K "Row")) "__radd__") (some none),
  fun K => PySem.W.excIn K (He.ga K "InvalidFlip") He.veBase "ValueError.__new__",
  fun K => PySem.W.excIn K (He.ga K "NotAllowed") rtBase "RuntimeError.__new__",
  fun K => PySem.W.excIn K (He.ga K "NothingToUndo") rtBase "RuntimeError.__new__",
  fun K => (He.Fa.glo "InvalidFlip").ok K,
  fun K => PySem.W.keepIn K (.ref (He.ga K "InvalidFlip")),
  fun K => rseB K "InvalidFlip",
  fun K => (He.Fa.glo "NotAllowed").ok K,
  fun K => PySem.W.keepIn K (.ref (He.ga K "NotAllowed")),
  fun K => rseB K "NotAllowed",
  fun K => (He.Fa.glo "NothingToUndo").ok K,
  fun K => PySem.W.keepIn K (.ref (He.ga K "NothingToUndo")),
  fun K => rseB K "NothingToUndo",
  fun K => (He.Fa.glo "InvalidPlan").ok K,
  fun K => PySem.W.keepIn K (.ref (He.ga K "InvalidPlan")),
  fun K => rseB K "InvalidPlan",
  fun K => (He.Fa.exm "InvalidFlip" "InvalidFlip" true).ok K,
  fun K => (He.Fa.exm "NotAllowed" "InvalidFlip" false).ok K,
  fun K => (He.Fa.exm "NotAllowed" "NotAllowed" true).ok K,
  fun K => (He.Fa.exm "NothingToUndo" "InvalidFlip" false).ok K,
  fun K => (He.Fa.exm "NothingToUndo" "NotAllowed" false).ok K,
  fun K => (He.Fa.exm "NothingToUndo" "NothingToUndo" true).ok K,
  fun K => (He.Fa.exm "InvalidPlan" "InvalidFlip" false).ok K]
def fx6 : List (PySem.W.Frag → Bool) := [
  fun K => (He.Fa.exm "InvalidPlan" "NotAllowed" false).ok K,
  fun K => (He.Fa.exm "InvalidPlan" "NothingToUndo" false).ok K,
  fun K => (He.Fa.exm "InvalidPlan" "InvalidPlan" true).ok K,
  fun K => ipB K,
  fun K => (ipAll K (He.ga K "InvalidPlan"))[0]?.getD false,
  fun K => (ipAll K (He.ga K "InvalidPlan"))[1]?.getD false,
  fun K => (ipAll K (He.ga K "InvalidPlan"))[2]?.getD false,
  fun K => (ipAll K (He.ga K "InvalidPlan"))[3]?.getD false,
  fun K => (ipAll K (He.ga K "InvalidPlan"))[4]?.getD false,
  fun K => (ipAll K (He.ga K "InvalidPlan"))[5]?.getD false,
  fun K => (ipAll K (He.ga K "InvalidPlan"))[6]?.getD false,
  fun K => (ipAll K (He.ga K "InvalidPlan"))[7]?.getD false,
  fun K => (ipAll K (He.ga K "InvalidPlan"))[8]?.getD false,
  fun K => (ipAll K (He.ga K "InvalidPlan"))[9]?.getD false,
  fun K => neIn K (He.ga K "Table") (He.ma K (He.ga K "Table") "__eq__"),
  fun K => PySem.W.fnIn K (He.ma K (He.ga K "Flip") "__call__"),
  fun K => !((He.cT K ("_law_pair", none)).2 == (He.cT K ("_law_more_pair", none)).2)]
def fx : List (PySem.W.Frag → Bool) := fx0 ++ fx1 ++ fx2 ++ fx3 ++ fx4 ++ fx5 ++ fx6
def fn0 : List DX := [
  ⟨.glo "is_number", "is_number", "is_number", top 14, false⟩,
  ⟨.glo "is_count", "is_count", "is_count", top 15, false⟩,
  ⟨.glo "is_colour", "is_colour", "is_colour", top 16, false⟩,
  ⟨.glo "joined", "joined", "joined", top 21, false⟩,
  ⟨.glo "row_of", "row_of", "row_of", top 23, false⟩,
  ⟨.glo "text_of", "text_of", "text_of", top 24, false⟩,
  ⟨.glo "check_row", "check_row", "check_row", top 25, false⟩,
  ⟨.glo "check_game", "check_game", "check_game", top 28, false⟩,
  ⟨.glo "can_be_used", "can_be_used", "can_be_used", top 30, false⟩,
  ⟨.glo "is_allowed", "is_allowed", "is_allowed", top 31, false⟩,
  ⟨.glo "check_goal", "check_goal", "check_goal", top 34, false⟩,
  ⟨.glo "check_words", "check_words", "check_words", top 35, false⟩,
  ⟨.glo "sorting_cost", "sorting_cost", "sorting_cost", top 36, false⟩,
  ⟨.glo "plain_cost", "plain_cost", "plain_cost", top 37, false⟩,
  ⟨.glo "numbers_by_kind", "numbers_by_kind", "numbers_by_kind", top 39, false⟩,
  ⟨.glo "state_after", "state_after", "state_after", top 40, false⟩,
  ⟨.glo "kinds_of_game", "kinds_of_game", "kinds_of_game", top 41, false⟩,
  ⟨.glo "best_kinds", "best_kinds", "best_kinds", top 42, false⟩,
  ⟨.glo "first_flip", "first_flip", "first_flip", top 44, false⟩,
  ⟨.glo "_law_stream", "_law_stream", "_law_stream", top 48, false⟩,
  ⟨.glo "_law_draw", "_law_draw", "_law_draw", top 49, false⟩,
  ⟨.glo "_law_text", "_law_text", "_law_text", top 50, false⟩,
  ⟨.glo "_law_turn", "_law_turn", "_law_turn", top 51, false⟩,
  ⟨.glo "_law_places", "_law_places", "_law_places", top 52, false⟩]
def fn1 : List DX := [
  ⟨.glo "_law_is_done", "_law_is_done", "_law_is_done", top 53, false⟩,
  ⟨.glo "_law_words", "_law_words", "_law_words", top 54, false⟩,
  ⟨.glo "_law_levels", "_law_levels", "_law_levels", top 55, false⟩,
  ⟨.glo "_law_hint", "_law_hint", "_law_hint", top 56, false⟩,
  ⟨.glo "_law_heard", "_law_heard", "_law_heard", top 57, false⟩,
  ⟨.glo "_law_joined", "_law_joined", "_law_joined", top 58, false⟩,
  ⟨.glo "_law_flipped", "_law_flipped", "_law_flipped", top 59, false⟩,
  ⟨.glo "_law_undone", "_law_undone", "_law_undone", top 60, false⟩,
  ⟨.glo "_law_redone", "_law_redone", "_law_redone", top 61, false⟩,
  ⟨.glo "_law_listed", "_law_listed", "_law_listed", top 62, false⟩,
  ⟨.glo "_law_drawn_place", "_law_drawn_place", "_law_drawn_place", top 63, false⟩,
  ⟨.glo "_law_some_places", "_law_some_places", "_law_some_places", top 64, false⟩,
  ⟨.glo "_law_pair", "_law_pair", "_law_pair", top 65, false⟩,
  ⟨.glo "_law_more_pair", "_law_more_pair", "_law_more_pair", top 66, false⟩,
  ⟨.glo "_law_agrees", "_law_agrees", "_law_agrees", top 67, false⟩,
  ⟨.glo "law", "law", "law", top 68, false⟩,
  ⟨.met "Row" "__init__", "__init__", "Row.__init__", inClass (top 22) 0, false⟩,
  ⟨.met "Row" "__eq__", "__eq__", "Row.__eq__", inClass (top 22) 6, false⟩,
  ⟨.met "Row" "__add__", "__add__", "Row.__add__", inClass (top 22) 10, false⟩,
  ⟨.met "Row" "__invert__", "__invert__", "Row.__invert__", inClass (top 22) 12, false⟩,
  ⟨.met "Row" "part", "part", "Row.part", inClass (top 22) 14, false⟩,
  ⟨.met "Row" "borders", "borders", "Row.borders", inClass (top 22) 16, false⟩,
  ⟨.prp "Row" "first", "first", "Row.first", inClass (top 22) 1, false⟩,
  ⟨.prp "Row" "lengths", "lengths", "Row.lengths", inClass (top 22) 3, false⟩]
def fn2 : List DX := [
  ⟨.prp "Row" "runs", "runs", "Row.runs", inClass (top 22) 4, false⟩,
  ⟨.prp "Row" "length", "length", "Row.length", inClass (top 22) 5, false⟩,
  ⟨.met "Flip" "__init__", "__init__", "Flip.__init__", inClass (top 29) 0, false⟩,
  ⟨.met "Flip" "check", "check", "Flip.check", inClass (top 29) 4, false⟩,
  ⟨.met "Flip" "__call__", "__call__", "Flip.__call__", inClass (top 29) 5, false⟩,
  ⟨.prp "Flip" "start", "start", "Flip.start", inClass (top 29) 1, false⟩,
  ⟨.prp "Flip" "end", "end", "Flip.end", inClass (top 29) 2, false⟩,
  ⟨.met "Trial" "__init__", "__init__", "Trial.__init__", inClass (top 45) 0, false⟩,
  ⟨.met "Trial" "__enter__", "__enter__", "Trial.__enter__", inClass (top 45) 1, false⟩,
  ⟨.met "Trial" "__exit__", "__exit__", "Trial.__exit__", inClass (top 45) 2, false⟩,
  ⟨.met "Table" "__init__", "__init__", "Table.__init__", inClass (top 46) 0, false⟩,
  ⟨.met "Table" "__len__", "__len__", "Table.__len__", inClass (top 46) 6, false⟩,
  ⟨.met "Table" "__eq__", "__eq__", "Table.__eq__", inClass (top 46) 7, false⟩,
  ⟨.met "Table" "__iadd__", "__iadd__", "Table.__iadd__", inClass (top 46) 8, false⟩,
  ⟨.met "Table" "flip", "flip", "Table.flip", inClass (top 46) 9, false⟩,
  ⟨.met "Table" "undo", "undo", "Table.undo", inClass (top 46) 10, false⟩,
  ⟨.met "Table" "redo", "redo", "Table.redo", inClass (top 46) 11, false⟩,
  ⟨.met "Table" "cost_of", "cost_of", "Table.cost_of", inClass (top 46) 12, false⟩,
  ⟨.met "Table" "cost", "cost", "Table.cost", inClass (top 46) 13, false⟩,
  ⟨.met "Table" "hint", "hint", "Table.hint", inClass (top 46) 14, false⟩,
  ⟨.met "Table" "wasted", "wasted", "Table.wasted", inClass (top 46) 15, false⟩,
  ⟨.met "Table" "tried", "tried", "Table.tried", inClass (top 46) 16, false⟩,
  ⟨.met "Table" "clone", "clone", "Table.clone", inClass (top 46) 17, false⟩,
  ⟨.prp "Table" "first_row", "first_row", "Table.first_row", inClass (top 46) 1, false⟩]
def fn3 : List DX := [
  ⟨.prp "Table" "row", "row", "Table.row", inClass (top 46) 2, false⟩,
  ⟨.prp "Table" "game", "game", "Table.game", inClass (top 46) 3, false⟩,
  ⟨.prp "Table" "flips", "flips", "Table.flips", inClass (top 46) 5, false⟩,
  ⟨.met "InvalidPlan" "__init__", "__init__", "InvalidPlan.__init__", inClass (top 8) 0, true⟩]
def fn : List DX := fn0 ++ fn1 ++ fn2 ++ fn3
def tf : List He.Defn := [("_law_pair", none), ("_law_more_pair", none)]
end Tcf

set_option Elab.async false
set_option linter.all false
set_option maxRecDepth 100000
set_option maxHeartbeats 0
/-! H1: the head by one kernel run (printed by gen_head.py). -/
namespace Tcf
open PySem PySem.Spec PyProof.Rows L2

def names0 : List String := ["_wall", "FlipError", "InvalidRow", "InvalidFlip", "InvalidGame", "InvalidGoal", "InvalidNumber", "InvalidPlan", "NoPlace", "NotAllowed", "NothingToUndo", "LimitExceeded", "is_number", "is_count", "is_colour", "MAX_RUNS", "MAX_LENGTH", "MAX_ITEMS", "joined", "Row", "row_of", "text_of", "check_row", "GAMES", "check_game", "Flip", "can_be_used", "is_allowed", "GOALS", "check_goal"]
def names1 : List String := ["check_words", "sorting_cost", "plain_cost", "numbers_by_kind", "state_after", "kinds_of_game", "best_kinds", "first_flip", "Trial", "Table", "_law_stream", "_law_draw", "_law_text", "_law_turn", "_law_places", "_law_is_done", "_law_words", "_law_levels", "_law_hint", "_law_heard", "_law_joined", "_law_flipped", "_law_undone", "_law_redone", "_law_listed", "_law_drawn_place", "_law_some_places", "_law_pair", "_law_more_pair", "_law_agrees"]
def names : List PySem.Str := (names0 ++ names1).map PySem.Str.ofString
abbrev hk : PySem.W.Hook := hookZ 5 fx fn tf
def ob (s : PySem.W.SharedT) : AlZ := obsZ 5 fx fn tf (HandSHeadRun.getT s)
theorem ob_eq (s : PySem.W.SharedT) : ob s = hk.obs s.abs := obsZ_eq (HandSHeadRun.getT_eq s)
theorem run (w : World) : HandSHeadRun.RunEq R (PySem.W.view R.prog [68]) hk ob 20000 names w := by
  intro os
  kernel_rfl
end Tcf

set_option Elab.async false
set_option linter.all false
set_option maxRecDepth 100000
set_option maxHeartbeats 4000000
/-! RU1: a def's promise with what a caller needs (Ok); calls, methods, properties, makers, own operators by it. -/
namespace Tcf
open PySem PySem.Spec PyProof.Rows L2
/-- the def at f keeps sp, all parameters are given -/
structure Ok (P : Program) (w : World) (K : PySem.W.Frag) (mg : Str → Option Value) (base : Heap) (k : Nat) (f : Addr) (sp : Sp) : Prop where
  ex : ∃ fd ps, FnOk P w K mg base (L2.CX P w) k f fd ps sp ∧ Binds K fd ps []
  kp : PySem.W.keepIn K (.ref f) = true
theorem cx0_up {P : Program} {w : World} {K : PySem.W.Frag} {mg : Str → Option Value} {base : Heap} {k : Nat} {f : Addr} {fd : FuncData} {ps : List Str} {sp : Sp} (F : FnOk P w K mg base CX0 k f fd ps sp) : FnOk P w K mg base (L2.CX P w) k f fd ps sp :=
  ⟨F.len, fun A outer s H args us vs Q E hr e0 hb hv hs => codeAny_mono (F.run A outer s H args us vs Q E hr e0 hb hv hs) fun r s' h => by
    cases r with
    | error e => exact (show False from h).elim
    | ok fl => cases fl <;> exact h⟩
section
variable {P : Program} {w : World} {K : PySem.W.Frag} {mg : Str → Option Value} {base : Heap}
/-- from the text: nothing leaves it -/
theorem ok_mk {x qual : Str} {st : Stmt} {f : Addr} {N ps : List Str} {k : Nat} {sp : Sp} (F : ∃ fd, Fun K x qual st f fd) (S : FnScope N ps (defScope st)) (len : ∀ vs H Q E, sp vs H Q E → vs.length = ps.length)
    (hbind : ∀ (kV doc pm : Value) (an : Option Addr) (cdv ct : Value) (us : List Value), us.length = ps.length → bindArgs (PySem.W.fnOf x qual (defArgs st) (defBody st) (defScope st) .none kV doc pm an cdv ct) ⟨us, []⟩ = pure (ps.zip us))
    (hbody : ∀ (cdv : Value) (A : Around) (outer : List Env) (s : Shared) (H : Hp) (vs : List V) (Q : VK) (E : XK), Room k (A.deeper (envOfC qual (defScope st) s.heap.objs.size f cdv)) → sp vs H Q E →
      ∃ t, PSs (cxOf CX0 P w K mg base N qual (defScope st) f cdv A outer s H E).nox (defBody st) t ∧ t { nx := fun _ H' => Q .non H', rt := Q } (start N vs) H) : Ok P w K mg base (k + 1) f sp := by
  obtain ⟨fd, F⟩ := F
  exact ⟨⟨fd, ps, cx0_up (F.ok S len hbody), F.binds hbind⟩, F.kp⟩
/-- from the text: it may raise -/
theorem ok_mkX {x qual : Str} {st : Stmt} {f : Addr} {N ps : List Str} {k : Nat} {sp : Sp} (F : ∃ fd, Fun K x qual st f fd) (S : FnScope N ps (defScope st)) (len : ∀ vs H Q E, sp vs H Q E → vs.length = ps.length)
    (hbind : ∀ (kV doc pm : Value) (an : Option Addr) (cdv ct : Value) (us : List Value), us.length = ps.length → bindArgs (PySem.W.fnOf x qual (defArgs st) (defBody st) (defScope st) .none kV doc pm an cdv ct) ⟨us, []⟩ = pure (ps.zip us))
    (hbody : ∀ (cdv : Value) (A : Around) (outer : List Env) (s : Shared) (H : Hp) (vs : List V) (Q : VK) (E : XK), Room k (A.deeper (envOfC qual (defScope st) s.heap.objs.size f cdv)) → sp vs H Q E →
      ∃ t, PSs (cxOf (L2.CX P w) P w K mg base N qual (defScope st) f cdv A outer s H E) (defBody st) t ∧ t { nx := fun _ H' => Q .non H', rt := Q } (start N vs) H) : Ok P w K mg base (k + 1) f sp := by
  obtain ⟨fd, F⟩ := F
  exact ⟨⟨fd, ps, F.okX S len hbody, F.binds hbind⟩, F.kp⟩
theorem Ok.mono {j k : Nat} {f : Addr} {sp : Sp} (c : Ok P w K mg base j f sp) (h : j ≤ k) : Ok P w K mg base k f sp := by
  obtain ⟨⟨fd, ps, F, B⟩, kp⟩ := c
  exact ⟨⟨fd, ps, F.mono h, B⟩, kp⟩
theorem Ok.imp {k : Nat} {f : Addr} {sp sp' : Sp} (c : Ok P w K mg base k f sp) (h : ∀ vs H Q E, sp' vs H Q E → sp vs H Q E) : Ok P w K mg base k f sp' := by
  obtain ⟨⟨fd, ps, F, B⟩, kp⟩ := c
  exact ⟨⟨fd, ps, F.imp h, B⟩, kp⟩
end
section
variable {X : Cx} {k j : Nat} {f C p g : Addr} {sp : Sp} {E : XK} {x m : Str} {pos ppos apos : Pos} {e o fe : Expr} {es : List Expr} {ta tf te : TE} {t : TA}
/-- somewhere with room below X: what a call of it hands back -/
theorem Ok.run_at {A : Around} {pins : List (Addr × Obj)} {σ : L2.St} {H : Hp} {s : Shared} {Q : VK} {us : List Value} {vs : List V} (c : Ok X.prog X.w X.K X.mg X.base k f sp) (hr : Room k A) (hf : A.frames = X.A.frames) (hx : Passes (L2.CX X.prog X.w) X E)
    (I : Inv X pins σ H s) (r : Vals vs us) (h : sp vs H Q E) : wpAny (model X.prog X.w) A (call (.ref f) us) (EP X pins σ Q) X.xe s := by
  obtain ⟨⟨fd, ps, F, B⟩, kp⟩ := c
  have hl : us.length = ps.length := by rw [← r.length]; exact F.len _ _ _ _ h
  have b := B s us I.kIn (by rw [List.append_nil]; exact hl)
  rw [List.append_nil] at b
  have e0 : Env0 X.prog X.w X.K X.mg X.base A X.stack s H := by
    have e := I.env0
    exact ⟨by rw [hf]; exact e.frames, e.mod, e.bs, e.bsz, e.funs, e.frf, e.hok, e.bare⟩
  refine wpAny_call (codeAny_mono (F.run A X.stack s H ⟨us, []⟩ us vs Q E hr e0 b r h) fun r s' hq => ?_)
  cases r with
  | error e => exact hx pins σ H s e s' I hq
  | ok fl =>
    cases fl with
    | ret u => exact I.after hq
    | next => exact False.elim hq
    | brk => exact False.elim hq
    | cont => exact False.elim hq
theorem Ok.run {pins : List (Addr × Obj)} {σ : L2.St} {H : Hp} {s : Shared} {Q : VK} {us : List Value} {vs : List V} (c : Ok X.prog X.w X.K X.mg X.base k f sp) (hr : Room k X.A) (hx : Passes (L2.CX X.prog X.w) X E)
    (I : Inv X pins σ H s) (r : Vals vs us) (h : sp vs H Q E) : wpAny (model X.prog X.w) X.A (call (.ref f) us) (EP X pins σ Q) X.xe s := c.run_at hr rfl hx I r h
/-- a call's reading -/
def tFn (sp : Sp) (E : XK) (t : TA) : TE := fun σ H Q => t σ H fun vs H1 => sp vs H1 Q E
/-- f(e, ..) -/
theorem pe_fnX (c : Ok X.prog X.w X.K X.mg X.base k f sp) (hr : Room j X.A) (hm : X.mg x = some (.ref f)) (hx : Passes (L2.CX X.prog X.w) X E) (ha : PA X (e :: es) t) (hk : k ≤ j := by decide) (hg : Gl X x := by rfl)
    (hdb : (x == ("__debug__" : Str)) = false := by decide) (he : starEach (e :: es) X.env = (false, eval e X.env) :: starEach es X.env := by rfl) (hpl : (backTo pos (starEach es X.env)).any (·.1) = false := by rfl) :
    PE X (.Call (.Name x ppos) (e :: es) [] pos) (tFn sp E t) := by
  refine ⟨fun pins s σ H Q I h => ?_⟩
  refine wpAny_Call_Name_kw (ld_glob I hg hm ?_ hdb)
  refine PySem.W.callWith_K (h₀ := X.base) I.ok.mod.kin c.kp (thn (ha.run pos pins s σ H _ I h) fun us s1 ⟨vs, H1, I1, r, q⟩ => ⟨I1.kIn, ?_⟩) he hpl
  exact c.run (hr.mono hk) hx I1 r q
theorem pe_fn (c : Ok X.prog X.w X.K X.mg X.base k f sp) (hr : Room j X.A) (hm : X.mg x = some (.ref f)) (ha : PA X (e :: es) t) (hk : k ≤ j := by decide) (hg : Gl X x := by rfl)
    (hdb : (x == ("__debug__" : Str)) = false := by decide) (he : starEach (e :: es) X.env = (false, eval e X.env) :: starEach es X.env := by rfl) (hpl : (backTo pos (starEach es X.env)).any (·.1) = false := by rfl) :
    PE X (.Call (.Name x ppos) (e :: es) [] pos) (tFn sp E0 t) := pe_fnX c hr hm passL ha hk hg hdb he hpl
/-- o.m(e, ..) -/
def tMe (C : Addr) (m : Str) (sp : Sp) (E : XK) (ta : TE) (t : TA) : TE := fun σ H Q => ta σ H fun x H1 => ∃ a dx fs, x = .ref a ∧ H1 a = some (.ins C dx fs) ∧ fs.lookup m = none ∧ t σ H1 fun vs H2 => sp (x :: vs) H2 Q E
theorem pe_meX {pl : Sem Bool} (cl : Cls X.K C) (hm : Meth X.K C m f) (c : Ok X.prog X.w X.K X.mg X.base k f sp) (hr : Room j X.A) (hx : Passes (L2.CX X.prog X.w) X E) (he : PE X o ta) (ha : PA X (e :: es) t) (hk : k ≤ j := by decide)
    (hst : starEach (e :: es) X.env = (false, eval e X.env) :: starEach es X.env := by rfl) (hpl : (backTo pos (starEach es X.env)).any (·.1) = false := by rfl)
    (ht : eval (.Call (.Attribute o m apos) (e :: es) [] pos) X.env = (do
      let ov ← eval o X.env
      standAt apos.atName
      let (f, first) ← holding [ov] (getMethod ov m pl)
      callWith pos f first (backTo pos (starEach (e :: es) X.env)) (backToKw pos (keywordEach [] X.env))) := by rfl) :
    PE X (.Call (.Attribute o m apos) (e :: es) [] pos) (tMe C m sp E ta t) := by
  obtain ⟨⟨fd, ps, F, B⟩, kp⟩ := id c
  have h0 := pe_meth (pl := pl) (pos := pos) (dvs := []) he cl hm F (hr.mono hk) B .nil hx ha hst hpl ht
  refine ⟨fun pins s σ H Q I h => h0.run pins s σ H Q I ?_⟩
  have e1 : ∀ (x : V) (vs : List V), sp (x :: (vs ++ [])) = sp (x :: vs) := fun x vs => by rw [List.append_nil]
  simpa only [tMeth, tMe, e1] using h
theorem pe_me {pl : Sem Bool} (cl : Cls X.K C) (hm : Meth X.K C m f) (c : Ok X.prog X.w X.K X.mg X.base k f sp) (hr : Room j X.A) (he : PE X o ta) (ha : PA X (e :: es) t) (hk : k ≤ j := by decide)
    (hst : starEach (e :: es) X.env = (false, eval e X.env) :: starEach es X.env := by rfl) (hpl : (backTo pos (starEach es X.env)).any (·.1) = false := by rfl)
    (ht : eval (.Call (.Attribute o m apos) (e :: es) [] pos) X.env = (do
      let ov ← eval o X.env
      standAt apos.atName
      let (f, first) ← holding [ov] (getMethod ov m pl)
      callWith pos f first (backTo pos (starEach (e :: es) X.env)) (backToKw pos (keywordEach [] X.env))) := by rfl) :
    PE X (.Call (.Attribute o m apos) (e :: es) [] pos) (tMe C m sp E0 ta t) := pe_meX cl hm c hr passL he ha hk hst hpl ht
/-- o.m() -/
theorem pe_me0X {pl : Sem Bool} (cl : Cls X.K C) (hm : Meth X.K C m f) (c : Ok X.prog X.w X.K X.mg X.base k f sp) (hr : Room j X.A) (hx : Passes (L2.CX X.prog X.w) X E) (he : PE X o ta) (hk : k ≤ j := by decide)
    (ht : eval (.Call (.Attribute o m apos) [] [] pos) X.env = (do
      let ov ← eval o X.env
      standAt apos.atName
      let (f, first) ← holding [ov] (getMethod ov m pl)
      callWith pos f first (backTo pos (starEach [] X.env)) (backToKw pos (keywordEach [] X.env))) := by rfl) :
    PE X (.Call (.Attribute o m apos) [] [] pos) (tMe C m sp E ta tNil) := by
  obtain ⟨⟨fd, ps, F, B⟩, kp⟩ := id c
  have h0 := pe_meth0 (pl := pl) (pos := pos) (dvs := []) he cl hm F (hr.mono hk) B .nil hx ht
  exact ⟨fun pins s σ H Q I h => h0.run pins s σ H Q I h⟩
theorem pe_me0 {pl : Sem Bool} (cl : Cls X.K C) (hm : Meth X.K C m f) (c : Ok X.prog X.w X.K X.mg X.base k f sp) (hr : Room j X.A) (he : PE X o ta) (hk : k ≤ j := by decide)
    (ht : eval (.Call (.Attribute o m apos) [] [] pos) X.env = (do
      let ov ← eval o X.env
      standAt apos.atName
      let (f, first) ← holding [ov] (getMethod ov m pl)
      callWith pos f first (backTo pos (starEach [] X.env)) (backToKw pos (keywordEach [] X.env))) := by rfl) :
    PE X (.Call (.Attribute o m apos) [] [] pos) (tMe C m sp E0 ta tNil) := pe_me0X cl hm c hr passL he hk ht
/-- e.f, a property -/
def tPr (C : Addr) (sp : Sp) (ta : TE) : TE := fun σ H Q => ta σ H fun x H1 => ∃ a dx fs, x = .ref a ∧ H1 a = some (.ins C dx fs) ∧ sp [.ref a] H1 Q E0
theorem pe_pr (cl : Cls X.K C) (hp : PropOf X.K C m p f) (c : Ok X.prog X.w X.K X.mg X.base k f sp) (hr : Room j X.A) (he : PE X e ta) (hk : k + 1 ≤ j := by decide) (hab : attributeBase e m X.env (eval e X.env) = eval e X.env := by rfl) :
    PE X (.Attribute e m pos) (tPr C sp ta) := by
  obtain ⟨⟨fd, ps, F, B⟩, kp⟩ := id c
  exact pe_prop (dvs := []) he cl hp F (hr.mono hk) B .nil passL hab
/-- C(e, ..) -/
def tNew (C : Addr) (sp : Sp) (E : XK) (t : TA) : TE := fun σ H Q => t σ H fun vs H1 => ∀ x dx, H1 x = none → H1 dx = none → dx ≠ x → sp (.ref x :: vs) (upd (upd H1 dx (.own x)) x (.ins C dx [])) (fun v H2 => v = .non ∧ Q (.ref x) H2) E
theorem pe_newX (M : Mk X.K C f) (c : Ok X.prog X.w X.K X.mg X.base k f sp) (hr : Room j X.A) (hm : X.mg x = some (.ref C)) (hx : Passes (L2.CX X.prog X.w) X E) (ha : PA X (e :: es) t) (hk : k + 1 ≤ j := by decide) (hg : Gl X x := by rfl)
    (hdb : (x == ("__debug__" : Str)) = false := by decide) (he : starEach (e :: es) X.env = (false, eval e X.env) :: starEach es X.env := by rfl) (hpl : (backTo pos (starEach es X.env)).any (·.1) = false := by rfl) :
    PE X (.Call (.Name x ppos) (e :: es) [] pos) (tNew C sp E t) := by
  obtain ⟨⟨fd, ps, F, B⟩, kp⟩ := id c
  have h0 := pe_make (pos := pos) (p := ppos) (dvs := []) M F (hr.mono hk) hg hm B .nil hx ha hdb he hpl
  refine ⟨fun pins s σ H Q I h => h0.run pins s σ H Q I ?_⟩
  have e1 : ∀ (x : V) (vs : List V), sp (x :: (vs ++ [])) = sp (x :: vs) := fun x vs => by rw [List.append_nil]
  simpa only [tMake, tNew, e1] using h
theorem pe_new (M : Mk X.K C f) (c : Ok X.prog X.w X.K X.mg X.base k f sp) (hr : Room j X.A) (hm : X.mg x = some (.ref C)) (ha : PA X (e :: es) t) (hk : k + 1 ≤ j := by decide) (hg : Gl X x := by rfl)
    (hdb : (x == ("__debug__" : Str)) = false := by decide) (he : starEach (e :: es) X.env = (false, eval e X.env) :: starEach es X.env := by rfl) (hpl : (backTo pos (starEach es X.env)).any (·.1) = false := by rfl) :
    PE X (.Call (.Name x ppos) (e :: es) [] pos) (tNew C sp E0 t) := pe_newX M c hr hm passL ha hk hg hdb he hpl
/-- x(e), x an instance -/
theorem Ok.fnR {P : Program} {w : World} {K : PySem.W.Frag} {mg : Str → Option Value} {base : Heap} (c : Ok P w K mg base k f sp) : FnR P w K mg base (L2.CX P w) k f sp := by
  obtain ⟨⟨fd, ps, F, B⟩, kp⟩ := c
  intro A outer s H us vs Q E hr e0 r h
  have hl : us.length = ps.length := by rw [← r.length]; exact F.len _ _ _ _ h
  have b := B s us (e0.mod.kin.keeps fun b o e => (e0.bs b o e).1) (by rw [List.append_nil]; exact hl)
  rw [List.append_nil] at b
  exact F.run A outer s H ⟨us, []⟩ us vs Q E hr e0 b r h
theorem pe_obX (c0 : StX.CallO X.K C f) (c : Ok X.prog X.w X.K X.mg X.base k f sp) (hr : Room j X.A) (hx : Passes (L2.CX X.prog X.w) X E) (hf : PE X fe tf) (ha : PA X (e :: es) t) (hk : k ≤ j := by decide)
    (ht : eval (.Call fe (e :: es) [] pos) X.env = (do callWith pos (← eval fe X.env) [] (backTo pos (starEach (e :: es) X.env)) (backToKw pos (keywordEach [] X.env))) := by rfl)
    (he : starEach (e :: es) X.env = (false, eval e X.env) :: starEach es X.env := by rfl) (hpl : (backTo pos (starEach es X.env)).any (·.1) = false := by rfl) : PE X (.Call fe (e :: es) [] pos) (StX.tCallO X C sp E tf t) :=
  StX.pe_callO (pos := pos) hf c0 c.fnR (hr.mono hk) hx ha ht he hpl
theorem pe_ob (c0 : StX.CallO X.K C f) (c : Ok X.prog X.w X.K X.mg X.base k f sp) (hr : Room j X.A) (hf : PE X fe tf) (ha : PA X (e :: es) t) (hk : k ≤ j := by decide)
    (ht : eval (.Call fe (e :: es) [] pos) X.env = (do callWith pos (← eval fe X.env) [] (backTo pos (starEach (e :: es) X.env)) (backToKw pos (keywordEach [] X.env))) := by rfl)
    (he : starEach (e :: es) X.env = (false, eval e X.env) :: starEach es X.env := by rfl) (hpl : (backTo pos (starEach es X.env)).any (·.1) = false := by rfl) : PE X (.Call fe (e :: es) [] pos) (StX.tCallO X C sp E0 tf t) :=
  pe_obX c0 c hr passL hf ha hk ht he hpl
/-! ### own operators -/
/-- x + y, both of the class at C with its own __add__ -/
def rOwn2 (C : Addr) (sp : Sp) : R2 := fun x y H Q => ∃ a b dx dy fs gs, x = .ref a ∧ y = .ref b ∧ H a = some (.ins C dx fs) ∧ H b = some (.ins C dy gs) ∧ sp [.ref a, .ref b] H Q E0
theorem cmpBack_of {X : Cx} {pins : List (Addr × Obj)} {σ : L2.St} {Q : VK} {u : Value} {s' : Shared} (h : EP X pins σ Q u s') : PySem.W.CmpBack (EP X pins σ Q) u s' := by
  obtain ⟨v, H', I', r, q⟩ := h
  cases v with
  | non => cases r; exact ⟨.non, H', I', rfl, q⟩
  | bl b => cases r; exact ⟨.bl b, H', I', rfl, q⟩
  | int i => obtain ⟨t, rfl⟩ := r; exact ⟨.int i, H', I', ⟨t, rfl⟩, q⟩
  | str i => obtain ⟨t, rfl⟩ := r; exact ⟨.str i, H', I', ⟨t, rfl⟩, q⟩
  | byt i => obtain ⟨t, rfl⟩ := r; exact ⟨.byt i, H', I', ⟨t, rfl⟩, q⟩
  | flt i => obtain ⟨t, rfl⟩ := r; exact ⟨.flt i, H', I', ⟨t, rfl⟩, q⟩
  | ref a => cases r; exact ⟨.ref a, H', I', rfl, q⟩
  | ty n => cases r; exact ⟨.ty n, H', I', rfl, q⟩
theorem op_own {op : Operator} (sf : PySem.W.selfFirst X.K C = true) (hm : Meth X.K C (PySem.dunder op.info.2) f) (c : Ok X.prog X.w X.K X.mg X.base k f sp) (hr : Room j X.A) (hk : k ≤ j := by decide) : OpR X (binaryOp op) (rOwn2 C sp) := by
  intro pins s σ H x y u v Q I rx ry h
  obtain ⟨a, b, dx, dy, fs, gs, rfl, rfl, ha, hb, hs⟩ := h
  cases rx
  cases ry
  obtain ⟨mA, J, _⟩ := ins_get I.hok ha
  obtain ⟨mB, J', _⟩ := ins_get I.hok hb
  obtain ⟨od, J, _⟩ := J.look
  obtain ⟨od', J', _⟩ := J'.look
  obtain ⟨m, hF⟩ := I.fr
  refine PySem.W.binop_K hF I.ok.mod.kin J J'.type sf hm.at_ hm.fn ?_
  exact thn (c.run (vs := [.ref a, .ref b]) (hr.mono hk) passL I (.cons rfl (.cons rfl .nil)) hs) fun v s' h => cmpBack_of h
/-- ~x -/
def rOwn1 (C : Addr) (sp : Sp) : V → Hp → VK → Prop := fun x H Q => ∃ a dx fs, x = .ref a ∧ H a = some (.ins C dx fs) ∧ sp [.ref a] H Q E0
theorem un_ownInv (hm : Meth X.K C "__invert__" f) (c : Ok X.prog X.w X.K X.mg X.base k f sp) (hr : Room j X.A) (hk : k ≤ j := by decide) : UnR X (unaryOp .Invert) (rOwn1 C sp) := by
  intro pins s σ H x u Q I rx h
  obtain ⟨a, dx, fs, rfl, ha, hs⟩ := h
  cases rx
  obtain ⟨mA, J, _⟩ := ins_get I.hok ha
  obtain ⟨od, J, _⟩ := J.look
  obtain ⟨m, hF⟩ := I.fr
  exact PySem.W.ksp_inv hF I.ok.mod.kin J hm.at_ hm.fn (c.run (vs := [.ref a]) (hr.mono hk) passL I (.cons rfl .nil) hs)
/-- x += y -/
def rOwnI (C : Addr) (sp : Sp) (E : XK) : R2 := fun x y H Q => ∃ a dx fs, x = .ref a ∧ H a = some (.ins C dx fs) ∧ sp [.ref a, y] H Q E
theorem iop_own {op : Operator} (sf : PySem.W.selfFirst X.K C = true) (hs0 : PySem.W.findIn X.K (.ref C) (dunderI op.info.2) = some (some (.ref f))) (hf : PySem.W.isFn X.K (.ref f) = true) (c : Ok X.prog X.w X.K X.mg X.base k f sp) (hr : Room j X.A)
    (hx : Passes (L2.CX X.prog X.w) X E) (hk : k ≤ j := by decide) : OpR X (inplaceOp op) (rOwnI C sp E) := by
  intro pins s σ H x y u v Q I rx ry h
  obtain ⟨a, dx, fs, rfl, ha, hs⟩ := h
  cases rx
  obtain ⟨mA, J, _⟩ := ins_get I.hok ha
  obtain ⟨od, J, _⟩ := J.look
  obtain ⟨m, hF⟩ := I.fr
  refine PySem.W.ksp_inplace hF I.ok.mod.kin J sf hs0 hf ?_
  exact thn (c.run (vs := [.ref a, y]) (hr.mono hk) hx I (.cons rfl (.cons ry .nil)) hs) fun v s' h => cmpBack_of h
/-- x == y by the own == of x's class -/
theorem op_ownEq (hm : Meth X.K C "__eq__" f) (c : Ok X.prog X.w X.K X.mg X.base k f sp) (hr : Room j X.A) (hk : k ≤ j := by decide) : OpR X (compareOp .Eq) (rOwn2 C sp) := by
  intro pins s σ H x y u v Q I rx ry h
  obtain ⟨a, b, dx, dy, fs, gs, rfl, rfl, ha, hb, hs⟩ := h
  cases rx
  cases ry
  obtain ⟨mA, J, _⟩ := ins_get I.hok ha
  obtain ⟨mB, J', _⟩ := ins_get I.hok hb
  obtain ⟨od, J, _⟩ := J.look
  obtain ⟨od', J', _⟩ := J'.look
  obtain ⟨m, hF⟩ := I.fr
  show wpAny _ _ (richCompare .Eq _ _) _ _ _
  refine PySem.W.cmp_K (op := .Eq) (tb := .ref C) (hr.mono hk).units0 hF I.ok.mod.kin J J'.type (by simp [PySem.W.notFirst]) hm.at_ hm.fn ?_
  exact thn (c.run (vs := [.ref a, .ref b]) (hr.mono hk) passL I (.cons rfl (.cons rfl .nil)) hs) fun v s' h => cmpBack_of h
/-- len(x) -/
def rOwnLen (C : Addr) (sp : Sp) : List V → Hp → VK → Prop := fun vs H Q => ∃ a dx fs, vs = [.ref a] ∧ H a = some (.ins C dx fs) ∧ sp [.ref a] H (fun v H' => ∃ n : Nat, v = .int n ∧ n ≤ 1000000 ∧ Q (.int n) H') E0
theorem call_ownLen (hm : Meth X.K C "__len__" f) (c : Ok X.prog X.w X.K X.mg X.base k f sp) (hr : Room j X.A) (hk : k + 1 ≤ j := by decide) : CallR X (.builtin "len") (rOwnLen C sp) := by
  intro pins s σ H xs us Q I r h
  obtain ⟨a, dx, fs, rfl, ha, hs⟩ := h
  obtain ⟨u, rfl, ru⟩ := vals1 r
  cases ru
  obtain ⟨mA, J, _⟩ := ins_get I.hok ha
  obtain ⟨od, J, _⟩ := J.look
  obtain ⟨m, hF⟩ := I.fr
  refine PySem.W.len_K hF I.ok.mod.kin J hm.at_ hm.fn ?_
  refine thn (c.run_at (vs := [.ref a]) (hr.mono hk).in1 rfl passL I (.cons rfl .nil) hs) fun v s' h => ?_
  obtain ⟨z, H', I', rz, n, rfl, hn, q⟩ := h
  obtain ⟨t, rfl⟩ := rz
  have p63 : (2 : Int) ^ 63 = 9223372036854775808 := by decide
  refine ⟨⟨by omega, by rw [p63]; omega⟩, ⟨.int n, H', I'.tok _, ⟨_, rfl⟩, q⟩⟩
end
end Tcf

set_option Elab.async false
set_option linter.all false
set_option maxRecDepth 100000
set_option maxHeartbeats 4000000
/-! RU2: match over texts, xs[i] += n, min of pairs, s[::-1], s * n, == of lists of the same objects, != by the own ==. -/
namespace Tcf
open PySem PySem.Spec PyProof.Rows L2
section
variable {X : Cx}
/-! ### match over written texts -/
structure PM (X : Cx) (cs : List MatchCase) (tc : V → TS) : Prop where
  run : ∀ (pins : List (Addr × Obj)) (s : Shared) (σ : L2.St) (H : Hp) (D : Ends) (v : V) (u : Value) (first : Bool), Inv X pins σ H s → RelV v u → tc v D σ H → wpAny (model X.prog X.w) X.A (matchCases cs X.env u first) (SP X pins D) X.xe s
theorem pm_rest {body : List Stmt} {tb : TS} {p : Pos} (hb : PSs X body tb) : PM X [⟨.MatchAs none none p, none, body⟩] (fun _ => tb) := by
  refine ⟨fun pins s σ H D v u first I r h => ?_⟩
  refine wpAny_matchCases_cons (wpAny_matchPattern_Capture ?_)
  exact wpAny_assignInOrder_none (hb.run pins s σ H D I h)
def tCase (z : Str) (tb : TS) (tr : V → TS) : V → TS := fun v D σ H => ∃ y, v = .str y ∧ if decide (y = z) = true then tb D σ H else tr v D σ H
theorem pm_str {body : List Stmt} {rest : List MatchCase} {tb : TS} {tr : V → TS} {z : Str} {j : Nat} {p1 p2 : Pos} (hb : PSs X body tb) (hr : PM X rest tr) : PM X (⟨.MatchValue (.Constant (.str z) j p1) p2, none, body⟩ :: rest) (tCase z tb tr) := by
  refine ⟨fun pins s σ H D v u first I r h => ?_⟩
  obtain ⟨y, rfl, h⟩ := h
  obtain ⟨t, rfl⟩ := id r
  have hc : PE X (.Constant (.str z) j p1) (tC (.str z)) := pe_str
  refine wpAny_matchCases_cons (wpAny_matchPattern_Value (thn (hc.run pins s σ H (fun x H1 => x = .str z ∧ H1 = H) I ⟨rfl, rfl⟩) fun x s1 hx => ?_))
  obtain ⟨x', H1, I1, r1, rfl, rfl⟩ := hx
  refine thn (op_eq pins s1 σ H1 (.str y) (.str z) _ x (fun c H2 => c = .bl (decide (V.str y = V.str z)) ∧ H2 = H1) I1 r r1 ⟨rfl, rfl, rfl⟩) fun c s2 hc2 => ?_
  obtain ⟨c', H2, I2, r2, rfl, rfl⟩ := hc2
  cases r2
  refine wpAny_truthy_bool ?_
  by_cases e : y = z
  · subst e
    rw [if_pos (by simp)] at h ⊢
    exact wpAny_assignInOrder_none (hb.run pins s2 σ H2 D I2 h)
  · rw [if_neg (by simp [e])] at h ⊢
    exact hr.run pins s2 σ H2 D (.str y) _ false I2 r h
def tMatch (te : TE) (tc : V → TS) : TS := fun D σ H => te σ H fun v H1 => tc v D σ H1
theorem ps_match {e : Expr} {cs : List MatchCase} {te : TE} {tc : V → TS} {pos : Pos} (he : PE X e te) (hc : PM X cs tc) : PS X (.Match e cs pos) (tMatch te tc) := by
  refine ⟨fun pins s σ H D I h => ?_⟩
  exact wpAny_Match (thn (he.run pins s σ H _ I h) fun u s1 ⟨v, H1, I1, r, q⟩ => hc.run pins s1 σ H1 D v u true I1 r q)
/-! ### xs[i], as a value got by an operator: for xs[i] += n -/
def rGetL (K : PySem.W.Frag) : V → V → Hp → VK → Prop := fun x y H Q => ∃ p xs i z, x = .ref p ∧ y = .int i ∧ SqL K H p xs ∧ atI xs i = some z ∧ Q z H
theorem get_list : PGet X (rGetL X.K) := by
  intro pins s σ H o i ov iv Q I ro ri h
  obtain ⟨p, xs, k, z, rfl, rfl, hq, he, q⟩ := h
  cases ro
  obtain ⟨t, rfl⟩ := ri
  obtain ⟨its, r, pl, hz⟩ := I.list hq
  obtain ⟨j, h1, h2, h3, h4, h5⟩ := atI_get he
  obtain ⟨w, ew, rw'⟩ := r.get h2
  have hl := r.length
  have hn := line63
  have fin : EP X pins σ Q w s := ⟨z, H, I, rw', q⟩
  by_cases h0 : 0 ≤ k
  · have hj : k.toNat = j := by
      rw [seqIndex_of h0 h5] at h1
      exact Option.some.inj h1
    exact wpAny_getItem_list pl.isList h0 (by omega) (by rw [hj]; simpa using ew) fin
  · have hj : (k + (its.toArray.size : Int)).toNat = j := by
      rw [seqIndex_neg (by omega) h4] at h1
      rw [List.size_toArray, ← hl]
      exact Option.some.inj h1
    exact wpAny_getItem_list_neg pl.isList (by omega) (by rw [List.size_toArray] <;> omega) (by omega) (by rw [hj]; simpa using ew) fin
/-! ### s[::-1] of a short text -/
abbrev S (l : List Nat) : Str := ⟨l.toArray⟩
theorem back_idx (n : Nat) (h : n ≤ 7) : Builtin.Str.strSliceIndices none none (-1) n = (List.range n).reverse := by
  have : n = 0 ∨ n = 1 ∨ n = 2 ∨ n = 3 ∨ n = 4 ∨ n = 5 ∨ n = 6 ∨ n = 7 := by omega
  rcases this with rfl | rfl | rfl | rfl | rfl | rfl | rfl | rfl <;> decide +kernel
theorem pick_back : ∀ l : List Nat, l.length ≤ 7 → (List.range l.length).reverse.filterMap (l.toArray[·]?) = l.reverse
  | [], _ => rfl
  | [_], _ => rfl
  | [_, _], _ => rfl
  | [_, _, _], _ => rfl
  | [_, _, _, _], _ => rfl
  | [_, _, _, _, _], _ => rfl
  | [_, _, _, _, _, _], _ => rfl
  | [_, _, _, _, _, _, _], _ => rfl
  | _ :: _ :: _ :: _ :: _ :: _ :: _ :: _ :: _, h => absurd h (by simp only [List.length_cons]; omega)
def tRevS (te : TE) : TE := fun σ H Q => te σ H fun x H1 => ∃ l : List Nat, x = .str (S l) ∧ l.length ≤ 7 ∧ Q (.str (S l.reverse)) H1
theorem pe_revS {e : Expr} {te : TE} {k : Nat} {p1 p2 p3 pos : Pos} (he : PE X e te) (ht : ∀ o r, letTemporaryGo e o r = pure () := by intro _ _; rfl) :
    PE X (.Subscript e (.Slice none none (some (.UnaryOp .USub (.Constant (.int 1) k p1) p2)) p3) pos) (tRevS te) := by
  refine ⟨fun pins s σ H Q I h => ?_⟩
  refine PyProof.Rows.Subscript_ (thn (he.run pins s σ H _ I h) fun v s1 ⟨x, H1, I1, r1, q1⟩ => ?_)
  obtain ⟨l, rfl, hl, q⟩ := q1
  obtain ⟨t, rfl⟩ := r1
  have hst : PO X (some (.UnaryOp .USub (.Constant (.int 1) k p1) p2)) (tPart (tUn (rU fun i => .int (-i)) (tC (.int 1)))) := po_some (pe_un un_neg pe_int)
  refine wpAny_Slice (thn (po_none.run pins s1 σ H1 (fun o H2 => o = none ∧ H2 = H1) I1 ⟨rfl, rfl⟩) fun vl s2 ⟨lo, H2, I2, pl, el, e2⟩ => ?_)
  subst el e2
  refine thn (po_none.run pins s2 σ H2 (fun o H3 => o = none ∧ H3 = H2) I2 ⟨rfl, rfl⟩) fun vu s3 ⟨u, H3, I3, pu, eu, e3⟩ => ?_
  subst eu e3
  refine thn (hst.run pins s3 σ H3 (fun o H4 => o = some (-1) ∧ H4 = H3) I3 ⟨1, rfl, -1, rfl, rfl, rfl⟩) fun vs s4 ⟨o, H4, I4, ps, eo, e4⟩ => ?_
  subst eo e4
  have I5 : Inv X pins σ H4 { s4 with heap := s4.heap.push { cls := .type "slice", data := .fields #[vl, vu, vs] } } := I4.kept (t' := s4.toks) fun b ob q => Heap.get?_push_of_some _ q
  obtain ⟨l0, rfl, el⟩ := IsPart.raw pl
  obtain ⟨u0, rfl, eu⟩ := IsPart.raw pu
  obtain ⟨w0, rfl, ew⟩ := IsPart.raw ps
  have el' : l0 = none := by cases l0 with | none => rfl | some _ => cases el
  have eu' : u0 = none := by cases u0 with | none => rfl | some _ => cases eu
  subst el' eu'
  obtain ⟨p0, rfl⟩ : ∃ p0, w0 = some p0 := by cases w0 with | none => cases ew | some p0 => exact ⟨p0, rfl⟩
  have ew' : p0.1 = -1 := Option.some.inj (show some p0.1 = some (-1 : Int) from ew)
  show wpAny (model X.prog X.w) X.A (subscriptTail e (.Slice none none (some (.UnaryOp .USub (.Constant (.int 1) k p1) p2)) p3) (.str (S l) t) (.ref s4.heap.objs.size)) (EP X pins σ Q) X.xe _
  refine PyProof.Rows.tail_any (ops := [.str (S l) t, .ref s4.heap.objs.size]) (typeIs_str _ _ _) F.slot_str_getitem.lookup ?_ (by with_unfolding_all rfl)
  refine wpAny_getItem_str_slice (l := none) (u := none) (st := some p0) ⟨_, Heap.get?_push_size _ rfl, rfl, rfl⟩ (by show (p0.1 == 0) = false; rw [ew']; decide) ?_
  have hn : (S l).length = l.length := by simp [Str.length]
  have e : sliceMade (S l) t none none (some p0) = .str (S l.reverse) := by
    unfold sliceMade slicePicked
    show (if (p0.1 == 1 && _) = true then _ else _) = _
    rw [ew', if_neg (by simp)]
    show Made.str ⟨((Builtin.Str.strSliceIndices none none p0.1 (S l).length).filterMap (l.toArray[·]?)).toArray⟩ = _
    rw [ew', hn, back_idx _ hl, pick_back l hl]
  rw [e]
  exact ⟨by rw [show (S l.reverse).length = l.length by simp [Str.length], sizeLine_eq]; omega, ⟨.str (S l.reverse), H4, I5.tok _, ⟨_, rfl⟩, q⟩⟩
/-! ### one sign times a small number -/
def rMulS : R2 := fun x y H Q => ∃ (c : Nat) (n : Int), x = .str (S [c]) ∧ y = .int n ∧ 1 ≤ n ∧ n ≤ 1000 ∧ Q (.str (S (List.replicate n.toNat c))) H
theorem mul_one (c : Nat) : ∀ k : Nat, (List.replicate k (S [c]).cps).foldl (· ++ ·) (#[] : Array Nat) = (List.replicate k c).toArray := by
  have gen : ∀ (k : Nat) (a : Array Nat), (List.replicate k (S [c]).cps).foldl (· ++ ·) a = a ++ (List.replicate k c).toArray := by
    intro k
    induction k with
    | zero => intro a; simp
    | succ k ih =>
      intro a
      rw [List.replicate_succ, List.foldl_cons, ih, List.replicate_succ]
      apply Array.ext'
      simp
  intro k
  rw [gen]
  simp
theorem op_mulS : OpR X (binaryOp .Mult) rMulS := by
  intro pins s σ H x y v u Q I rx ry h
  obtain ⟨c, n, rfl, rfl, h1, h2, q⟩ := h
  obtain ⟨t, rfl⟩ := rx
  obtain ⟨t', rfl⟩ := ry
  have hlen : (S [c]).length = 1 := rfl
  have p63 : (2 : Int) ^ 63 = 9223372036854775808 := by decide
  refine P.mul_str ?_ (fun _ _ => ?_) (fun _ _ => ?_) ?_
  · rw [p63, decide_eq_false (by omega), decide_eq_false (by omega)]; rfl
  · rw [hlen, p63]
    have hd : (1 : Int) ≤ (9223372036854775808 - 1) / n := by
      apply (Int.le_ediv_iff_mul_le (by omega)).mpr
      omega
    omega
  · rw [hlen]
    unfold Builtin.Str.tooLong
    simp only [Nat.one_mul, decide_eq_false_iff_not, gt_iff_lt, Nat.not_lt]
    first
      | (rw [sizeLine_eq]; omega)
      | omega
  · rw [if_neg (by omega)]
    by_cases e1 : n = 1
    · subst e1
      rw [if_pos (by rfl)]
      exact ⟨.str _, H, I, ⟨t, rfl⟩, q⟩
    · rw [if_neg (by rw [hlen]; simp [e1]), mul_one]
      exact ⟨by rw [show (⟨(List.replicate n.toNat c).toArray⟩ : Str).length = n.toNat by simp [Str.length], sizeLine_eq]; omega, ⟨.str (S (List.replicate n.toNat c)), H, I.tok _, ⟨_, rfl⟩, q⟩⟩
/-! ### min of a list of pairs of ints -/
def pLt (a b : Int × Int) : Bool := if a.1 = b.1 then decide (a.2 < b.2) else decide (a.1 < b.1)
def minP (p : Int × Int) (ps : List (Int × Int)) : Int × Int := ps.foldl (fun a y => if pLt y a = true then y else a) p
def PairsAt (K : PySem.W.Frag) (H : Hp) (ts : List Addr) (ps : List (Int × Int)) : Prop := Paired (fun t (p : Int × Int) => SqT K H t [.int p.1, .int p.2]) ts ps
def rMinP (K : PySem.W.Frag) : List V → Hp → VK → Prop := fun vs H Q => ∃ (a : Addr) (ts : List Addr) (p : Int × Int) (ps : List (Int × Int)), vs = [V.ref a] ∧ SqL K H a (ts.map V.ref) ∧ PairsAt K H ts (p :: ps) ∧
  ∀ t, SqT K H t [.int (minP p ps).1, .int (minP p ps).2] → Q (.ref t) H
theorem pairs_reads {pins : List (Addr × Obj)} {s : Shared} {σ : L2.St} {H : Hp} (I : Inv X pins σ H s) : ∀ {ts : List Addr} {ps : List (Int × Int)} {us : List Value}, PairsAt X.K H ts ps → Vals (ts.map V.ref) us → PySem.W.HoldAll s.heap us ps
  | [], _, _, .nil, .nil => ⟨[], .nil⟩
  | t :: ts, p :: ps, _, .cons h r, .cons ru rr => by
    obtain ⟨as, ra⟩ := pairs_reads I r rr
    have hd : Dp X.K H (.ref t) (.tuple [.int p.1, .int p.2]) := .tup h (.cons (.int _) (.cons (.int _) .nil))
    obtain ⟨bs, rb⟩ := Dp.reads I _ _ _ hd ru
    exact ⟨bs ++ as, .cons rb ra⟩
theorem pairs_at {pins : List (Addr × Obj)} {s : Shared} {σ : L2.St} {H : Hp} (I : Inv X pins σ H s) : ∀ {ts : List Addr} {ps : List (Int × Int)} {us : List Value} (i : Nat) (v : Value), PairsAt X.K H ts ps → Vals (ts.map V.ref) us → us[i]? = some v → ∃ t p, v = .ref t ∧ SqT X.K H t [.int p.1, .int p.2] ∧ p ∈ ps
  | [], _, _, i, v, .nil, .nil, e => by simp at e
  | t :: ts, p :: ps, _, 0, v, .cons h r, .cons ru rr, e => by
    cases ru
    simp at e
    subst e
    exact ⟨t, p, rfl, h, List.mem_cons_self⟩
  | t :: ts, p :: ps, _, i + 1, v, .cons h r, .cons ru rr, e => by
    obtain ⟨t', p', e1, e2, e3⟩ := pairs_at I i v r rr (by simpa using e)
    exact ⟨t', p', e1, e2, List.mem_cons_of_mem _ e3⟩
theorem cr_minP (hc : X.calm = true) {k : Nat} (hr : Room k X.A) : CallR X (.builtin "min") (rMinP X.K) := by
  intro pins s σ H xs us Q I r h
  obtain ⟨a, ts, p, ps, rfl, hl, hp, q⟩ := h
  obtain ⟨u, rfl, ru⟩ := vals1 r
  cases ru
  obtain ⟨its, rv, pl, hz⟩ := I.list hl
  refine PySem.W.min_list_datum (x := p) (xs := ps) (I.ok.hd hc) pl.isList ?_ ?_ fun i v h' tk hi hm hk => ?_
  · rw [List.toList_toArray]
    exact pairs_reads I hp rv
  · have := hr.units
    show X.A.units + 1 + PySem.W.Datum.depth (Int × Int) < cLine
    have e : PySem.W.Datum.depth (Int × Int) ≤ 10 := by decide
    omega
  · have I' : Inv X pins σ H { s with heap := h', toks := tk } := I.kept (t' := tk) hk
    have hi' : its[i]? = some v := by simpa using hi
    obtain ⟨t, p', rfl, ht, _⟩ := pairs_at I i v hp rv hi'
    obtain ⟨l, x, y, e1, e2, h1, h2⟩ := PySem.W.pair_of_holds hm
    cases e1
    obtain ⟨its2, rv2, hb, _⟩ := I'.tuple ht
    have e3 : (#[x, y] : Array Value) = its2.toArray := by
      obtain ⟨o1, g1, _, n1, d1⟩ := e2
      obtain ⟨o2, g2, _, n2, d2⟩ := hb
      cases g1.symm.trans g2
      have d3 := d1.symm.trans d2
      injection d3
    have hmin : PySem.W.minOf p ps = minP p ps := rfl
    cases rv2 with
    | cons r1 rr =>
      cases rr with
      | cons r2 rr =>
        cases rr
        obtain ⟨t1, rfl⟩ := r1
        obtain ⟨t2, rfl⟩ := r2
        have e4 : [x, y] = [Value.int p'.1 t1, Value.int p'.2 t2] := by simpa using congrArg Array.toList e3
        cases e4
        rw [hmin] at h1 h2
        have g1 : p'.1 = (minP p ps).1 := by
          obtain ⟨tk1, e⟩ := PySem.W.int_of_holds h1
          injection e
        have g2 : p'.2 = (minP p ps).2 := by
          obtain ⟨tk2, e⟩ := PySem.W.int_of_holds h2
          injection e
        rw [g1, g2] at ht
        exact ⟨.ref t, H, I', rfl, q t ht⟩
end
end Tcf

set_option Elab.async false
set_option linter.all false
set_option maxRecDepth 100000
set_option maxHeartbeats 4000000
/-! RU3: == of lists of objects (the very same items, or other lengths), != by the own == of a class. -/
namespace Tcf
open PySem PySem.Spec PyProof.Rows L2
section
open PySem.SeqAt
open AutoSeq1 (wpAny_loadPart')
variable {prog : Program} {w : World} {A : Around} {R : Result → Shared → Prop}
theorem list_eqLen (l b : Addr) {items items2 : Array Value} {n n2 : Nat} {s : Shared} (h1 : s.heap.get? l = some { cls := .type "list", data := .seq items n }) (h2 : s.heap.get? b = some { cls := .type "list", data := .seq items2 n2 })
    (hn : items.size ≠ items2.size) (fin : R (.ok (.ret (.bool false))) s) :
    wpAny (model prog w) A.in1 (Builtin.«list.__eq__» ⟨[.ref l, .ref b], []⟩) (GQ.FinOf prog w A R) (fun e s' => R (.error e) s') s := by
  have f3 := AutoSeq1.sub_list_list
  have hne : (items.size != items2.size) = true := by simp [hn]
  obtain ⟨hp, g, d, tk, os⟩ := s
  wp_walk using wpAny_loadPart' h1, wpAny_loadPart' h2
  exact fin
end
section
variable {X : Cx}
/-- lists of other lengths -/
def rEqLen (K : PySem.W.Frag) : R2 := fun x y H Q => ∃ a b xs ys, x = .ref a ∧ y = .ref b ∧ H a = some (.lst xs) ∧ H b = some (.lst ys) ∧ xs.length ≠ ys.length ∧ Q (.bl false) H
theorem op_eqLen {k : Nat} (hr : Room k X.A) : OpR X (compareOp .Eq) (rEqLen X.K) := by
  intro pins s σ H x y v u Q I rx ry h
  obtain ⟨a, b, xs, ys, rfl, rfl, ha, hb, hn, q⟩ := h
  cases rx
  cases ry
  obtain ⟨_, its, n, r1, e1⟩ := I.hok a _ ha
  obtain ⟨_, its2, n2, r2, e2⟩ := I.hok b _ hb
  show wpAny _ _ (richCompare .Eq _ _) _ _ _
  refine wpAny_richCompare_same_room (op := .Eq) ⟨_, e1, rfl⟩ ⟨_, e2, rfl⟩ F.slot_list_eq (GQ.call_here F.slot_list_eq ⟨_, e1, rfl⟩ F.entry_list_eq (F.args_list_eq_2 _ _) ?_) hr.units0
  refine list_eqLen (R := wants (fun v s' => v ≠ .notImplemented ∧ EP X pins σ Q v s') X.xe) a b e1 e2 ?_ ⟨(fun z => nomatch z), ⟨.bl false, H, I, rfl, q⟩⟩
  rw [List.size_toArray, List.size_toArray, ← r1.length, ← r2.length]
  exact hn
/-- the very same items -/
def DRef : Eqv := fun x y _ => ∃ a, x = .ref a ∧ y = .ref a
theorem mon_ref : Mon DRef := fun _ _ _ _ _ d => d
theorem eqG_ref : EqG X 0 DRef := by
  intro A pins s σ H x y u v sb I rx ry d
  obtain ⟨a, rfl, rfl⟩ := d
  cases rx
  cases ry
  exact SeqAt.EqAt.same (A := A) (s := s) (.ref a) X.prog X.w X.xe _ ⟨rfl, H, I, Ext.rfl'⟩
theorem prs_ref (ts : List Addr) (H : Hp) : Prs DRef (ts.map V.ref) (ts.map V.ref) H := by
  refine ⟨rfl, fun i x y h1 h2 => ?_⟩
  rw [h1] at h2
  cases h2
  rw [List.getElem?_map] at h1
  cases e : ts[i]? with
  | none => rw [e] at h1; cases h1
  | some t => rw [e] at h1; exact ⟨t, (Option.some.inj h1).symm, (Option.some.inj h1).symm⟩
def rEqRf (K : PySem.W.Frag) : R2 := fun x y H Q => ∃ a b ts, x = .ref a ∧ y = .ref b ∧ H a = some (.lst (List.map V.ref ts)) ∧ H b = some (.lst (List.map V.ref ts)) ∧ ∀ H', Ext H H' → Q (.bl true) H'
theorem op_eqRf {k : Nat} (hr : Room k X.A) (hk : 1 ≤ k := by decide) : OpR X (compareOp .Eq) (rEqRf X.K) := by
  intro pins s σ H x y v u Q I rx ry h
  obtain ⟨a, b, ts, rfl, rfl, ha, hb, q⟩ := h
  exact op_eqG (rcG_list mon_ref eqG_ref) (hr.mono hk) pins s σ H (.ref a) (.ref b) v u Q I rx ry ⟨⟨a, b, _, _, rfl, rfl, ha, hb, prs_ref ts H⟩, q⟩
/-! ### != by the own == -/
theorem ns_some {K : PySem.W.Frag} {h : Heap} {N : Addr} {mN : Str → Option Value} {x : Str} {v : Value} (k : K.In h) (G : h.Ns N mN) (e : PySem.W.nsIn K N x = some (some v)) : mN x = some v := by
  obtain ⟨ob, ents, cnt, hob, hdat, _, look⟩ := G
  unfold PySem.W.nsIn at e
  cases hK : K.lookup N with
  | none => rw [hK] at e; cases e
  | some ok =>
    rw [hK] at e
    have same : ok = ob := Option.some.inj ((k _ _ hK).symm.trans hob)
    subst same
    obtain ⟨c0, d0, dt0, s0⟩ := ok
    dsimp only at hdat
    subst hdat
    dsimp only at e
    split at e
    · rename_i en hen
      rw [← look]
      unfold nsFind findBy
      rw [← Array.find?_toList, hen]
      exact Option.some.inj e
    · split at e <;> cases e
theorem neIn_ok {K : PySem.W.Frag} {h : Heap} {C f x : Addr} (k : K.In h) (e : neIn K C f = true) (hf : PySem.W.isFn K (.ref f) = true) (hlk : ∃ o, K.lookup f = some o) {o : Obj} (hx : h.get? x = some o) (hc : o.cls = .ref C) : h.OwnEqNoNe x C f "object" [.type "object"] := by
  unfold neIn at e
  cases ho : K.lookup C with
  | none => rw [ho] at e; cases e
  | some oc =>
    rw [ho] at e
    obtain ⟨cl, dd, dt, sl⟩ := oc
    split at e
    · rename_i dd' cd sl' hq
      cases hq
      split at e
      · rename_i C' k0 k1 k2 k3 n k5 hm hs
        obtain ⟨e1, e2⟩ := He.ba e
        obtain ⟨e3, e4⟩ := He.ba e2
        obtain ⟨e5, e6⟩ := He.ba e4
        obtain ⟨e7, e8⟩ := He.ba e6
        have hC' : C' = C := beq_iff_eq.mp e1
        subst hC'
        obtain ⟨nm, bs, mro, ns, qn, hd, sn, sub, ab, col, del⟩ := cd
        dsimp only at hm e3 e5 e7 e8
        subst hm
        have hdel : del = false := by simpa using e3
        subst hdel
        have hsl : sl = #[k0, k1, k2, k3, some (.builtin n), k5] := by
          obtain ⟨l⟩ := sl
          simp only at hs
          rw [hs]
        subst hsl
        obtain ⟨of, hlf⟩ := hlk
        have hfn : of.cls = .type "function" := by
          have z : PySem.W.typeIn K (.ref f) = some (.type "function") := beq_iff_eq.mp hf
          simp only [PySem.W.typeIn, hlf] at z
          first
            | exact Option.some.inj z
            | simpa using z
        refine ⟨o, of, nm, qn, ns, bs, hd, sn, sub, ab, col, dd, k0, k1, k2, k3, k5, n, _, some (.builtin "object.__eq__"), hx, hc, k _ _ ho, .of_isNs (PySem.W.isNs_of_in k e5), ?_, k _ _ hlf, hfn, ?_, ?_, ?_⟩
        · exact ns_some k (.of_isNs (PySem.W.isNs_of_in k e5)) (He.eqO_ok e7)
        · rfl
        · rw [typeLookup_type, builtinLookup_eq_fast]; kernel_rfl
        · exact PySem.W.nsMap_none_of_in k e5 (He.eqO_ok e8)
      · cases e
    · cases e
/-- x != y, both of the class at C -/
def rOwnNe (C : Addr) (sp : Sp) : R2 := fun x y H Q => ∃ a b dx dy fs gs, x = .ref a ∧ y = .ref b ∧ H a = some (.ins C dx fs) ∧ H b = some (.ins C dy gs) ∧ sp [.ref a, .ref b] H (fun v H' => ∃ k, v = .bl k ∧ Q (.bl (!k)) H') E0
theorem op_ownNe {C f : Addr} {sp : Sp} {k j : Nat} (hn : neIn X.K C f = true) (hm : Meth X.K C "__eq__" f) (hlk : ∃ o, X.K.lookup f = some o) (c : Ok X.prog X.w X.K X.mg X.base k f sp) (hr : Room j X.A) (hk : k + 1 ≤ j := by decide) : OpR X (compareOp .NotEq) (rOwnNe C sp) := by
  intro pins s σ H x y u v Q I rx ry h
  obtain ⟨a, b, dx, dy, fs, gs, rfl, rfl, ha, hb, hs⟩ := h
  cases rx
  cases ry
  obtain ⟨mA, J, _⟩ := ins_get I.hok ha
  obtain ⟨mB, J', _⟩ := ins_get I.hok hb
  have ea : s.heap.get? a = some (PySem.W.instObj C dx) := J.obj
  have eb : s.heap.get? b = some (PySem.W.instObj C dy) := J'.obj
  have W := neIn_ok I.kIn hn hm.fn hlk ea rfl
  have room := (hr.mono hk)
  obtain ⟨hp, g, d, t, os⟩ := s
  refine compareOp_ne_ownEq F.cmp_object W eb rfl (by have := room.units; omega) ?_
  refine thn (c.run_at (vs := [.ref a, .ref b]) room.in1 rfl passL I (.cons rfl (.cons rfl .nil)) hs) fun r s' h => ?_
  obtain ⟨z, H', I', rz, kk, rfl, q⟩ := h
  cases rz
  exact ⟨kk, rfl, .bl (!kk), H', I', rfl, q⟩
end
end Tcf

set_option Elab.async false
set_option linter.all false
set_option maxRecDepth 100000
set_option maxHeartbeats 4000000
/-! RU4: InvalidPlan(index): an own exception whose __init__ says super().__init__(text) and keeps one field. -/
namespace Tcf
open PySem PySem.Spec PyProof.Rows L2
/-- what the written part says of such a class: fI its __init__ of the body b, with the cell __class__ -/
structure IpC (P : Program) (K : PySem.W.Frag) (C fI : Addr) (nm qual : Str) (st : Stmt) : Prop where
  ini : PySem.W.excInitIn K C He.veBase "ValueError.__new__" = true
  cd : ∃ cd, PySem.W.clsIn K C = some cd ∧ PySem.HandSPX.refsVE cd.mro = true ∧ cd.hasDict = true
  at_ : PySem.W.findIn K (.ref C) "__init__" = some (some (.ref fI))
  tI : PySem.W.typeIn K (.ref fI) = some (.type "function")
  sa : PySem.W.findIn K (.ref C) "__setattr__" = some (some (.builtin "object.__setattr__"))
  exC : PySem.W.subIn K (.ref C) (.type "BaseException") = some true
  tyC : PySem.W.typeIn K (.ref C) = some (.type "type")
  kC : PySem.W.keepIn K (.ref C) = true
  no : PySem.W.findIn K (.ref C) "index" = some none
  fn : ∃ oc od osl kV doc pm an cda ct cc ccl cdd ccs cl cld csl vs file tf, K.lookup fI = some ⟨oc, od, .func (PySem.W.fnX nm qual (defArgs st) (defBody st) (defScope st) [("__class__", cc)] .none kV doc pm an (.ref cda) ct), osl⟩ ∧ PySem.W.codeIn K (.ref cda) qual = true ∧
    K.lookup cda = some ⟨ccl, cdd, .fields vs, ccs⟩ ∧ vs[2]? = some (.str file tf) ∧ ((P.main.file : Str) == file) = true ∧ K.lookup cc = some ⟨cl, cld, .cell (some (.ref C)), csl⟩
  sub : PySem.W.mroIn K C (.ref C) = some true
  top : (P.main.scope.names.lookup ("super" : Str)).isSome = false
  opq : PySem.W.nsIn K cStatics "thirdparty.any" = some none
  sup : PySem.W.ks_superIn K C C "__init__" = some (some (.builtin "ValueError.__init__"))
  subV : PySem.W.subIn K (.ref C) (.type "ValueError") = some true
section
variable {P : Program} {w : World} {A : Around} {K : PySem.W.Frag} {C fI : Addr} {nm qual : Str} {st : Stmt} {hp : Heap} {g : Array GenState} {d : Drawn} {t : Nat} {os : OsState} {R : Result → Shared → Prop}
/-- the bound __init__ called -/
theorem mw_call {u e t0 : Addr} {rest : List Value} {Q : Value → Shared → Prop} {E : Value → Shared → Prop} (KX : K.In hp) (q : PySem.W.excInitIn K C He.veBase "ValueError.__new__" = true)
    (hu : hp.get? u = some (PySem.W.kxs_mw "ValueError.__init__" e)) (he : hp.get? e = some (PySem.HandSPX.excO C t0)) (hz : rest.length ≤ sizeLine)
    (h : ∀ t1 h', (∀ b o, b ≠ e → hp.get? b = some o → h'.get? b = some o) → h'.get? e = some (PySem.HandSPX.excO C t1) → Q .none ⟨h', g, d, t, os⟩) :
    wpAny (model P w) A (call (.ref u) rest) Q E ⟨hp, g, d, t, os⟩ := by
  obtain ⟨nm, N', qn, bs, bm, hdct, sn, sub, ab, col, dd, k0, k1, k2, k3, k5, hC, hT⟩ := PySem.W.excInit_of KX q
  refine wpAny_call (codeAny_of_tree ?_)
  show wpAny _ A.in1 (callAny (.ref u) ⟨rest, []⟩) _ _ _
  simp only [callAny]
  refine wpAny_bind (wpAny_load hu ?_)
  simp only [PySem.W.kxs_mw, show (Value.type "method-wrapper" == Value.type "method" || Value.type "method-wrapper" == Value.type "builtin_function_or_method" || Value.type "method-wrapper" == Value.type "method-wrapper") = true by decide, if_true]
  refine PySem.W.KFB.if_so (by decide) ?_
  refine wpAny_bind (PySem.W.check_bound_init F.excBase_ValueError.toExcCallFacts hC he rfl ?_)
  refine wpAny_bind (wpAny_pure (wpAny_pure ?_))
  refine ⟨plainId_quiet F.excBase_ValueError.init.plain _, codeAny_builtin F.excBase_ValueError.initEntry ?_⟩
  exact PySem.W.exc_init_tree (cls := .ref C) (t0 := t0) (dv := none) (c2 := .none) (c3 := .none) (b4 := .bool false) he hz fun h' k e' _ => h _ h' k e'
/-- C's __init__ called with one value -/
theorem ip_init {e t0 : Addr} {v : Value} {m : Str} {j : Nat} {p0 p1 p2 p3 p4 p5 p6 p7 p8 p9 : Pos} {pl : Env → Sem Bool} (T : IpC P K C fI nm qual st) (mb mg : Str → Option Value)
    (hb : defBody st = [.Expr (.Call (.Attribute (.Call (.Name "super" p0) [] [] p1) "__init__" p2) [.Constant (.str m) j p3] [] p4) p5, .Assign [.Attribute (.Name "self" p6) "index" p7] (.Name "index" p8) p9])
    (hsc : (defScope st).names.lookup ("super" : Str) = some .globalImplicit ∧ (defScope st).names.lookup ("__class__" : Str) = some .free ∧ (defScope st).names.lookup ("self" : Str) = some .local ∧ (defScope st).names.lookup ("index" : Str) = some .local)
    (hk : (defScope st).kind = .function) (hco : (defScope st).isCoroutine = false) (hgen : (defScope st).isGenerator = false) (hcell : ∀ x ∈ (defScope st).names, x.2 ≠ .cell)
    (hpar : ((defArgs st).posonlyargs ++ (defArgs st).args).head?.map (·.arg) = some "self")
    (hbind : ∀ (kV doc pm : Value) (an : Option Addr) (cc : Addr) (cdv ct a b : Value), bindArgs (PySem.W.fnX nm qual (defArgs st) (defBody st) (defScope st) [("__class__", cc)] .none kV doc pm an cdv ct) ⟨[a, b], []⟩ = pure [(("self" : Str), a), (("index" : Str), b)])
    (hs1 : ∀ env : Env, env.scope = defScope st → swapsWith (.Name "index" p8) (some (.Attribute (.Name "self" p6) "index" p7)) p9.line env = pure false)
    (hs2 : ∀ env : Env, env.scope = defScope st → interactive env = false ∧ swapsWith (.Call (.Attribute (.Call (.Name "super" p0) [] [] p1) "__init__" p2) [.Constant (.str m) j p3] [] p4) none p5.line env = pure false)
    (hs3 : ∀ env : Env, env.scope = defScope st → eval (.Call (.Attribute (.Call (.Name "super" p0) [] [] p1) "__init__" p2) [.Constant (.str m) j p3] [] p4) env = (do
      let ov ← attributeBase (.Call (.Name "super" p0) [] [] p1) "__init__" env (eval (.Call (.Name "super" p0) [] [] p1) env)
      standAt p2.atName
      let (f, first) ← holding [ov] (getMethod ov "__init__" (pl env))
      callWith p4 f first (backTo p4 (starEach [.Constant (.str m) j p3] env)) []))
    (KX : K.In hp) (KN : ∀ b o, K.lookup b = some o → b ≠ e) (hroom : A.depth < recursionLimit) (hlim : hp.NoLimit) (hG : hp.Ns mainGlobals mg) (hB : hp.Ns builtinsNs mb) (hmg : mg "super" = none) (hmb : mb "super" = some (.type "super"))
    (he : hp.get? e = some (PySem.HandSPX.excO C t0))
    (h : ∀ h' tk dx t1, (∀ b o, b ≠ e → hp.get? b = some o → h'.get? b = some o) → hp.objs.size ≤ dx → dx ≠ e → h'.get? e = some { cls := .ref C, dict := some dx, data := .fields #[.ref t1, .none, .none, .none, .bool false, .none] } →
      h'.Ns1 dx (fun y => if y = "index" then some v else none) → R (.ok (.ret .none)) ⟨h', g, d, tk, os⟩) :
    codeAny (model P w) A (.call (.ref fI) ⟨[.ref e, v], []⟩) R ⟨hp, g, d, t, os⟩ := by
  obtain ⟨oc, od, osl, kV, doc, pm, an, cda, ct, cc, ccl, cdd, ccs, cl, cld, csl, vs, file, tf, hf, hcd, hcode, hvs, hfile, hcellO⟩ := T.fn
  obtain ⟨cdC, hcdC, hrefs, hdict⟩ := T.cd
  obtain ⟨hsup, hcls, hself, hindex⟩ := hsc
  obtain ⟨ar, har, hara⟩ : ∃ ar, ((defArgs st).posonlyargs ++ (defArgs st).args).head? = some ar ∧ ar.arg = "self" := by
    cases q : ((defArgs st).posonlyargs ++ (defArgs st).args).head? with
    | none => rw [q] at hpar; cases hpar
    | some ar => rw [q] at hpar; exact ⟨ar, rfl, Option.some.inj hpar⟩
  refine ks_codeAny_call_defAt (fd := PySem.W.fnX nm qual (defArgs st) (defBody st) (defScope st) [("__class__", cc)] .none kV doc pm an (.ref cda) ct) (body := defBody st) (binds := [("self", .ref e), ("index", v)])
    hroom (KX _ _ hf) rfl hlim (PySem.W.codeRec_of KX hcd) rfl (.of_eq (hbind kV doc pm an cc (.ref cda) ct (.ref e) v)) hcell ?hloc (fun h₁ hns hk₁ => ?_) hco hgen hk
  case hloc =>
    intro x hx
    rcases List.mem_cons.mp hx with rfl | hx
    · exact hself
    · rcases List.mem_cons.mp hx with rfl | hx
      · exact hindex
      · cases hx
  dsimp only at hns hk₁
  have K1 : K.In h₁ := KX.keeps hk₁
  rw [hb]
  have hscope : (callEnv (PySem.W.fnX nm qual (defArgs st) (defBody st) (defScope st) [("__class__", cc)] .none kV doc pm an (.ref cda) ct) hp.objs.size fI).scope = defScope st := rfl
  have hkind : ∀ x, (callEnv (PySem.W.fnX nm qual (defArgs st) (defBody st) (defScope st) [("__class__", cc)] .none kV doc pm an (.ref cda) ct) hp.objs.size fI).kindOf x = (defScope st).names.lookup x := fun _ => rfl
  have hk' : (callEnv (PySem.W.fnX nm qual (defArgs st) (defBody st) (defScope st) [("__class__", cc)] .none kV doc pm an (.ref cda) ct) hp.objs.size fI).scope.kind = .function := hk
  rw [← hb]
  generalize hEnv : callEnv (PySem.W.fnX nm qual (defArgs st) (defBody st) (defScope st) [("__class__", cc)] .none kV doc pm an (.ref cda) ct) hp.objs.size fI = env at *
  have eg : env.globals = mainGlobals := by rw [← hEnv]; rfl
  have eb : env.builtins = builtinsNs := by rw [← hEnv]; rfl
  have el : env.locals = hp.objs.size := by rw [← hEnv]; rfl
  have ef : env.func = some fI := by rw [← hEnv]; rfl
  have ec : env.code = .ref cda := by rw [← hEnv]; rfl
  have ecl : env.cells.lookup ("__class__" : Str) = some cc := by rw [← hEnv]; rfl
  have he1 := hk₁ _ _ he
  obtain ⟨oD, hD1, hD2⟩ : ∃ oD, h₁.get? C = some oD ∧ oD.data = .cls cdC := by
    unfold PySem.W.clsIn at hcdC
    split at hcdC
    · rename_i c d cd' sl ho
      cases hcdC
      exact ⟨_, K1 _ _ ho, rfl⟩
    · cases hcdC
  have hxC : e ≠ C := by
    rintro rfl
    rw [he1] at hD1
    cases hD1
    cases hD2
  obtain ⟨si1, si2⟩ := hs2 env hscope
  rw [show execs (defBody st) env = execs [.Expr (.Call (.Attribute (.Call (.Name "super" p0) [] [] p1) "__init__" p2) [.Constant (.str m) j p3] [] p4) p5, .Assign [.Attribute (.Name "self" p6) "index" p7] (.Name "index" p8) p9] env by rw [hb]]
  refine ks_wpAt_execs_cons ?_
  refine ks_wpAt_Expr_any ?_ si1 si2
  refine ks_wpAt_MethodCall ?_ (hs3 env hscope)
  refine ks_wpAt_super_base (hkind _ |>.trans hsup) (hkind _ |>.trans hcls) (by decide) ef (K1 _ _ hf) rfl har ec (K1 _ _ hcode) rfl hvs hfile T.top ?_
  refine PySem.W.ks_loadName_global hk' (hkind _ |>.trans hsup) (Calls.loadGlobal_builtin (env := env) (by rw [eg]; exact hG.keeps hk₁) hmg (by rw [eb]; exact hB.keeps hk₁) hmb ⟨rfl, ?_⟩)
  refine wpAny_loadName_free hk' (hkind _ |>.trans hcls) ecl ⟨_, K1 _ _ hcellO, rfl⟩ ?_
  rw [hara]
  refine wpAny_loadName_local hk' (hkind _ |>.trans hself) (by rw [el]; exact hns) (v := .ref e) (by rfl) ?_
  refine ks_wpAny_isType_cls hD1 hD2 ⟨rfl, ?_⟩
  refine ks_wpAny_call_super hD1 hD2 he1 rfl (fun c z => by cases z) (PySem.W.looks_mroIn K1 T.sub) (fun h2 hso k2 => ?_)
  have K2 : K.In h2 := K1.keeps k2
  have IA : PySem.W.InstAt h2 e (PySem.HandSPX.excO C t0) C none := ⟨k2 _ _ he1, rfl, rfl, trivial⟩
  have hsup2 : PySem.W.alongIn K "__init__" ((cdC.mro.dropWhile (· != .ref C)).drop 1) = some (some (.builtin "ValueError.__init__")) := by
    have z := T.sup
    unfold PySem.W.ks_superIn at z
    rw [hcdC] at z
    exact z
  refine PySem.W.kxs_getMethod PySem.W.kxs_ValueError hso (PySem.W.looks_opaque K2 T.opq) (l₀ := cdC.mro) (fun A Q E s k q => wpAny_bind ((PySem.W.looks_clsIn K2 hcdC) A _ E s k (wpAny_pure q))) rfl K2 hsup2
    (IA.type.andThen (PySem.W.looks_subIn K2 T.subV)) hxC (by decide) ?_
  have k3 : ∀ b o, h2.get? b = some o → (h2.push (PySem.W.kxs_mw "ValueError.__init__" e)).get? b = some o := fun b o z => Heap.get?_push_of_some _ z
  have hu : (h2.push (PySem.W.kxs_mw "ValueError.__init__" e)).get? h2.objs.size = some (PySem.W.kxs_mw "ValueError.__init__" e) := Heap.get?_push_at rfl rfl
  refine PySem.W.kxs_callWith (i := "ValueError.__init__") (x := e) (by first | rfl | (show (_ || _) = false; rfl)) ?_
  show wpAny _ _ (evalArgs (.ref h2.objs.size) true ((false, eval (.Constant (.str m) j p3) env) :: []) []) _ _ _
  refine Calls.evalArgs_plain (Calls.spliced_cons ?_)
  refine Calls.Constant_str (Calls.spliced_nil ⟨hu, ?_⟩)
  have k12 : ∀ b o, hp.get? b = some o → (h2.push (PySem.W.kxs_mw "ValueError.__init__" e)).get? b = some o := fun b o z => k3 _ _ (k2 _ _ (hk₁ _ _ z))
  have K3 : K.In (h2.push (PySem.W.kxs_mw "ValueError.__init__" e)) := KX.keeps k12
  refine mw_call K3 T.ini hu (k12 _ _ he) (by show (1 : Nat) ≤ sizeLine; decide) fun t1 h4 k4 he4 => ?_
  have hn4 : h4.Ns hp.objs.size (fun x => [(("self" : Str), Value.ref e), (("index" : Str), v)].reverse.lookup x) := by
    obtain ⟨o, es, ep, z1, z2⟩ := hns
    refine ⟨o, es, ep, k4 _ _ (fun z => ?_) (k3 _ _ (k2 _ _ z1)), z2⟩
    exact absurd (Heap.lt_size he) (by rw [z]; exact Nat.lt_irrefl _)
  have K4 : K.In h4 := fun b o z => k4 b o (KN b o z) (K3 b o z)
  refine wpAt_of_wpAny (wpAny_execs_cons ?_)
  refine plainObj_wpAny_Assign_Attribute ?_ (hs1 env hscope)
  refine wpAny_Name (wpAny_loadName_local hk' (hkind _ |>.trans hindex) (by rw [el]; exact hn4) (v := v) (by rfl) ?_)
  refine wpAny_Name (wpAny_loadName_local hk' (hkind _ |>.trans hself) (by rw [el]; exact hn4) (v := .ref e) (by rfl) ?_)
  refine PySem.W.set_plain K4 (ox := PySem.HandSPX.excO C t1) (od := none) ⟨he4, rfl, rfl, trivial⟩ T.sa ?_
  refine PySem.HandSPX.exc_osa K4 he4 hcdC hrefs hdict T.no (fun h5 tk5 dx k5 dn dne hx5 hns5 => ?_)
  show wpAny _ _ (execs [] env) _ _ _
  refine wpAny_execs_nil ?_
  have sz : hp.objs.size ≤ h4.objs.size := by
    obtain ⟨o, es, ep, z1, _⟩ := hn4
    exact Nat.le_of_lt (Heap.lt_size z1)
  exact h h5 tk5 dx t1 (fun b o z y => k5 b o z (k4 b o z (k12 b o y))) (Nat.le_trans sz dn) dne hx5 hns5
end
/-- C(e): the error's own dict with its index -/
def tMkIp (C : Addr) (te : TE) : L2.St → Hp → XK → Prop := fun σ H Q => te σ H fun v H1 => ∀ d, H1 d = none → Q (.ref C) (some d) (upd H1 d (.xd [("index", v)]))
theorem pmk_ip {X : Cx} {k : Nat} {C fI : Addr} {nm qual x m : Str} {st : Stmt} {e : Expr} {te : TE} {j : Nat} {p pos p0 p1 p2 p3 p4 p5 p6 p7 p8 p9 : Pos} {pl : Env → Sem Bool} (T : IpC X.prog X.K C fI nm qual st) (hr : Room (k + 1) X.A)
    (hb : defBody st = [.Expr (.Call (.Attribute (.Call (.Name "super" p0) [] [] p1) "__init__" p2) [.Constant (.str m) j p3] [] p4) p5, .Assign [.Attribute (.Name "self" p6) "index" p7] (.Name "index" p8) p9])
    (hsc : (defScope st).names.lookup ("super" : Str) = some .globalImplicit ∧ (defScope st).names.lookup ("__class__" : Str) = some .free ∧ (defScope st).names.lookup ("self" : Str) = some .local ∧ (defScope st).names.lookup ("index" : Str) = some .local)
    (hk : (defScope st).kind = .function) (hco : (defScope st).isCoroutine = false) (hgen : (defScope st).isGenerator = false) (hcell : ∀ x ∈ (defScope st).names, x.2 ≠ .cell)
    (hpar : ((defArgs st).posonlyargs ++ (defArgs st).args).head?.map (·.arg) = some "self")
    (hbind : ∀ (kV doc pm : Value) (an : Option Addr) (cc : Addr) (cdv ct a b : Value), bindArgs (PySem.W.fnX nm qual (defArgs st) (defBody st) (defScope st) [("__class__", cc)] .none kV doc pm an cdv ct) ⟨[a, b], []⟩ = pure [(("self" : Str), a), (("index" : Str), b)])
    (hs1 : ∀ env : Env, env.scope = defScope st → swapsWith (.Name "index" p8) (some (.Attribute (.Name "self" p6) "index" p7)) p9.line env = pure false)
    (hs2 : ∀ env : Env, env.scope = defScope st → interactive env = false ∧ swapsWith (.Call (.Attribute (.Call (.Name "super" p0) [] [] p1) "__init__" p2) [.Constant (.str m) j p3] [] p4) none p5.line env = pure false)
    (hs3 : ∀ env : Env, env.scope = defScope st → eval (.Call (.Attribute (.Call (.Name "super" p0) [] [] p1) "__init__" p2) [.Constant (.str m) j p3] [] p4) env = (do
      let ov ← attributeBase (.Call (.Name "super" p0) [] [] p1) "__init__" env (eval (.Call (.Name "super" p0) [] [] p1) env)
      standAt p2.atName
      let (f, first) ← holding [ov] (getMethod ov "__init__" (pl env))
      callWith p4 f first (backTo p4 (starEach [.Constant (.str m) j p3] env)) []))
    (hms : X.mg "super" = none) (hg : Gl X x) (hm : X.mg x = some (.ref C)) (hte : PE X e te)
    (hdb : (x == ("__debug__" : Str)) = false := by decide) (he : starEach (e :: []) X.env = (false, eval e X.env) :: starEach [] X.env := by rfl) (hpl : (backTo pos (starEach [] X.env)).any (·.1) = false := by rfl) :
    PMk X (.Call (.Name x p) (e :: []) [] pos) (tMkIp C te) := by
  intro pins s σ H Q I h
  refine wpAny_Call_Name_kw (ld_glob I hg hm ?_ hdb)
  refine PySem.W.callWith_K (h₀ := X.base) I.ok.mod.kin T.kC (Q := MkP X pins σ Q) ?_ he hpl
  rw [he]
  show wpAny _ _ (spliced ((false, eval e X.env) :: [])) _ _ _
  refine Calls.spliced_cons (thn (hte.run pins s σ H _ I h) fun u s1 ⟨v, H1, I1, ru, q1⟩ => Calls.spliced_nil ⟨I1.kIn, ?_⟩)
  show wpAny _ _ (call (.ref C) [u]) _ _ _
  obtain ⟨nm', N', qn, bs, bm, hdct, sn, sub, ab, col, dd, k0, k1, k2, k3, k5, hC, hT⟩ := PySem.W.excInit_of I1.kIn T.ini
  obtain ⟨hp, g, dr, tk, os⟩ := s1
  have hsz : hp.objs.size ≤ hp.objs.size + 1 := Nat.le_succ _
  have hn : H1 (hp.objs.size + 1) = none := I1.hok.fresh hsz
  have kk : ∀ b o, hp.get? b = some o → ((hp.push (PySem.W.kdv_tup [u])).push (PySem.HandSPX.excO C hp.objs.size)).get? b = some o := fun b o z => Heap.get?_push_of_some _ (Heap.get?_push_of_some _ z)
  have hget : ((hp.push (PySem.W.kdv_tup [u])).push (PySem.HandSPX.excO C hp.objs.size)).get? (hp.objs.size + 1) = some (PySem.HandSPX.excO C hp.objs.size) := by heap_get
  obtain ⟨mb, hb1, hb2⟩ := I1.mod.blt
  have bk : ∀ b o, X.base.get? b = some o → ((hp.push (PySem.W.kdv_tup [u])).push (PySem.HandSPX.excO C hp.objs.size)).get? b = some o := fun b o z => kk b o (I1.bk b o z)
  have KN : ∀ b o, X.K.lookup b = some o → b ≠ hp.objs.size + 1 := fun b o z q => by
    have y := Heap.lt_size (I1.kIn b o z)
    rw [q] at y
    exact absurd y (Nat.not_lt.mpr hsz)
  refine wpAny_call (PySem.HandSPX.call_own F.excBase_ValueError hT hC (PySem.W.looks_findIn I1.kIn T.at_) (fun self => PySem.W.bind_fn I1.kIn self T.tI) (by show (1 : Nat) ≤ sizeLine; decide) ?_)
  refine ip_init T mb X.mg hb hsc hk hco hgen hcell hpar hbind hs1 hs2 hs3 (I1.kIn.keeps kk) KN (hr.make C [u] []).depth (I1.mod.nolimit.keeps bk) (I1.mod.glob.keeps bk) (hb1.keeps bk) hms ((hb2 _ (by decide)).trans PyProof.Rows.Boot.«super») hget ?_
  intro h5 tk5 dx t1 k5' dn dne hx5 hns5
  have dn' : hp.objs.size ≤ dx := by
    refine Nat.le_trans ?_ dn
    simp only [Heap.push, Array.size_push]
    omega
  obtain ⟨G, g1', g2'⟩ := restrict h5 fun b => decide (b ≠ hp.objs.size + 1)
  have gk : ∀ b, b ≠ hp.objs.size + 1 → G.get? b = h5.get? b := fun b hb => g1' b (decide_eq_true hb)
  have ge : G.get? (hp.objs.size + 1) = none := g2' _ (by simp)
  have hd1 : H1 dx = none := I1.hok.fresh dn'
  have rel : ∀ f, RelO ([(("index" : Str), v)].lookup f) (if f = "index" then some u else none) := relO_put (fs := []) (mA := fun _ => none) ru fun _ => True.intro
  have J : Inv X pins σ (upd H1 dx (.xd [("index", v)])) ⟨G, g, dr, tk5, os⟩ := I1.laid (t' := tk5) (a := dx) (o := .xd [("index", v)]) (h' := G)
    (fun b o z => by
      have hb : b ≠ hp.objs.size + 1 := Nat.ne_of_lt (Nat.lt_of_lt_of_le (Heap.lt_size z) hsz)
      rw [gk b hb]
      exact k5' b o hb (kk b o z)) dn'
    ⟨_, hns5.at fun o y => (gk dx dne).trans y, rel⟩
  refine ⟨rfl, hp.objs.size + 1, _, _, ⟨G, g, dr, tk5, os⟩, _, .ref C, some dx, rfl, J, fun b o z => ?_, ge, hx5, ⟨rfl, rfl⟩, rfl, rfl, ?_, rfl, I1.bare, raises_own T.exC T.tyC, q1 dx hd1⟩
  · by_cases hba : b = hp.objs.size + 1
    · rw [hba, ge] at z
      cases z
    · exact (gk b hba).symm.trans z
  · rw [upd_ne (Ne.symm dne)]
    exact hn
end Tcf

set_option Elab.async false
set_option linter.all false
set_option maxRecDepth 100000
set_option maxHeartbeats 4000000
/-! RU5: with C(..) as x: body, the body may raise; __exit__ answers None. -/
namespace Tcf
open PySem PySem.Spec PyProof.Rows L2
/-- a def that is called while an exception is handled; it raises nothing -/
structure ExOk (P : Program) (w : World) (K : PySem.W.Frag) (mg : Str → Option Value) (base : Heap) (k : Nat) (f : Addr) (sp : Sp) : Prop where
  run : ∀ (A : Around) (outer : List Env) (s : Shared) (H : Hp) (us : List Value) (vs : List V) (Q : VK) (p : Addr × Obj), L2H.RoomH k A → L2H.PinOk outer H s p → Env0 P w K mg base A outer s H → Vals vs us → sp vs H Q E0 →
    codeAny (model P w) A (.call (.ref f) ⟨us, []⟩) (CR CX0 outer P w H s Q E0) s
section
variable {P : Program} {w : World} {K : PySem.W.Frag} {mg : Str → Option Value} {base : Heap}
theorem ex_mk {x qual : Str} {st : Stmt} {f : Addr} {N ps : List Str} {k : Nat} {sp : Sp} (F : ∃ fd, Fun K x qual st f fd) (S : FnScope N ps (defScope st)) (len : ∀ vs H Q E, sp vs H Q E → vs.length = ps.length)
    (hbind : ∀ (kV doc pm : Value) (an : Option Addr) (cdv ct : Value) (us : List Value), us.length = ps.length → bindArgs (PySem.W.fnOf x qual (defArgs st) (defBody st) (defScope st) .none kV doc pm an cdv ct) ⟨us, []⟩ = pure (ps.zip us))
    (hbody : ∀ (cdv : Value) (A : Around) (outer : List Env) (s : Shared) (H : Hp) (vs : List V) (Q : VK) (p : Addr × Obj), sp vs H Q E0 →
      ∃ t, PSs (L2H.cxH CX0 P w K mg base N qual (defScope st) f cdv A outer s H E0 p) (defBody st) t ∧ t { nx := fun _ H' => Q .non H', rt := Q } (start N vs) H) : ExOk P w K mg base (k + 1) f sp := by
  obtain ⟨fd, F⟩ := F
  have B := F.binds hbind
  obtain ⟨oc, od, kV, doc, pm, an, cdv, ct, osl, rfl, lk, hcd⟩ := F.ex
  refine ⟨fun A outer s H us vs Q p hr hpin e0 r hsp => ?_⟩
  have hl := len _ _ _ _ hsp
  have KX : K.In s.heap := e0.mod.kin.keeps fun b o e => (e0.bs b o e).1
  have lim : s.heap.NoLimit := e0.mod.nolimit.keeps fun b o e => (e0.bs b o e).1
  have hb := B s us KX (by rw [List.append_nil, ← r.length]; exact hl)
  rw [List.append_nil] at hb
  have hkind : ∀ y ∈ ps.zip us, (defScope st).names.lookup y.1 = some .local ∨ ((defScope st).names.lookup y.1 = some .cell ∧ ((cellsFrom (s.heap.objs.size + 1) (defScope st).names []).lookup y.1).isSome = true) := fun ⟨n, v⟩ hy => by
    rcases S.par n (List.of_mem_zip hy).1 with q | q
    · exact .inl q
    · exact .inr ⟨q, PySem.W.cellsFrom_some _ _ _ (.inl q)⟩
  refine codeAny_call_function hr.depth (KX _ _ lk) rfl S.co S.gen rfl (PySem.W.codeRec_of KX hcd) (hb _ _ _ _ ?_)
  refine wpAny_newFunctionEnv_cells S.kind hkind fun env he s1 y => ?_
  subst he
  refine ⟨lim.keeps y.toInCall.keep, codeAny_func ?_⟩
  obtain ⟨t, ht, hq⟩ := hbody cdv A outer s H vs Q p hsp
  have I := L2H.inv_startH (CX := CX0) (E := E0) (f := f) (qual := qual) (cd := cdv) (A := A) (mg := mg) (base := base) (N := N) S hpin e0 hl r y
  refine wpAny_mono (ht.run [] s1 _ H _ I hq) (fun fl s' hs => ?_) fun e s' hs => hs
  cases fl with
  | ret u =>
    obtain ⟨v, σ', H', J, rv, q⟩ := hs
    exact ⟨v, H', J.os, J.bare, J.base, J.hok, rv, q⟩
  | next =>
    obtain ⟨σ', H', J, q⟩ := hs
    exact ⟨V.non, H', J.os, J.bare, J.base, J.hok, rfl, q⟩
  | brk =>
    obtain ⟨_, _, _, q⟩ := hs
    exact False.elim q
  | cont =>
    obtain ⟨_, _, _, q⟩ := hs
    exact False.elim q
theorem ExOk.at {X : Cx} {k : Nat} {f : Addr} {sp : Sp} {pins : List (Addr × Obj)} {σ : L2.St} {H : Hp} {s : Shared} {Q : VK} {us : List Value} {vs : List V} {p : Addr × Obj} {E : Value → Shared → Prop} (c : ExOk X.prog X.w X.K X.mg X.base k f sp) (hr : L2H.RoomH k X.A) (hp : p ∈ X.pn)
    (I : Inv X pins σ H s) (r : Vals vs us) (h : sp vs H Q E0) : codeAny (model X.prog X.w) X.A (.call (.ref f) ⟨us, []⟩) (fun r s' => match r with | .ok (.ret v) => EP X pins σ Q v s' | .ok _ => False | .error e => E e s') s := by
  have P1 := I.pin p (List.mem_append_left _ hp)
  have hpin : L2H.PinOk X.stack H s p := ⟨P1.1, P1.2.1, fun hm => (List.mem_cons.mp (I.stkSub p.1 hm)).elim P1.2.2.1 P1.2.2.2.1, P1.2.2.2.2⟩
  refine codeAny_mono (c.run X.A X.stack s H us vs Q p hr hpin I.env0 r h) fun r s' hq => ?_
  cases r with
  | error e => exact False.elim hq
  | ok fl =>
    cases fl with
    | ret u => exact I.after hq
    | next => exact False.elim hq
    | brk => exact False.elim hq
    | cont => exact False.elim hq
end
theorem typeOf_at {M : Model} {A : Around} {E : Value → Shared → Prop} {s : Shared} {a : Addr} {o : Obj} {Q : Value → Shared → Prop} (ho : s.heap.get? a = some o) (h : Q o.cls s) : wpAny M A (typeOf (.ref a)) Q E s := by
  simp only [typeOf]
  exact wpAny_bind (wpAny_load ho (wpAny_pure h))
theorem tracebackOf_at {M : Model} {A : Around} {E : Value → Shared → Prop} {s : Shared} {a T : Addr} {o oT : Obj} {vs ts : Array Value} {t1 : Value} {Q : Value → Shared → Prop} (ho : s.heap.get? a = some o) (hd : o.data = .fields vs) (h1 : vs[1]? = some (.ref T))
    (hT : s.heap.get? T = some oT) (hdT : oT.data = .fields ts) (ht : ts[1]? = some t1) (h : ∀ w : V, ∀ u, RelV w u → Q u s) : wpAny M A (tracebackOf (.ref a)) Q E s := by
  unfold tracebackOf
  refine wpAny_bind (wpAny_field ho hd h1 ?_)
  dsimp only
  refine wpAny_bind (wpAny_field hT hdT ht ?_)
  split
  · exact wpAny_pure (h .non .none rfl)
  · exact wpAny_pure (h (.ref T) (.ref T) rfl)
/-- what is wished of the body's exception: __exit__ runs, then Wout -/
def wWith (spX : Sp) (a : Addr) (Wout : WX) : WX := fun cls d σ H => ∃ k1 : V, RelV k1 cls ∧ ∀ k2 k3 : V, spX [.ref a, k1, k2, k3] H (fun v H2 => v = .non ∧ Wout cls d σ H2) E0
def tWith (C : Addr) (spE spX : Sp) (Wout : WX) (tc : TE) (g : TG) (tb : WX → TS) : TS := fun D σ H => tc σ H fun x H1 => ∃ a dx fs, x = .ref a ∧ H1 a = some (.ins C dx fs) ∧
  spE [.ref a] H1 (fun v H2 => g v σ H2 fun σ1 H3 => tb (wWith spX a Wout) { nx := fun σ2 H4 => spX [.ref a, .non, .non, .non] H4 (fun _ H5 => D.nx σ2 H5) E0, rt := fun y H4 => spX [.ref a, .non, .non, .non] H4 (fun _ H5 => D.rt y H5) E0, bk := fun σ2 H4 => spX [.ref a, .non, .non, .non] H4 (fun _ H5 => D.bk σ2 H5) E0, ct := fun σ2 H4 => spX [.ref a, .non, .non, .non] H4 (fun _ H5 => D.ct σ2 H5) E0 } σ1 H3) E0
theorem ps_with {X : Cx} {C fe fx : Addr} {kE kX j : Nat} {spE spX : Sp} {Wout : WX} {ctx : Expr} {y : Str} {py pos : Pos} {body : List Stmt} {tc : TE} {g : TG} {tb : WX → TS}
    (hs : X.stack = X.env :: X.outer) (hf : X.env.frame = some X.env.locals) (hex : X.ex = []) (tk : Takes X Wout)
    (mE : Meth X.K C "__enter__" fe) (mX : Meth X.K C "__exit__" fx) (cE : Ok X.prog X.w X.K X.mg X.base kE fe spE) (cX : Ok X.prog X.w X.K X.mg X.base kX fx spX) (cH : ExOk X.prog X.w X.K X.mg X.base kX fx spX) (hr : Room j X.A)
    (hc : PE X ctx tc) (hg : ∀ pn xe, PG (X.tr pn xe) (.Name y py) g) (hb : ∀ (W : WX) (pn : List (Addr × Obj)) (xe : Value → Shared → Prop), Takes (X.tr pn xe) W → PSs (X.tr pn xe) body (tb W)) (hkE : kE ≤ j := by decide) (hkX : kX ≤ j := by decide) :
    PS X (.With [⟨ctx, some (.Name y py)⟩] body pos) (tWith C spE spX Wout tc g tb) := by
  refine ⟨fun pins s σ H D I h => ?_⟩
  have ok := I.ok
  refine PySem.W.kw_execN (thn (hc.run pins s σ H _ I h) fun u s1 ⟨x, H1, I1, rx, a, dx, fs, ex, ea, q1⟩ => ?_)
  subst ex
  cases rx
  unfold PySem.W.KwIn
  obtain ⟨mA, J0, _⟩ := ins_get I1.hok ea
  obtain ⟨od, J, _⟩ := J0.look
  obtain ⟨cd, hcd, ae⟩ := PySem.W.kw_along mE.at_
  obtain ⟨cd', hcd', ax⟩ := PySem.W.kw_along mX.at_
  cases hcd.symm.trans hcd'
  have KX := I1.kIn
  have run1 : wpAny (model X.prog X.w) X.A (call (.ref fe) [.ref a]) (EP X pins σ _) X.xe s1 := cE.run (us := [.ref a]) (vs := [.ref a]) (hr.mono hkE) passL I1 (.cons rfl .nil) q1
  have K1 : PySem.W.Looks (model X.prog X.w) s1.heap (specialOnItsLine (.ref a) "__enter__") (some (.ref fe), cd.mro) := PySem.W.kw_special KX J hcd ae
  have K2 : PySem.W.Looks (model X.prog X.w) s1.heap (specialOnItsLine (.ref a) "__exit__") (some (.ref fx), cd.mro) := PySem.W.kw_special KX J hcd ax
  have K3 : PySem.W.Looks (model X.prog X.w) s1.heap (bindSpecial (.ref fe) (.ref a)) (.ref fe, [.ref a]) := PySem.W.bind_fn KX _ (beq_iff_eq.mp mE.fn)
  have K4 : PySem.W.Looks (model X.prog X.w) s1.heap (bindSpecial (.ref fx) (.ref a)) (.ref fx, [.ref a]) := PySem.W.bind_fn KX _ (beq_iff_eq.mp mX.fn)
  have K5 : PySem.W.Looks (model X.prog X.w) s1.heap (aMethodOfAnotherBuiltinTypeStops (.ref fe) cd.mro) () := PySem.W.Looks.of_pure rfl
  have K6 : PySem.W.Looks (model X.prog X.w) s1.heap (aMethodOfAnotherBuiltinTypeStops (.ref fx) cd.mro) () := PySem.W.Looks.of_pure rfl
  obtain ⟨hh, gg, dd, tt, os⟩ := s1
  unfold withItem
  refine wpAny_bind (wpAny_pure ?_)
  refine wpAny_bind (wpAny_standAt ?_)
  simp only [Bool.false_eq_true, if_false]
  kw_lk
  refine wpAny_mono run1 (fun v s₂ h₂ => ?_) fun _ _ z => z
  kw_lk
  obtain ⟨xv, H2, I2, rv, q2⟩ := h₂
  refine wpAny_attempt (PySem.W.kw_held ?_)
  show wpAny _ _ (assign (.Name y py) X.env v >>= fun _ => execs body X.env) _ _ _
  refine wpAny_bind (wpAny_mono ((hg (X.pn ++ pins) _).run [] _ σ H2 xv v _ (I2.toTry _) rv q2) (fun _ s3 h3 => ?_) fun _ _ z => z)
  obtain ⟨σ3, H3, I3, q3⟩ := h3
  have I3' : Inv X pins σ3 H3 s3 := I3.ofTry ok
  refine wpAny_mono ((hb (wWith spX a Wout) (X.pn ++ pins) _ (fun u s4 xx => ?exc)).run [] s3 σ3 H3 _ (I3'.toTry _) q3) (fun f s4 h4 => ?nrm) fun _ _ z => z
  case nrm =>
    have call4 : ∀ {σ4 : L2.St} {H4 : Hp} {Qn : VK} {R : Value → Shared → Prop}, Inv X pins σ4 H4 s4 → spX [.ref a, .non, .non, .non] H4 Qn E0 → (∀ u s5, EP X pins σ4 Qn u s5 → R u s5) →
        wpAny (model X.prog X.w) X.A (call (.ref fx) ([.ref a] ++ [.none, .none, .none])) R X.xe s4 := fun I4 h5 k => wpAny_mono (cX.run (us := [.ref a, .none, .none, .none]) (vs := [.ref a, .non, .non, .non]) (hr.mono hkX) passL I4 (.cons rfl (.cons rfl (.cons rfl (.cons rfl .nil)))) h5) (fun u s5 z => k u s5 z) fun _ _ z => z
    cases f with
    | next =>
      obtain ⟨σ4, H4, I4, q4⟩ := h4
      refine wpAny_bind (wpAny_standAt (wpAny_bind (wpAny_holding (call4 (I4.ofTry ok) q4 fun u s5 z => ?_))))
      obtain ⟨_, H5, I5, _, q5⟩ := z
      exact wpAny_pure ⟨σ4, H5, I5, q5⟩
    | ret r =>
      obtain ⟨w4, σ4, H4, I4, r4, q4⟩ := h4
      refine wpAny_bind (wpAny_standAt (wpAny_bind (wpAny_holding (call4 (I4.ofTry ok) q4 fun u s5 z => ?_))))
      obtain ⟨_, H5, I5, _, q5⟩ := z
      exact wpAny_pure ⟨w4, σ4, H5, I5, r4, q5⟩
    | brk =>
      obtain ⟨σ4, H4, I4, q4⟩ := h4
      refine wpAny_bind (wpAny_standAt (wpAny_bind (wpAny_holding (call4 (I4.ofTry ok) q4 fun u s5 z => ?_))))
      obtain ⟨_, H5, I5, _, q5⟩ := z
      exact wpAny_pure ⟨σ4, H5, I5, q5⟩
    | cont =>
      obtain ⟨σ4, H4, I4, q4⟩ := h4
      refine wpAny_bind (wpAny_standAt (wpAny_bind (wpAny_holding (call4 (I4.ofTry ok) q4 fun u s5 z => ?_))))
      obtain ⟨_, H5, I5, _, q5⟩ := z
      exact wpAny_pure ⟨σ4, H5, I5, q5⟩
  case exc =>
    obtain ⟨e, B, sI, pins', σ', H', cls, d, rfl, J', nb, up, sky, na, eos, ag, hw⟩ := xx
    have J : Inv X pins σ' H' sI := J'.ofTry ok
    have hfr : X.A.frames = some (X.env :: X.outer) := by rw [ok.frames, hs]
    have sky' : Sky B (X.env :: X.outer) e (Zc cls d) X.env.locals s4.heap := by rw [← hs]; exact sky
    -- what follows the note
    have fin : ∀ h1, HandSPX.HeldZ B (X.env :: X.outer) e (Zc cls d) X.env.locals h1 → s4.heap.UpToSlots h1 →
        wpAny (model X.prog X.w) X.A (do
          setFlight (.ref e) none
          standAt ctx.pos
          holding [.ref e] do
          let r ← withItem.marked (.ref e) (.call (.ref fx) ⟨[.ref a] ++ [← typeOf (.ref e), .ref e, ← tracebackOf (.ref e)], []⟩)
          let r ← pure r
          match r with
            | .none => do
              let swallow ← pure false
              if swallow then do rule "with.exit-swallows"; setFlight (.ref e) none; pure .next else PySem.passOn "with" (.ref e) X.env
            | .bool b => do
              let swallow ← pure b
              if swallow then do rule "with.exit-swallows"; setFlight (.ref e) none; pure .next else PySem.passOn "with" (.ref e) X.env
            | _ => do
              let swallow ← pure ((← withItem.marked (.ref e) (.call (.type "bool") ⟨[r], []⟩)) == .bool true)
              if swallow then do rule "with.exit-swallows"; setFlight (.ref e) none; pure .next else PySem.passOn "with" (.ref e) X.env) (SP X pins D) X.xe { s4 with heap := h1 } := fun h1 hh1 up1 => by
      refine wpAny_bind (HandSPX.landsZ hh1 fun h3 fl3 up3 => ?_)
      have J3 : Inv X pins σ' H' { s4 with heap := h3 } := J.landed nb fl3.1 ((up.trans up1).trans up3) eos ag
      obtain ⟨k1, k2, k3, oe, vs, T, oT, ts, he3, hz, hd, hv1, hnT, hTe, hT, hdT, ht3⟩ := id fl3
      have nT : H' T = none := (J.inGround nb).gone hnT
      have notFr : ∀ (b : Addr) (o : Obj) (fv : Array Value), h3.get? b = some o → o.data = .fields fv → b ∉ frs (X.env :: X.outer) := fun b o fv z1 z2 hm => by
        obtain ⟨_, o', z3, hnf⟩ := k3.mem hm
        cases z1.symm.trans z3
        exact hnf _ z2
      have locF : X.env.locals ∈ frs (X.env :: X.outer) := List.mem_filterMap.mpr ⟨X.env, List.mem_cons_self, hf⟩
      have fsF : ∀ b, b ∈ X.fs → b ∈ frs (X.env :: X.outer) := fun b hm => by
        obtain ⟨x, hx, q⟩ := List.mem_filterMap.mp hm
        exact List.mem_filterMap.mpr ⟨x, List.mem_cons_of_mem _ hx, q⟩
      have fa := notFr e oe vs he3 hd
      have fT := notFr T oT ts hT hdT
      have S3 : Inv (X.suite e ((e, oe) :: (T, oT) :: (X.pn ++ pins))) [] σ' H' { s4 with heap := h3 } :=
        ⟨J3.ok.suite _ _, J3.os, J3.bare, J3.base, J3.loc, J3.cell, J3.free, J3.freeC, fun p hp => by
          rw [List.append_nil] at hp
          rcases List.mem_cons.mp hp with z | hp
          · rw [z]
            refine ⟨he3, na, fun z2 => fa ?_, fun z2 => fa (fsF _ z2), fun v z2 => ?_⟩
            · rw [show e = X.env.locals from z2]
              exact locF
            · have z3 : oe.data = .cell v := z2
              rw [hd] at z3
              cases z3
          · rcases List.mem_cons.mp hp with z | hp
            · rw [z]
              refine ⟨hT, nT, fun z2 => fT ?_, fun z2 => fT (fsF _ z2), fun v z2 => ?_⟩
              · rw [show T = X.env.locals from z2]
                exact locF
              · have z3 : oT.data = .cell v := z2
                rw [hdT] at z3
                cases z3
            · exact J3.pin p hp, J3.hok, J3.len⟩
      -- the trace that is handed on
      obtain ⟨t1, ht1⟩ : ∃ t1, ts[1]? = some t1 := by
        have h3s := (Array.getElem?_eq_some_iff.mp ht3).1
        exact ⟨ts[1]'(by omega), Array.getElem?_eq_getElem (by omega)⟩
      refine wpAny_bind (wpAny_standAt (wpAny_holding ?_))
      refine wpAny_bind (typeOf_at he3 ?_)
      refine wpAny_bind (tracebackOf_at he3 hd hv1 hT hdT ht1 fun w3 u3 r3 => ?_)
      obtain ⟨kc, rc, hw2⟩ := hw
      have rc' : RelV kc oe.cls := by rw [hz.1]; exact rc
      unfold withItem.marked
      have rX : L2H.RoomH kX (X.suite e ((e, oe) :: (T, oT) :: (X.pn ++ pins))).A := ⟨(hr.mono hkX).dp, (hr.mono hkX).un⟩
      have cH' : ExOk (X.suite e ((e, oe) :: (T, oT) :: (X.pn ++ pins))).prog (X.suite e ((e, oe) :: (T, oT) :: (X.pn ++ pins))).w X.K X.mg X.base kX fx spX := cH
      refine wpAny_bind (wpAny_bind (wpAny_run (codeAny_mono (cH'.at (X := X.suite e ((e, oe) :: (T, oT) :: (X.pn ++ pins))) (p := (e, oe)) (E := fun _ _ => False) (us := [.ref a, oe.cls, .ref e, u3]) (vs := [.ref a, kc, .ref e, w3]) rX List.mem_cons_self S3
        (.cons rfl (.cons rc' (.cons rfl (.cons r3 .nil)))) (hw2 (.ref e) w3)) fun r s6 hq => ?_) (fun z => by cases z)))
      cases r with
      | error x => exact False.elim hq
      | ok fl =>
        cases fl with
        | next => exact False.elim hq
        | brk => exact False.elim hq
        | cont => exact False.elim hq
        | ret u6 =>
          obtain ⟨v6, H6, S6, r6, rfl, q6⟩ := hq
          cases r6
          refine wpAny_pure (wpAny_bind (wpAny_pure ?_))
          dsimp only
          refine wpAny_bind (wpAny_pure ?_)
          simp only [Bool.false_eq_true, if_false]
          have J6 : Inv X pins σ' H6 s6 := ⟨ok, S6.os, S6.bare, S6.base, S6.loc, S6.cell, S6.free, S6.freeC, fun p hp => S6.pin p (List.mem_append_left _ (List.mem_cons_of_mem _ (List.mem_cons_of_mem _ hp))), S6.hok, S6.len⟩
          obtain ⟨ga, na6, _⟩ := S6.pin (e, oe) (List.mem_append_left _ List.mem_cons_self)
          obtain ⟨gT, nT6, _⟩ := S6.pin (T, oT) (List.mem_append_left _ (List.mem_cons_of_mem _ List.mem_cons_self))
          have far : ∀ b o, sI.heap.get? b = some o → b ≠ e ∧ b ≠ T := fun b o z0 => by
            by_cases hb : b ∈ frs X.stack
            · rw [hs] at hb
              exact ⟨fun z => fa (z ▸ hb), fun z => fT (z ▸ hb)⟩
            · have q := nb b o z0 hb
              refine ⟨fun z => ?_, fun z => ?_⟩
              · rw [z, k2] at q
                cases q
              · rw [z, hnT] at q
                cases q
          have far0 : ∀ b o, X.s_0.heap.get? b = some o → b ≠ e ∧ b ≠ T := fun b o z0 => by
            obtain ⟨o', q⟩ := J.base.there b o z0 (by rw [hex]; simp)
            exact far b o' q
          have farP : ∀ p ∈ X.pn ++ pins, p.1 ≠ e ∧ p.1 ≠ T := fun p hp => far p.1 p.2 (J.pin p hp).1
          obtain ⟨G, g1, g2⟩ := restrict s6.heap fun b => !(decide (b = e) || decide (b = T))
          have gIn : ∀ b o, G.get? b = some o → s6.heap.get? b = some o ∧ b ≠ e ∧ b ≠ T := fun b o z0 => by
            cases q : (!(decide (b = e) || decide (b = T))) with
            | false =>
              rw [g2 b q] at z0
              cases z0
            | true =>
              rw [g1 b q] at z0
              simp only [Bool.not_eq_true', Bool.or_eq_false_iff, decide_eq_false_iff_not] at q
              exact ⟨z0, q.1, q.2⟩
          have I6 : Inv X pins σ' H6 { s6 with heap := G } := J6.less (fun b o z0 => (gIn b o z0).1) (fun b o h1 h2 z0 => by rw [g1 b (by simp [h1, h2])]; exact z0) ⟨oe, vs, ga, hd⟩ ⟨oT, ts, gT, hdT⟩ na6 nT6 far0 farP
          have Bno : ∀ b, (b = e ∨ b = T) → (PySem.W.hideAll G (frs X.stack)).get? b = none := fun b hb => by
            cases q : (PySem.W.hideAll G (frs X.stack)).get? b with
            | none => rfl
            | some o =>
              obtain ⟨_, n1, n2⟩ := gIn b o (PySem.W.of_hideAll _ q)
              exact hb.elim (fun z => absurd z n1) fun z => absurd z n2
          have fl6 : HandSPX.FlyingZ (PySem.W.hideAll G (frs X.stack)) (X.env :: X.outer) e (Zc cls d) s6.heap := by
            refine ⟨fun b o z0 => (gIn b o (PySem.W.of_hideAll _ z0)).1, Bno e (.inl rfl), ?_, oe, vs, T, oT, ts, ga, hz, hd, hv1, Bno T (.inr rfl), hTe, gT, hdT, ht3⟩
            rw [← hs]
            exact funFrames_none (B := PySem.W.hideAll G (frs X.stack)) J6.stack fun b hb => PySem.W.hideAll_none _ hb
          show wpAny (model X.prog X.w) X.A (PySem.passOn "with" (.ref e) X.env) (SP X pins D) X.xe s6
          unfold PySem.passOn
          refine wpAny_bind (wpAny_field ga hd hv1 ?_)
          rw [if_neg (show ¬ ((Value.ref T == Value.none) = true) from by simp)]
          have goOn : wpAny (model X.prog X.w) X.A (setFlight (.ref e) X.env.frame) (fun _ s7 => wpAny (model X.prog X.w) X.A (throw (.ref e) : Sem Flow) (SP X pins D) X.xe s7) X.xe s6 := by
            rw [hf]
            refine HandSPX.setFlight_upZ fl6 fun h7 hh7 up7 => wpAny_throw (tk _ _ ?_)
            refine ⟨e, PySem.W.hideAll G (frs X.stack), { s6 with heap := G }, pins, σ', H6, cls, d, rfl, I6, fun b o z0 hb => PySem.W.hideAll_get _ z0 hb, ?_, .inr (.inr (by rw [← hs] at hh7; exact hh7)), na6, rfl, J6.bare, q6⟩
            exact Heap.UpToSlots.trans (Heap.UpToSlots.of_keeps fun b o z0 => (gIn b o z0).1) up7
          first
            | exact wpAny_bind (wpAny_pure (wpAny_bind goOn))
            | exact wpAny_bind goOn
    show wpAny (model X.prog X.w) X.A (noteFrame (.ref e) X.env >>= fun _ => _) _ _ _
    refine wpAny_bind ?_
    rcases sky' with ⟨hB, hn, hl, oe, vs, he0, hz, hd, hv1⟩ | fl | hh
    · exact HandSPX.look_newZ Zc.steady hfr hl hf he0 hB hn hd hv1 hz fin
    · exact HandSPX.looks_onZ Zc.steady hfr hf fl fin
    · exact HandSPX.againZ hf hh.2.2.2 (fin s4.heap hh (Heap.UpToSlots.refl _))
end Tcf

set_option Elab.async false
set_option linter.all false
set_option maxRecDepth 100000
set_option maxHeartbeats 4000000
/-! TX: what the head says, lemma by lemma (printed by gen_tx.py). -/
namespace Tcf
open PySem PySem.Spec PyProof.Rows L2
structure Tx (P : Program) (K : PySem.W.Frag) (mg : Str → Option Value) : Prop where
  says : ∃ h, K.In h ∧ h.Ns mainGlobals mg ∧ SaysZ fx fn tf h K
  file : P.main.file = fileR
  sup : (P.main.scope.names.lookup ("super" : Str)).isSome = false
theorem prp_ok {K : PySem.W.Frag} {C f : Str} (h : prpB K C f = true) : PropOf K (He.ga K C) f (He.ma K (He.ga K C) f) (pgAd K C f) := by
  obtain ⟨h1, h⟩ := He.ba h
  obtain ⟨h2, h⟩ := He.ba h
  obtain ⟨h3, h4⟩ := He.ba h
  refine ⟨He.eqO_ok h1, He.eqO_ok h2, of_decide_eq_true h3, ?_⟩
  unfold pgAd
  cases q : PySem.W.recIn K (He.ma K (He.ga K C) f) "property" with
  | none => rw [q] at h4; cases h4
  | some l =>
    rw [q] at h4
    cases l with
    | nil => cases h4
    | cons x r =>
      cases x with
      | ref a => exact ⟨r, rfl⟩
      | _ => cases h4
theorem ins_ok {K : PySem.W.Frag} {C : Str} (h : insB K C = true) (cl : Cls K (He.ga K C)) {H : Hp} {a dx : Addr} {fs : List (Str × V)} (e : H a = some (.ins (He.ga K C) dx fs)) :
    TyX K H (.ref a) (.ref (He.ga K C)) ∧ PySem.W.kitOne K (.ref (He.ga K C)) (.ref (He.ga K C)) = some true := by
  obtain ⟨h1, h⟩ := He.ba h
  obtain ⟨h2, h⟩ := He.ba h
  obtain ⟨h3, h⟩ := He.ba h
  obtain ⟨h4, h5⟩ := He.ba h
  exact ⟨.base (.ins e cl (He.eqO_ok h1) (He.eqO_ok h2) (of_decide_eq_true h3) (of_decide_eq_true h4)), of_decide_eq_true h5⟩
section
variable {P : Program} {K : PySem.W.Frag} {mg : Str → Option Value}

theorem Tx.g_is_number (T : Tx P K mg) : mg "is_number" = some (.ref (He.ga K "is_number")) := by
  obtain ⟨h, KX, G, c⟩ := T.says
  exact He.glo_ok KX G (c.fact 0)
theorem Tx.g_is_count (T : Tx P K mg) : mg "is_count" = some (.ref (He.ga K "is_count")) := by
  obtain ⟨h, KX, G, c⟩ := T.says
  exact He.glo_ok KX G (c.fact 1)
theorem Tx.g_is_colour (T : Tx P K mg) : mg "is_colour" = some (.ref (He.ga K "is_colour")) := by
  obtain ⟨h, KX, G, c⟩ := T.says
  exact He.glo_ok KX G (c.fact 2)
theorem Tx.g_joined (T : Tx P K mg) : mg "joined" = some (.ref (He.ga K "joined")) := by
  obtain ⟨h, KX, G, c⟩ := T.says
  exact He.glo_ok KX G (c.fact 3)
theorem Tx.g_row_of (T : Tx P K mg) : mg "row_of" = some (.ref (He.ga K "row_of")) := by
  obtain ⟨h, KX, G, c⟩ := T.says
  exact He.glo_ok KX G (c.fact 4)
theorem Tx.g_text_of (T : Tx P K mg) : mg "text_of" = some (.ref (He.ga K "text_of")) := by
  obtain ⟨h, KX, G, c⟩ := T.says
  exact He.glo_ok KX G (c.fact 5)
theorem Tx.g_check_row (T : Tx P K mg) : mg "check_row" = some (.ref (He.ga K "check_row")) := by
  obtain ⟨h, KX, G, c⟩ := T.says
  exact He.glo_ok KX G (c.fact 6)
theorem Tx.g_check_game (T : Tx P K mg) : mg "check_game" = some (.ref (He.ga K "check_game")) := by
  obtain ⟨h, KX, G, c⟩ := T.says
  exact He.glo_ok KX G (c.fact 7)
theorem Tx.g_can_be_used (T : Tx P K mg) : mg "can_be_used" = some (.ref (He.ga K "can_be_used")) := by
  obtain ⟨h, KX, G, c⟩ := T.says
  exact He.glo_ok KX G (c.fact 8)
theorem Tx.g_is_allowed (T : Tx P K mg) : mg "is_allowed" = some (.ref (He.ga K "is_allowed")) := by
  obtain ⟨h, KX, G, c⟩ := T.says
  exact He.glo_ok KX G (c.fact 9)
theorem Tx.g_check_goal (T : Tx P K mg) : mg "check_goal" = some (.ref (He.ga K "check_goal")) := by
  obtain ⟨h, KX, G, c⟩ := T.says
  exact He.glo_ok KX G (c.fact 10)
theorem Tx.g_check_words (T : Tx P K mg) : mg "check_words" = some (.ref (He.ga K "check_words")) := by
  obtain ⟨h, KX, G, c⟩ := T.says
  exact He.glo_ok KX G (c.fact 11)
theorem Tx.g_sorting_cost (T : Tx P K mg) : mg "sorting_cost" = some (.ref (He.ga K "sorting_cost")) := by
  obtain ⟨h, KX, G, c⟩ := T.says
  exact He.glo_ok KX G (c.fact 12)
theorem Tx.g_plain_cost (T : Tx P K mg) : mg "plain_cost" = some (.ref (He.ga K "plain_cost")) := by
  obtain ⟨h, KX, G, c⟩ := T.says
  exact He.glo_ok KX G (c.fact 13)
theorem Tx.g_numbers_by_kind (T : Tx P K mg) : mg "numbers_by_kind" = some (.ref (He.ga K "numbers_by_kind")) := by
  obtain ⟨h, KX, G, c⟩ := T.says
  exact He.glo_ok KX G (c.fact 14)
theorem Tx.g_state_after (T : Tx P K mg) : mg "state_after" = some (.ref (He.ga K "state_after")) := by
  obtain ⟨h, KX, G, c⟩ := T.says
  exact He.glo_ok KX G (c.fact 15)
theorem Tx.g_kinds_of_game (T : Tx P K mg) : mg "kinds_of_game" = some (.ref (He.ga K "kinds_of_game")) := by
  obtain ⟨h, KX, G, c⟩ := T.says
  exact He.glo_ok KX G (c.fact 16)
theorem Tx.g_best_kinds (T : Tx P K mg) : mg "best_kinds" = some (.ref (He.ga K "best_kinds")) := by
  obtain ⟨h, KX, G, c⟩ := T.says
  exact He.glo_ok KX G (c.fact 17)
theorem Tx.g_first_flip (T : Tx P K mg) : mg "first_flip" = some (.ref (He.ga K "first_flip")) := by
  obtain ⟨h, KX, G, c⟩ := T.says
  exact He.glo_ok KX G (c.fact 18)
theorem Tx.g_law_stream (T : Tx P K mg) : mg "_law_stream" = some (.ref (He.ga K "_law_stream")) := by
  obtain ⟨h, KX, G, c⟩ := T.says
  exact He.glo_ok KX G (c.fact 19)
theorem Tx.g_law_draw (T : Tx P K mg) : mg "_law_draw" = some (.ref (He.ga K "_law_draw")) := by
  obtain ⟨h, KX, G, c⟩ := T.says
  exact He.glo_ok KX G (c.fact 20)
theorem Tx.g_law_text (T : Tx P K mg) : mg "_law_text" = some (.ref (He.ga K "_law_text")) := by
  obtain ⟨h, KX, G, c⟩ := T.says
  exact He.glo_ok KX G (c.fact 21)
theorem Tx.g_law_turn (T : Tx P K mg) : mg "_law_turn" = some (.ref (He.ga K "_law_turn")) := by
  obtain ⟨h, KX, G, c⟩ := T.says
  exact He.glo_ok KX G (c.fact 22)
theorem Tx.g_law_places (T : Tx P K mg) : mg "_law_places" = some (.ref (He.ga K "_law_places")) := by
  obtain ⟨h, KX, G, c⟩ := T.says
  exact He.glo_ok KX G (c.fact 23)
theorem Tx.g_law_is_done (T : Tx P K mg) : mg "_law_is_done" = some (.ref (He.ga K "_law_is_done")) := by
  obtain ⟨h, KX, G, c⟩ := T.says
  exact He.glo_ok KX G (c.fact 24)
theorem Tx.g_law_words (T : Tx P K mg) : mg "_law_words" = some (.ref (He.ga K "_law_words")) := by
  obtain ⟨h, KX, G, c⟩ := T.says
  exact He.glo_ok KX G (c.fact 25)
theorem Tx.g_law_levels (T : Tx P K mg) : mg "_law_levels" = some (.ref (He.ga K "_law_levels")) := by
  obtain ⟨h, KX, G, c⟩ := T.says
  exact He.glo_ok KX G (c.fact 26)
theorem Tx.g_law_hint (T : Tx P K mg) : mg "_law_hint" = some (.ref (He.ga K "_law_hint")) := by
  obtain ⟨h, KX, G, c⟩ := T.says
  exact He.glo_ok KX G (c.fact 27)
theorem Tx.g_law_heard (T : Tx P K mg) : mg "_law_heard" = some (.ref (He.ga K "_law_heard")) := by
  obtain ⟨h, KX, G, c⟩ := T.says
  exact He.glo_ok KX G (c.fact 28)
theorem Tx.g_law_joined (T : Tx P K mg) : mg "_law_joined" = some (.ref (He.ga K "_law_joined")) := by
  obtain ⟨h, KX, G, c⟩ := T.says
  exact He.glo_ok KX G (c.fact 29)
theorem Tx.g_law_flipped (T : Tx P K mg) : mg "_law_flipped" = some (.ref (He.ga K "_law_flipped")) := by
  obtain ⟨h, KX, G, c⟩ := T.says
  exact He.glo_ok KX G (c.fact 30)
theorem Tx.g_law_undone (T : Tx P K mg) : mg "_law_undone" = some (.ref (He.ga K "_law_undone")) := by
  obtain ⟨h, KX, G, c⟩ := T.says
  exact He.glo_ok KX G (c.fact 31)
theorem Tx.g_law_redone (T : Tx P K mg) : mg "_law_redone" = some (.ref (He.ga K "_law_redone")) := by
  obtain ⟨h, KX, G, c⟩ := T.says
  exact He.glo_ok KX G (c.fact 32)
theorem Tx.g_law_listed (T : Tx P K mg) : mg "_law_listed" = some (.ref (He.ga K "_law_listed")) := by
  obtain ⟨h, KX, G, c⟩ := T.says
  exact He.glo_ok KX G (c.fact 33)
theorem Tx.g_law_drawn_place (T : Tx P K mg) : mg "_law_drawn_place" = some (.ref (He.ga K "_law_drawn_place")) := by
  obtain ⟨h, KX, G, c⟩ := T.says
  exact He.glo_ok KX G (c.fact 34)
theorem Tx.g_law_some_places (T : Tx P K mg) : mg "_law_some_places" = some (.ref (He.ga K "_law_some_places")) := by
  obtain ⟨h, KX, G, c⟩ := T.says
  exact He.glo_ok KX G (c.fact 35)
theorem Tx.g_law_pair (T : Tx P K mg) : mg "_law_pair" = some (.ref (He.ga K "_law_pair")) := by
  obtain ⟨h, KX, G, c⟩ := T.says
  exact He.glo_ok KX G (c.fact 36)
theorem Tx.g_law_more_pair (T : Tx P K mg) : mg "_law_more_pair" = some (.ref (He.ga K "_law_more_pair")) := by
  obtain ⟨h, KX, G, c⟩ := T.says
  exact He.glo_ok KX G (c.fact 37)
theorem Tx.g_law_agrees (T : Tx P K mg) : mg "_law_agrees" = some (.ref (He.ga K "_law_agrees")) := by
  obtain ⟨h, KX, G, c⟩ := T.says
  exact He.glo_ok KX G (c.fact 38)
theorem Tx.g_law (T : Tx P K mg) : mg "law" = some (.ref (He.ga K "law")) := by
  obtain ⟨h, KX, G, c⟩ := T.says
  exact He.glo_ok KX G (c.fact 39)
theorem Tx.z_len (T : Tx P K mg) : mg "len" = none := by
  obtain ⟨h, KX, G, c⟩ := T.says
  exact He.free_ok KX G (c.fact 40)
theorem Tx.z_isinstance (T : Tx P K mg) : mg "isinstance" = none := by
  obtain ⟨h, KX, G, c⟩ := T.says
  exact He.free_ok KX G (c.fact 41)
theorem Tx.z_int (T : Tx P K mg) : mg "int" = none := by
  obtain ⟨h, KX, G, c⟩ := T.says
  exact He.free_ok KX G (c.fact 42)
theorem Tx.z_bool (T : Tx P K mg) : mg "bool" = none := by
  obtain ⟨h, KX, G, c⟩ := T.says
  exact He.free_ok KX G (c.fact 43)
theorem Tx.z_str (T : Tx P K mg) : mg "str" = none := by
  obtain ⟨h, KX, G, c⟩ := T.says
  exact He.free_ok KX G (c.fact 44)
theorem Tx.z_list (T : Tx P K mg) : mg "list" = none := by
  obtain ⟨h, KX, G, c⟩ := T.says
  exact He.free_ok KX G (c.fact 45)
theorem Tx.z_all (T : Tx P K mg) : mg "all" = none := by
  obtain ⟨h, KX, G, c⟩ := T.says
  exact He.free_ok KX G (c.fact 46)
theorem Tx.z_sum (T : Tx P K mg) : mg "sum" = none := by
  obtain ⟨h, KX, G, c⟩ := T.says
  exact He.free_ok KX G (c.fact 47)
theorem Tx.z_min (T : Tx P K mg) : mg "min" = none := by
  obtain ⟨h, KX, G, c⟩ := T.says
  exact He.free_ok KX G (c.fact 48)
theorem Tx.z_max (T : Tx P K mg) : mg "max" = none := by
  obtain ⟨h, KX, G, c⟩ := T.says
  exact He.free_ok KX G (c.fact 49)
theorem Tx.z_range (T : Tx P K mg) : mg "range" = none := by
  obtain ⟨h, KX, G, c⟩ := T.says
  exact He.free_ok KX G (c.fact 50)
theorem Tx.z_enumerate (T : Tx P K mg) : mg "enumerate" = none := by
  obtain ⟨h, KX, G, c⟩ := T.says
  exact He.free_ok KX G (c.fact 51)
theorem Tx.z_dict (T : Tx P K mg) : mg "dict" = none := by
  obtain ⟨h, KX, G, c⟩ := T.says
  exact He.free_ok KX G (c.fact 52)
theorem Tx.z_super (T : Tx P K mg) : mg "super" = none := by
  obtain ⟨h, KX, G, c⟩ := T.says
  exact He.free_ok KX G (c.fact 53)
theorem Tx.i_MAX_RUNS (T : Tx P K mg) : ∃ t, mg "MAX_RUNS" = some (.int 2000 t) := by
  obtain ⟨h, KX, G, c⟩ := T.says
  exact He.int_ok KX G (c.fact 54)
theorem Tx.i_MAX_LENGTH (T : Tx P K mg) : ∃ t, mg "MAX_LENGTH" = some (.int (10 ^ 30) t) := by
  obtain ⟨h, KX, G, c⟩ := T.says
  exact He.int_ok KX G (c.fact 55)
theorem Tx.i_MAX_ITEMS (T : Tx P K mg) : ∃ t, mg "MAX_ITEMS" = some (.int 2000 t) := by
  obtain ⟨h, KX, G, c⟩ := T.says
  exact He.int_ok KX G (c.fact 56)
theorem Tx.l_GAMES (T : Tx P K mg) : ∀ H : Hp, SqL K H (He.ga K "GAMES") [.str "front", .str "ends", .str "parts"] := by
  obtain ⟨h, KX, G, c⟩ := T.says
  exact fun H => He.lstB_ok (c.fact 57) H
theorem Tx.l_GOALS (T : Tx P K mg) : ∀ H : Hp, SqL K H (He.ga K "GOALS") [.str "grouped", .str "sorted"] := by
  obtain ⟨h, KX, G, c⟩ := T.says
  exact fun H => He.lstB_ok (c.fact 58) H
theorem Tx.gl_GAMES (T : Tx P K mg) : mg "GAMES" = some (.ref (He.ga K "GAMES")) := by
  obtain ⟨h, KX, G, c⟩ := T.says
  exact He.glo_ok KX G (c.fact 59)
theorem Tx.gl_GOALS (T : Tx P K mg) : mg "GOALS" = some (.ref (He.ga K "GOALS")) := by
  obtain ⟨h, KX, G, c⟩ := T.says
  exact He.glo_ok KX G (c.fact 60)
theorem Tx.gc_Row (T : Tx P K mg) : mg "Row" = some (.ref (He.ga K "Row")) := by
  obtain ⟨h, KX, G, c⟩ := T.says
  exact He.glo_ok KX G (c.fact 61)
theorem Tx.c_Row (T : Tx P K mg) : Cls K (He.ga K "Row") := by
  obtain ⟨h, KX, G, c⟩ := T.says
  exact He.cls_ok (c.fact 62)
theorem Tx.k_Row (T : Tx P K mg) : Mk K (He.ga K "Row") (He.ma K (He.ga K "Row") "__init__") := by
  obtain ⟨h, KX, G, c⟩ := T.says
  exact He.mkr_ok (c.fact 63)
theorem Tx.n_Row_colour (T : Tx P K mg) : NoAttr K (He.ga K "Row") "colour" := by
  obtain ⟨h, KX, G, c⟩ := T.says
  exact He.noat_ok (c.fact 64)
theorem Tx.n_Row_sizes (T : Tx P K mg) : NoAttr K (He.ga K "Row") "sizes" := by
  obtain ⟨h, KX, G, c⟩ := T.says
  exact He.noat_ok (c.fact 65)
theorem Tx.m_Row_deqd (T : Tx P K mg) : Meth K (He.ga K "Row") "__eq__" (He.ma K (He.ga K "Row") "__eq__") := by
  obtain ⟨h, KX, G, c⟩ := T.says
  exact He.meth_ok (c.fact 66)
theorem Tx.m_Row_daddd (T : Tx P K mg) : Meth K (He.ga K "Row") "__add__" (He.ma K (He.ga K "Row") "__add__") := by
  obtain ⟨h, KX, G, c⟩ := T.says
  exact He.meth_ok (c.fact 67)
theorem Tx.m_Row_dinvertd (T : Tx P K mg) : Meth K (He.ga K "Row") "__invert__" (He.ma K (He.ga K "Row") "__invert__") := by
  obtain ⟨h, KX, G, c⟩ := T.says
  exact He.meth_ok (c.fact 68)
theorem Tx.m_Row_part (T : Tx P K mg) : Meth K (He.ga K "Row") "part" (He.ma K (He.ga K "Row") "part") := by
  obtain ⟨h, KX, G, c⟩ := T.says
  exact He.meth_ok (c.fact 69)
theorem Tx.m_Row_borders (T : Tx P K mg) : Meth K (He.ga K "Row") "borders" (He.ma K (He.ga K "Row") "borders") := by
  obtain ⟨h, KX, G, c⟩ := T.says
  exact He.meth_ok (c.fact 70)
theorem Tx.p_Row_first (T : Tx P K mg) : PropOf K (He.ga K "Row") "first" (He.ma K (He.ga K "Row") "first") (pgAd K "Row" "first") := by
  obtain ⟨h, KX, G, c⟩ := T.says
  exact prp_ok (c.fact 71)
theorem Tx.p_Row_lengths (T : Tx P K mg) : PropOf K (He.ga K "Row") "lengths" (He.ma K (He.ga K "Row") "lengths") (pgAd K "Row" "lengths") := by
  obtain ⟨h, KX, G, c⟩ := T.says
  exact prp_ok (c.fact 72)
theorem Tx.p_Row_runs (T : Tx P K mg) : PropOf K (He.ga K "Row") "runs" (He.ma K (He.ga K "Row") "runs") (pgAd K "Row" "runs") := by
  obtain ⟨h, KX, G, c⟩ := T.says
  exact prp_ok (c.fact 73)
theorem Tx.p_Row_length (T : Tx P K mg) : PropOf K (He.ga K "Row") "length" (He.ma K (He.ga K "Row") "length") (pgAd K "Row" "length") := by
  obtain ⟨h, KX, G, c⟩ := T.says
  exact prp_ok (c.fact 74)
theorem Tx.sf_Row (T : Tx P K mg) : PySem.W.selfFirst K (He.ga K "Row") = true := by
  obtain ⟨h, KX, G, c⟩ := T.says
  exact c.fact 75
theorem Tx.gc_Flip (T : Tx P K mg) : mg "Flip" = some (.ref (He.ga K "Flip")) := by
  obtain ⟨h, KX, G, c⟩ := T.says
  exact He.glo_ok KX G (c.fact 76)
theorem Tx.c_Flip (T : Tx P K mg) : Cls K (He.ga K "Flip") := by
  obtain ⟨h, KX, G, c⟩ := T.says
  exact He.cls_ok (c.fact 77)
theorem Tx.k_Flip (T : Tx P K mg) : Mk K (He.ga K "Flip") (He.ma K (He.ga K "Flip") "__init__") := by
  obtain ⟨h, KX, G, c⟩ := T.says
  exact He.mkr_ok (c.fact 78)
theorem Tx.n_Flip_begin (T : Tx P K mg) : NoAttr K (He.ga K "Flip") "begin" := by
  obtain ⟨h, KX, G, c⟩ := T.says
  exact He.noat_ok (c.fact 79)
theorem Tx.n_Flip_finish (T : Tx P K mg) : NoAttr K (He.ga K "Flip") "finish" := by
  obtain ⟨h, KX, G, c⟩ := T.says
  exact He.noat_ok (c.fact 80)
theorem Tx.m_Flip_check (T : Tx P K mg) : Meth K (He.ga K "Flip") "check" (He.ma K (He.ga K "Flip") "check") := by
  obtain ⟨h, KX, G, c⟩ := T.says
  exact He.meth_ok (c.fact 81)
theorem Tx.m_Flip_dcalld (T : Tx P K mg) : Meth K (He.ga K "Flip") "__call__" (He.ma K (He.ga K "Flip") "__call__") := by
  obtain ⟨h, KX, G, c⟩ := T.says
  exact He.meth_ok (c.fact 82)
theorem Tx.p_Flip_start (T : Tx P K mg) : PropOf K (He.ga K "Flip") "start" (He.ma K (He.ga K "Flip") "start") (pgAd K "Flip" "start") := by
  obtain ⟨h, KX, G, c⟩ := T.says
  exact prp_ok (c.fact 83)
theorem Tx.p_Flip_end (T : Tx P K mg) : PropOf K (He.ga K "Flip") "end" (He.ma K (He.ga K "Flip") "end") (pgAd K "Flip" "end") := by
  obtain ⟨h, KX, G, c⟩ := T.says
  exact prp_ok (c.fact 84)
theorem Tx.sf_Flip (T : Tx P K mg) : PySem.W.selfFirst K (He.ga K "Flip") = true := by
  obtain ⟨h, KX, G, c⟩ := T.says
  exact c.fact 85
theorem Tx.gc_Trial (T : Tx P K mg) : mg "Trial" = some (.ref (He.ga K "Trial")) := by
  obtain ⟨h, KX, G, c⟩ := T.says
  exact He.glo_ok KX G (c.fact 86)
theorem Tx.c_Trial (T : Tx P K mg) : Cls K (He.ga K "Trial") := by
  obtain ⟨h, KX, G, c⟩ := T.says
  exact He.cls_ok (c.fact 87)
theorem Tx.k_Trial (T : Tx P K mg) : Mk K (He.ga K "Trial") (He.ma K (He.ga K "Trial") "__init__") := by
  obtain ⟨h, KX, G, c⟩ := T.says
  exact He.mkr_ok (c.fact 88)
theorem Tx.n_Trial_home (T : Tx P K mg) : NoAttr K (He.ga K "Trial") "home" := by
  obtain ⟨h, KX, G, c⟩ := T.says
  exact He.noat_ok (c.fact 89)
theorem Tx.n_Trial_kept (T : Tx P K mg) : NoAttr K (He.ga K "Trial") "kept" := by
  obtain ⟨h, KX, G, c⟩ := T.says
  exact He.noat_ok (c.fact 90)
theorem Tx.m_Trial_denterd (T : Tx P K mg) : Meth K (He.ga K "Trial") "__enter__" (He.ma K (He.ga K "Trial") "__enter__") := by
  obtain ⟨h, KX, G, c⟩ := T.says
  exact He.meth_ok (c.fact 91)
theorem Tx.m_Trial_dexitd (T : Tx P K mg) : Meth K (He.ga K "Trial") "__exit__" (He.ma K (He.ga K "Trial") "__exit__") := by
  obtain ⟨h, KX, G, c⟩ := T.says
  exact He.meth_ok (c.fact 92)
theorem Tx.sf_Trial (T : Tx P K mg) : PySem.W.selfFirst K (He.ga K "Trial") = true := by
  obtain ⟨h, KX, G, c⟩ := T.says
  exact c.fact 93
theorem Tx.gc_Table (T : Tx P K mg) : mg "Table" = some (.ref (He.ga K "Table")) := by
  obtain ⟨h, KX, G, c⟩ := T.says
  exact He.glo_ok KX G (c.fact 94)
theorem Tx.c_Table (T : Tx P K mg) : Cls K (He.ga K "Table") := by
  obtain ⟨h, KX, G, c⟩ := T.says
  exact He.cls_ok (c.fact 95)
theorem Tx.k_Table (T : Tx P K mg) : Mk K (He.ga K "Table") (He.ma K (He.ga K "Table") "__init__") := by
  obtain ⟨h, KX, G, c⟩ := T.says
  exact He.mkr_ok (c.fact 96)
theorem Tx.n_Table_beginning (T : Tx P K mg) : NoAttr K (He.ga K "Table") "beginning" := by
  obtain ⟨h, KX, G, c⟩ := T.says
  exact He.noat_ok (c.fact 97)
theorem Tx.n_Table_words (T : Tx P K mg) : NoAttr K (He.ga K "Table") "words" := by
  obtain ⟨h, KX, G, c⟩ := T.says
  exact He.noat_ok (c.fact 98)
theorem Tx.n_Table_state (T : Tx P K mg) : NoAttr K (He.ga K "Table") "state" := by
  obtain ⟨h, KX, G, c⟩ := T.says
  exact He.noat_ok (c.fact 99)
theorem Tx.m_Table_dlend (T : Tx P K mg) : Meth K (He.ga K "Table") "__len__" (He.ma K (He.ga K "Table") "__len__") := by
  obtain ⟨h, KX, G, c⟩ := T.says
  exact He.meth_ok (c.fact 100)
theorem Tx.m_Table_deqd (T : Tx P K mg) : Meth K (He.ga K "Table") "__eq__" (He.ma K (He.ga K "Table") "__eq__") := by
  obtain ⟨h, KX, G, c⟩ := T.says
  exact He.meth_ok (c.fact 101)
theorem Tx.m_Table_diaddd (T : Tx P K mg) : Meth K (He.ga K "Table") "__iadd__" (He.ma K (He.ga K "Table") "__iadd__") := by
  obtain ⟨h, KX, G, c⟩ := T.says
  exact He.meth_ok (c.fact 102)
theorem Tx.m_Table_flip (T : Tx P K mg) : Meth K (He.ga K "Table") "flip" (He.ma K (He.ga K "Table") "flip") := by
  obtain ⟨h, KX, G, c⟩ := T.says
  exact He.meth_ok (c.fact 103)
theorem Tx.m_Table_undo (T : Tx P K mg) : Meth K (He.ga K "Table") "undo" (He.ma K (He.ga K "Table") "undo") := by
  obtain ⟨h, KX, G, c⟩ := T.says
  exact He.meth_ok (c.fact 104)
theorem Tx.m_Table_redo (T : Tx P K mg) : Meth K (He.ga K "Table") "redo" (He.ma K (He.ga K "Table") "redo") := by
  obtain ⟨h, KX, G, c⟩ := T.says
  exact He.meth_ok (c.fact 105)
theorem Tx.m_Table_cost_of (T : Tx P K mg) : Meth K (He.ga K "Table") "cost_of" (He.ma K (He.ga K "Table") "cost_of") := by
  obtain ⟨h, KX, G, c⟩ := T.says
  exact He.meth_ok (c.fact 106)
theorem Tx.m_Table_cost (T : Tx P K mg) : Meth K (He.ga K "Table") "cost" (He.ma K (He.ga K "Table") "cost") := by
  obtain ⟨h, KX, G, c⟩ := T.says
  exact He.meth_ok (c.fact 107)
theorem Tx.m_Table_hint (T : Tx P K mg) : Meth K (He.ga K "Table") "hint" (He.ma K (He.ga K "Table") "hint") := by
  obtain ⟨h, KX, G, c⟩ := T.says
  exact He.meth_ok (c.fact 108)
theorem Tx.m_Table_wasted (T : Tx P K mg) : Meth K (He.ga K "Table") "wasted" (He.ma K (He.ga K "Table") "wasted") := by
  obtain ⟨h, KX, G, c⟩ := T.says
  exact He.meth_ok (c.fact 109)
theorem Tx.m_Table_tried (T : Tx P K mg) : Meth K (He.ga K "Table") "tried" (He.ma K (He.ga K "Table") "tried") := by
  obtain ⟨h, KX, G, c⟩ := T.says
  exact He.meth_ok (c.fact 110)
theorem Tx.m_Table_clone (T : Tx P K mg) : Meth K (He.ga K "Table") "clone" (He.ma K (He.ga K "Table") "clone") := by
  obtain ⟨h, KX, G, c⟩ := T.says
  exact He.meth_ok (c.fact 111)
theorem Tx.p_Table_first_row (T : Tx P K mg) : PropOf K (He.ga K "Table") "first_row" (He.ma K (He.ga K "Table") "first_row") (pgAd K "Table" "first_row") := by
  obtain ⟨h, KX, G, c⟩ := T.says
  exact prp_ok (c.fact 112)
theorem Tx.p_Table_row (T : Tx P K mg) : PropOf K (He.ga K "Table") "row" (He.ma K (He.ga K "Table") "row") (pgAd K "Table" "row") := by
  obtain ⟨h, KX, G, c⟩ := T.says
  exact prp_ok (c.fact 113)
theorem Tx.p_Table_game (T : Tx P K mg) : PropOf K (He.ga K "Table") "game" (He.ma K (He.ga K "Table") "game") (pgAd K "Table" "game") := by
  obtain ⟨h, KX, G, c⟩ := T.says
  exact prp_ok (c.fact 114)
theorem Tx.p_Table_flips (T : Tx P K mg) : PropOf K (He.ga K "Table") "flips" (He.ma K (He.ga K "Table") "flips") (pgAd K "Table" "flips") := by
  obtain ⟨h, KX, G, c⟩ := T.says
  exact prp_ok (c.fact 115)
theorem Tx.sf_Table (T : Tx P K mg) : PySem.W.selfFirst K (He.ga K "Table") = true := by
  obtain ⟨h, KX, G, c⟩ := T.says
  exact c.fact 116
theorem Tx.is_Row (T : Tx P K mg) {H : Hp} {a dx : Addr} {fs : List (Str × V)} (e : H a = some (.ins (He.ga K "Row") dx fs)) : TyX K H (.ref a) (.ref (He.ga K "Row")) ∧ PySem.W.kitOne K (.ref (He.ga K "Row")) (.ref (He.ga K "Row")) = some true := by
  have cl := T.c_Row
  obtain ⟨h, KX, G, c⟩ := T.says
  exact ins_ok (c.fact 117) cl e
theorem Tx.is_Flip (T : Tx P K mg) {H : Hp} {a dx : Addr} {fs : List (Str × V)} (e : H a = some (.ins (He.ga K "Flip") dx fs)) : TyX K H (.ref a) (.ref (He.ga K "Flip")) ∧ PySem.W.kitOne K (.ref (He.ga K "Flip")) (.ref (He.ga K "Flip")) = some true := by
  have cl := T.c_Flip
  obtain ⟨h, KX, G, c⟩ := T.says
  exact ins_ok (c.fact 118) cl e
theorem Tx.is_Table (T : Tx P K mg) {H : Hp} {a dx : Addr} {fs : List (Str × V)} (e : H a = some (.ins (He.ga K "Table") dx fs)) : TyX K H (.ref a) (.ref (He.ga K "Table")) ∧ PySem.W.kitOne K (.ref (He.ga K "Table")) (.ref (He.ga K "Table")) = some true := by
  have cl := T.c_Table
  obtain ⟨h, KX, G, c⟩ := T.says
  exact ins_ok (c.fact 119) cl e
theorem Tx.e_InvalidFlip (T : Tx P K mg) : PySem.W.excIn K (He.ga K "InvalidFlip") He.veBase "ValueError.__new__" = true := by
  obtain ⟨h, KX, G, c⟩ := T.says
  exact c.fact 122
theorem Tx.e_NotAllowed (T : Tx P K mg) : PySem.W.excIn K (He.ga K "NotAllowed") rtBase "RuntimeError.__new__" = true := by
  obtain ⟨h, KX, G, c⟩ := T.says
  exact c.fact 123
theorem Tx.e_NothingToUndo (T : Tx P K mg) : PySem.W.excIn K (He.ga K "NothingToUndo") rtBase "RuntimeError.__new__" = true := by
  obtain ⟨h, KX, G, c⟩ := T.says
  exact c.fact 124
theorem Tx.ge_InvalidFlip (T : Tx P K mg) : mg "InvalidFlip" = some (.ref (He.ga K "InvalidFlip")) := by
  obtain ⟨h, KX, G, c⟩ := T.says
  exact He.glo_ok KX G (c.fact 125)
theorem Tx.ke_InvalidFlip (T : Tx P K mg) : PySem.W.keepIn K (.ref (He.ga K "InvalidFlip")) = true := by
  obtain ⟨h, KX, G, c⟩ := T.says
  exact c.fact 126
theorem Tx.r_InvalidFlip (T : Tx P K mg) : PySem.W.subIn K (.ref (He.ga K "InvalidFlip")) (.type "BaseException") = some true ∧ PySem.W.typeIn K (.ref (He.ga K "InvalidFlip")) = some (.type "type") := by
  obtain ⟨h, KX, G, c⟩ := T.says
  exact ⟨of_decide_eq_true (He.ba (c.fact 127)).1, of_decide_eq_true (He.ba (c.fact 127)).2⟩
theorem Tx.ge_NotAllowed (T : Tx P K mg) : mg "NotAllowed" = some (.ref (He.ga K "NotAllowed")) := by
  obtain ⟨h, KX, G, c⟩ := T.says
  exact He.glo_ok KX G (c.fact 128)
theorem Tx.ke_NotAllowed (T : Tx P K mg) : PySem.W.keepIn K (.ref (He.ga K "NotAllowed")) = true := by
  obtain ⟨h, KX, G, c⟩ := T.says
  exact c.fact 129
theorem Tx.r_NotAllowed (T : Tx P K mg) : PySem.W.subIn K (.ref (He.ga K "NotAllowed")) (.type "BaseException") = some true ∧ PySem.W.typeIn K (.ref (He.ga K "NotAllowed")) = some (.type "type") := by
  obtain ⟨h, KX, G, c⟩ := T.says
  exact ⟨of_decide_eq_true (He.ba (c.fact 130)).1, of_decide_eq_true (He.ba (c.fact 130)).2⟩
theorem Tx.ge_NothingToUndo (T : Tx P K mg) : mg "NothingToUndo" = some (.ref (He.ga K "NothingToUndo")) := by
  obtain ⟨h, KX, G, c⟩ := T.says
  exact He.glo_ok KX G (c.fact 131)
theorem Tx.ke_NothingToUndo (T : Tx P K mg) : PySem.W.keepIn K (.ref (He.ga K "NothingToUndo")) = true := by
  obtain ⟨h, KX, G, c⟩ := T.says
  exact c.fact 132
theorem Tx.r_NothingToUndo (T : Tx P K mg) : PySem.W.subIn K (.ref (He.ga K "NothingToUndo")) (.type "BaseException") = some true ∧ PySem.W.typeIn K (.ref (He.ga K "NothingToUndo")) = some (.type "type") := by
  obtain ⟨h, KX, G, c⟩ := T.says
  exact ⟨of_decide_eq_true (He.ba (c.fact 133)).1, of_decide_eq_true (He.ba (c.fact 133)).2⟩
theorem Tx.ge_InvalidPlan (T : Tx P K mg) : mg "InvalidPlan" = some (.ref (He.ga K "InvalidPlan")) := by
  obtain ⟨h, KX, G, c⟩ := T.says
  exact He.glo_ok KX G (c.fact 134)
theorem Tx.ke_InvalidPlan (T : Tx P K mg) : PySem.W.keepIn K (.ref (He.ga K "InvalidPlan")) = true := by
  obtain ⟨h, KX, G, c⟩ := T.says
  exact c.fact 135
theorem Tx.r_InvalidPlan (T : Tx P K mg) : PySem.W.subIn K (.ref (He.ga K "InvalidPlan")) (.type "BaseException") = some true ∧ PySem.W.typeIn K (.ref (He.ga K "InvalidPlan")) = some (.type "type") := by
  obtain ⟨h, KX, G, c⟩ := T.says
  exact ⟨of_decide_eq_true (He.ba (c.fact 136)).1, of_decide_eq_true (He.ba (c.fact 136)).2⟩
theorem Tx.x_InvalidFlip_InvalidFlip (T : Tx P K mg) : PySem.W.exmOne K (.ref (He.ga K "InvalidFlip")) (.ref (He.ga K "InvalidFlip")) = some true := by
  obtain ⟨h, KX, G, c⟩ := T.says
  exact He.exm_ok (c.fact 137)
theorem Tx.x_NotAllowed_InvalidFlip (T : Tx P K mg) : PySem.W.exmOne K (.ref (He.ga K "NotAllowed")) (.ref (He.ga K "InvalidFlip")) = some false := by
  obtain ⟨h, KX, G, c⟩ := T.says
  exact He.exm_ok (c.fact 138)
theorem Tx.x_NotAllowed_NotAllowed (T : Tx P K mg) : PySem.W.exmOne K (.ref (He.ga K "NotAllowed")) (.ref (He.ga K "NotAllowed")) = some true := by
  obtain ⟨h, KX, G, c⟩ := T.says
  exact He.exm_ok (c.fact 139)
theorem Tx.x_NothingToUndo_InvalidFlip (T : Tx P K mg) : PySem.W.exmOne K (.ref (He.ga K "NothingToUndo")) (.ref (He.ga K "InvalidFlip")) = some false := by
  obtain ⟨h, KX, G, c⟩ := T.says
  exact He.exm_ok (c.fact 140)
theorem Tx.x_NothingToUndo_NotAllowed (T : Tx P K mg) : PySem.W.exmOne K (.ref (He.ga K "NothingToUndo")) (.ref (He.ga K "NotAllowed")) = some false := by
  obtain ⟨h, KX, G, c⟩ := T.says
  exact He.exm_ok (c.fact 141)
theorem Tx.x_NothingToUndo_NothingToUndo (T : Tx P K mg) : PySem.W.exmOne K (.ref (He.ga K "NothingToUndo")) (.ref (He.ga K "NothingToUndo")) = some true := by
  obtain ⟨h, KX, G, c⟩ := T.says
  exact He.exm_ok (c.fact 142)
theorem Tx.x_InvalidPlan_InvalidFlip (T : Tx P K mg) : PySem.W.exmOne K (.ref (He.ga K "InvalidPlan")) (.ref (He.ga K "InvalidFlip")) = some false := by
  obtain ⟨h, KX, G, c⟩ := T.says
  exact He.exm_ok (c.fact 143)
theorem Tx.x_InvalidPlan_NotAllowed (T : Tx P K mg) : PySem.W.exmOne K (.ref (He.ga K "InvalidPlan")) (.ref (He.ga K "NotAllowed")) = some false := by
  obtain ⟨h, KX, G, c⟩ := T.says
  exact He.exm_ok (c.fact 144)
theorem Tx.x_InvalidPlan_NothingToUndo (T : Tx P K mg) : PySem.W.exmOne K (.ref (He.ga K "InvalidPlan")) (.ref (He.ga K "NothingToUndo")) = some false := by
  obtain ⟨h, KX, G, c⟩ := T.says
  exact He.exm_ok (c.fact 145)
theorem Tx.x_InvalidPlan_InvalidPlan (T : Tx P K mg) : PySem.W.exmOne K (.ref (He.ga K "InvalidPlan")) (.ref (He.ga K "InvalidPlan")) = some true := by
  obtain ⟨h, KX, G, c⟩ := T.says
  exact He.exm_ok (c.fact 146)
theorem Tx.ipX (T : Tx P K mg) : XfC K (He.ga K "InvalidPlan") ∧ PySem.W.findIn K (.ref (He.ga K "InvalidPlan")) "index" = some none := by
  obtain ⟨h, KX, G, c⟩ := T.says
  exact ⟨xfB_ok (He.ba (c.fact 147)).1, He.eqO_ok (He.ba (c.fact 147)).2⟩
theorem Tx.nq_Table (T : Tx P K mg) : neIn K (He.ga K "Table") (He.ma K (He.ga K "Table") "__eq__") = true := by
  obtain ⟨h, KX, G, c⟩ := T.says
  exact c.fact 158
theorem Tx.co_Flip (T : Tx P K mg) : StX.CallO K (He.ga K "Flip") (He.ma K (He.ga K "Flip") "__call__") := by
  have m := T.m_Flip_dcalld
  obtain ⟨h, KX, G, c⟩ := T.says
  exact ⟨m.at_, m.fn, c.fact 159⟩
theorem Tx.cT_ne (T : Tx P K mg) : (He.cT K ("_law_pair", none)).2 ≠ (He.cT K ("_law_more_pair", none)).2 := by
  obtain ⟨h, KX, G, c⟩ := T.says
  exact fun z => by
    have w : (!((He.cT K ("_law_pair", none)).2 == (He.cT K ("_law_more_pair", none)).2)) = true := c.fact 160
    rw [z, beq_self_eq_true] at w
    cases w
theorem Tx.d_is_number (T : Tx P K mg) : ∃ fd, Fun K "is_number" "is_number" (top 14) (He.ga K "is_number") fd := by
  obtain ⟨h, KX, G, c⟩ := T.says
  exact c.def_ 0
theorem Tx.d_is_count (T : Tx P K mg) : ∃ fd, Fun K "is_count" "is_count" (top 15) (He.ga K "is_count") fd := by
  obtain ⟨h, KX, G, c⟩ := T.says
  exact c.def_ 1
theorem Tx.d_is_colour (T : Tx P K mg) : ∃ fd, Fun K "is_colour" "is_colour" (top 16) (He.ga K "is_colour") fd := by
  obtain ⟨h, KX, G, c⟩ := T.says
  exact c.def_ 2
theorem Tx.d_joined (T : Tx P K mg) : ∃ fd, Fun K "joined" "joined" (top 21) (He.ga K "joined") fd := by
  obtain ⟨h, KX, G, c⟩ := T.says
  exact c.def_ 3
theorem Tx.d_row_of (T : Tx P K mg) : ∃ fd, Fun K "row_of" "row_of" (top 23) (He.ga K "row_of") fd := by
  obtain ⟨h, KX, G, c⟩ := T.says
  exact c.def_ 4
theorem Tx.d_text_of (T : Tx P K mg) : ∃ fd, Fun K "text_of" "text_of" (top 24) (He.ga K "text_of") fd := by
  obtain ⟨h, KX, G, c⟩ := T.says
  exact c.def_ 5
theorem Tx.d_check_row (T : Tx P K mg) : ∃ fd, Fun K "check_row" "check_row" (top 25) (He.ga K "check_row") fd := by
  obtain ⟨h, KX, G, c⟩ := T.says
  exact c.def_ 6
theorem Tx.d_check_game (T : Tx P K mg) : ∃ fd, Fun K "check_game" "check_game" (top 28) (He.ga K "check_game") fd := by
  obtain ⟨h, KX, G, c⟩ := T.says
  exact c.def_ 7
theorem Tx.d_can_be_used (T : Tx P K mg) : ∃ fd, Fun K "can_be_used" "can_be_used" (top 30) (He.ga K "can_be_used") fd := by
  obtain ⟨h, KX, G, c⟩ := T.says
  exact c.def_ 8
theorem Tx.d_is_allowed (T : Tx P K mg) : ∃ fd, Fun K "is_allowed" "is_allowed" (top 31) (He.ga K "is_allowed") fd := by
  obtain ⟨h, KX, G, c⟩ := T.says
  exact c.def_ 9
theorem Tx.d_check_goal (T : Tx P K mg) : ∃ fd, Fun K "check_goal" "check_goal" (top 34) (He.ga K "check_goal") fd := by
  obtain ⟨h, KX, G, c⟩ := T.says
  exact c.def_ 10
theorem Tx.d_check_words (T : Tx P K mg) : ∃ fd, Fun K "check_words" "check_words" (top 35) (He.ga K "check_words") fd := by
  obtain ⟨h, KX, G, c⟩ := T.says
  exact c.def_ 11
theorem Tx.d_sorting_cost (T : Tx P K mg) : ∃ fd, Fun K "sorting_cost" "sorting_cost" (top 36) (He.ga K "sorting_cost") fd := by
  obtain ⟨h, KX, G, c⟩ := T.says
  exact c.def_ 12
theorem Tx.d_plain_cost (T : Tx P K mg) : ∃ fd, Fun K "plain_cost" "plain_cost" (top 37) (He.ga K "plain_cost") fd := by
  obtain ⟨h, KX, G, c⟩ := T.says
  exact c.def_ 13
theorem Tx.d_numbers_by_kind (T : Tx P K mg) : ∃ fd, Fun K "numbers_by_kind" "numbers_by_kind" (top 39) (He.ga K "numbers_by_kind") fd := by
  obtain ⟨h, KX, G, c⟩ := T.says
  exact c.def_ 14
theorem Tx.d_state_after (T : Tx P K mg) : ∃ fd, Fun K "state_after" "state_after" (top 40) (He.ga K "state_after") fd := by
  obtain ⟨h, KX, G, c⟩ := T.says
  exact c.def_ 15
theorem Tx.d_kinds_of_game (T : Tx P K mg) : ∃ fd, Fun K "kinds_of_game" "kinds_of_game" (top 41) (He.ga K "kinds_of_game") fd := by
  obtain ⟨h, KX, G, c⟩ := T.says
  exact c.def_ 16
theorem Tx.d_best_kinds (T : Tx P K mg) : ∃ fd, Fun K "best_kinds" "best_kinds" (top 42) (He.ga K "best_kinds") fd := by
  obtain ⟨h, KX, G, c⟩ := T.says
  exact c.def_ 17
theorem Tx.d_first_flip (T : Tx P K mg) : ∃ fd, Fun K "first_flip" "first_flip" (top 44) (He.ga K "first_flip") fd := by
  obtain ⟨h, KX, G, c⟩ := T.says
  exact c.def_ 18
theorem Tx.d_law_stream (T : Tx P K mg) : ∃ fd, Fun K "_law_stream" "_law_stream" (top 48) (He.ga K "_law_stream") fd := by
  obtain ⟨h, KX, G, c⟩ := T.says
  exact c.def_ 19
theorem Tx.d_law_draw (T : Tx P K mg) : ∃ fd, Fun K "_law_draw" "_law_draw" (top 49) (He.ga K "_law_draw") fd := by
  obtain ⟨h, KX, G, c⟩ := T.says
  exact c.def_ 20
theorem Tx.d_law_text (T : Tx P K mg) : ∃ fd, Fun K "_law_text" "_law_text" (top 50) (He.ga K "_law_text") fd := by
  obtain ⟨h, KX, G, c⟩ := T.says
  exact c.def_ 21
theorem Tx.d_law_turn (T : Tx P K mg) : ∃ fd, Fun K "_law_turn" "_law_turn" (top 51) (He.ga K "_law_turn") fd := by
  obtain ⟨h, KX, G, c⟩ := T.says
  exact c.def_ 22
theorem Tx.d_law_places (T : Tx P K mg) : ∃ fd, Fun K "_law_places" "_law_places" (top 52) (He.ga K "_law_places") fd := by
  obtain ⟨h, KX, G, c⟩ := T.says
  exact c.def_ 23
theorem Tx.d_law_is_done (T : Tx P K mg) : ∃ fd, Fun K "_law_is_done" "_law_is_done" (top 53) (He.ga K "_law_is_done") fd := by
  obtain ⟨h, KX, G, c⟩ := T.says
  exact c.def_ 24
theorem Tx.d_law_words (T : Tx P K mg) : ∃ fd, Fun K "_law_words" "_law_words" (top 54) (He.ga K "_law_words") fd := by
  obtain ⟨h, KX, G, c⟩ := T.says
  exact c.def_ 25
theorem Tx.d_law_levels (T : Tx P K mg) : ∃ fd, Fun K "_law_levels" "_law_levels" (top 55) (He.ga K "_law_levels") fd := by
  obtain ⟨h, KX, G, c⟩ := T.says
  exact c.def_ 26
theorem Tx.d_law_hint (T : Tx P K mg) : ∃ fd, Fun K "_law_hint" "_law_hint" (top 56) (He.ga K "_law_hint") fd := by
  obtain ⟨h, KX, G, c⟩ := T.says
  exact c.def_ 27
theorem Tx.d_law_heard (T : Tx P K mg) : ∃ fd, Fun K "_law_heard" "_law_heard" (top 57) (He.ga K "_law_heard") fd := by
  obtain ⟨h, KX, G, c⟩ := T.says
  exact c.def_ 28
theorem Tx.d_law_joined (T : Tx P K mg) : ∃ fd, Fun K "_law_joined" "_law_joined" (top 58) (He.ga K "_law_joined") fd := by
  obtain ⟨h, KX, G, c⟩ := T.says
  exact c.def_ 29
theorem Tx.d_law_flipped (T : Tx P K mg) : ∃ fd, Fun K "_law_flipped" "_law_flipped" (top 59) (He.ga K "_law_flipped") fd := by
  obtain ⟨h, KX, G, c⟩ := T.says
  exact c.def_ 30
theorem Tx.d_law_undone (T : Tx P K mg) : ∃ fd, Fun K "_law_undone" "_law_undone" (top 60) (He.ga K "_law_undone") fd := by
  obtain ⟨h, KX, G, c⟩ := T.says
  exact c.def_ 31
theorem Tx.d_law_redone (T : Tx P K mg) : ∃ fd, Fun K "_law_redone" "_law_redone" (top 61) (He.ga K "_law_redone") fd := by
  obtain ⟨h, KX, G, c⟩ := T.says
  exact c.def_ 32
theorem Tx.d_law_listed (T : Tx P K mg) : ∃ fd, Fun K "_law_listed" "_law_listed" (top 62) (He.ga K "_law_listed") fd := by
  obtain ⟨h, KX, G, c⟩ := T.says
  exact c.def_ 33
theorem Tx.d_law_drawn_place (T : Tx P K mg) : ∃ fd, Fun K "_law_drawn_place" "_law_drawn_place" (top 63) (He.ga K "_law_drawn_place") fd := by
  obtain ⟨h, KX, G, c⟩ := T.says
  exact c.def_ 34
theorem Tx.d_law_some_places (T : Tx P K mg) : ∃ fd, Fun K "_law_some_places" "_law_some_places" (top 64) (He.ga K "_law_some_places") fd := by
  obtain ⟨h, KX, G, c⟩ := T.says
  exact c.def_ 35
theorem Tx.d_law_pair (T : Tx P K mg) : ∃ fd, Fun K "_law_pair" "_law_pair" (top 65) (He.ga K "_law_pair") fd := by
  obtain ⟨h, KX, G, c⟩ := T.says
  exact c.def_ 36
theorem Tx.d_law_more_pair (T : Tx P K mg) : ∃ fd, Fun K "_law_more_pair" "_law_more_pair" (top 66) (He.ga K "_law_more_pair") fd := by
  obtain ⟨h, KX, G, c⟩ := T.says
  exact c.def_ 37
theorem Tx.d_law_agrees (T : Tx P K mg) : ∃ fd, Fun K "_law_agrees" "_law_agrees" (top 67) (He.ga K "_law_agrees") fd := by
  obtain ⟨h, KX, G, c⟩ := T.says
  exact c.def_ 38
theorem Tx.d_law (T : Tx P K mg) : ∃ fd, Fun K "law" "law" (top 68) (He.ga K "law") fd := by
  obtain ⟨h, KX, G, c⟩ := T.says
  exact c.def_ 39
theorem Tx.d_Row_dinitd (T : Tx P K mg) : ∃ fd, Fun K "__init__" "Row.__init__" (inClass (top 22) 0) (He.ma K (He.ga K "Row") "__init__") fd := by
  obtain ⟨h, KX, G, c⟩ := T.says
  exact c.def_ 40
theorem Tx.d_Row_deqd (T : Tx P K mg) : ∃ fd, Fun K "__eq__" "Row.__eq__" (inClass (top 22) 6) (He.ma K (He.ga K "Row") "__eq__") fd := by
  obtain ⟨h, KX, G, c⟩ := T.says
  exact c.def_ 41
theorem Tx.d_Row_daddd (T : Tx P K mg) : ∃ fd, Fun K "__add__" "Row.__add__" (inClass (top 22) 10) (He.ma K (He.ga K "Row") "__add__") fd := by
  obtain ⟨h, KX, G, c⟩ := T.says
  exact c.def_ 42
theorem Tx.d_Row_dinvertd (T : Tx P K mg) : ∃ fd, Fun K "__invert__" "Row.__invert__" (inClass (top 22) 12) (He.ma K (He.ga K "Row") "__invert__") fd := by
  obtain ⟨h, KX, G, c⟩ := T.says
  exact c.def_ 43
theorem Tx.d_Row_part (T : Tx P K mg) : ∃ fd, Fun K "part" "Row.part" (inClass (top 22) 14) (He.ma K (He.ga K "Row") "part") fd := by
  obtain ⟨h, KX, G, c⟩ := T.says
  exact c.def_ 44
theorem Tx.d_Row_borders (T : Tx P K mg) : ∃ fd, Fun K "borders" "Row.borders" (inClass (top 22) 16) (He.ma K (He.ga K "Row") "borders") fd := by
  obtain ⟨h, KX, G, c⟩ := T.says
  exact c.def_ 45
theorem Tx.d_Row_first (T : Tx P K mg) : ∃ fd, Fun K "first" "Row.first" (inClass (top 22) 1) (pgAd K "Row" "first") fd := by
  obtain ⟨h, KX, G, c⟩ := T.says
  exact c.def_ 46
theorem Tx.d_Row_lengths (T : Tx P K mg) : ∃ fd, Fun K "lengths" "Row.lengths" (inClass (top 22) 3) (pgAd K "Row" "lengths") fd := by
  obtain ⟨h, KX, G, c⟩ := T.says
  exact c.def_ 47
theorem Tx.d_Row_runs (T : Tx P K mg) : ∃ fd, Fun K "runs" "Row.runs" (inClass (top 22) 4) (pgAd K "Row" "runs") fd := by
  obtain ⟨h, KX, G, c⟩ := T.says
  exact c.def_ 48
theorem Tx.d_Row_length (T : Tx P K mg) : ∃ fd, Fun K "length" "Row.length" (inClass (top 22) 5) (pgAd K "Row" "length") fd := by
  obtain ⟨h, KX, G, c⟩ := T.says
  exact c.def_ 49
theorem Tx.d_Flip_dinitd (T : Tx P K mg) : ∃ fd, Fun K "__init__" "Flip.__init__" (inClass (top 29) 0) (He.ma K (He.ga K "Flip") "__init__") fd := by
  obtain ⟨h, KX, G, c⟩ := T.says
  exact c.def_ 50
theorem Tx.d_Flip_check (T : Tx P K mg) : ∃ fd, Fun K "check" "Flip.check" (inClass (top 29) 4) (He.ma K (He.ga K "Flip") "check") fd := by
  obtain ⟨h, KX, G, c⟩ := T.says
  exact c.def_ 51
theorem Tx.d_Flip_dcalld (T : Tx P K mg) : ∃ fd, Fun K "__call__" "Flip.__call__" (inClass (top 29) 5) (He.ma K (He.ga K "Flip") "__call__") fd := by
  obtain ⟨h, KX, G, c⟩ := T.says
  exact c.def_ 52
theorem Tx.d_Flip_start (T : Tx P K mg) : ∃ fd, Fun K "start" "Flip.start" (inClass (top 29) 1) (pgAd K "Flip" "start") fd := by
  obtain ⟨h, KX, G, c⟩ := T.says
  exact c.def_ 53
theorem Tx.d_Flip_end (T : Tx P K mg) : ∃ fd, Fun K "end" "Flip.end" (inClass (top 29) 2) (pgAd K "Flip" "end") fd := by
  obtain ⟨h, KX, G, c⟩ := T.says
  exact c.def_ 54
theorem Tx.d_Trial_dinitd (T : Tx P K mg) : ∃ fd, Fun K "__init__" "Trial.__init__" (inClass (top 45) 0) (He.ma K (He.ga K "Trial") "__init__") fd := by
  obtain ⟨h, KX, G, c⟩ := T.says
  exact c.def_ 55
theorem Tx.d_Trial_denterd (T : Tx P K mg) : ∃ fd, Fun K "__enter__" "Trial.__enter__" (inClass (top 45) 1) (He.ma K (He.ga K "Trial") "__enter__") fd := by
  obtain ⟨h, KX, G, c⟩ := T.says
  exact c.def_ 56
theorem Tx.d_Trial_dexitd (T : Tx P K mg) : ∃ fd, Fun K "__exit__" "Trial.__exit__" (inClass (top 45) 2) (He.ma K (He.ga K "Trial") "__exit__") fd := by
  obtain ⟨h, KX, G, c⟩ := T.says
  exact c.def_ 57
theorem Tx.d_Table_dinitd (T : Tx P K mg) : ∃ fd, Fun K "__init__" "Table.__init__" (inClass (top 46) 0) (He.ma K (He.ga K "Table") "__init__") fd := by
  obtain ⟨h, KX, G, c⟩ := T.says
  exact c.def_ 58
theorem Tx.d_Table_dlend (T : Tx P K mg) : ∃ fd, Fun K "__len__" "Table.__len__" (inClass (top 46) 6) (He.ma K (He.ga K "Table") "__len__") fd := by
  obtain ⟨h, KX, G, c⟩ := T.says
  exact c.def_ 59
theorem Tx.d_Table_deqd (T : Tx P K mg) : ∃ fd, Fun K "__eq__" "Table.__eq__" (inClass (top 46) 7) (He.ma K (He.ga K "Table") "__eq__") fd := by
  obtain ⟨h, KX, G, c⟩ := T.says
  exact c.def_ 60
theorem Tx.d_Table_diaddd (T : Tx P K mg) : ∃ fd, Fun K "__iadd__" "Table.__iadd__" (inClass (top 46) 8) (He.ma K (He.ga K "Table") "__iadd__") fd := by
  obtain ⟨h, KX, G, c⟩ := T.says
  exact c.def_ 61
theorem Tx.d_Table_flip (T : Tx P K mg) : ∃ fd, Fun K "flip" "Table.flip" (inClass (top 46) 9) (He.ma K (He.ga K "Table") "flip") fd := by
  obtain ⟨h, KX, G, c⟩ := T.says
  exact c.def_ 62
theorem Tx.d_Table_undo (T : Tx P K mg) : ∃ fd, Fun K "undo" "Table.undo" (inClass (top 46) 10) (He.ma K (He.ga K "Table") "undo") fd := by
  obtain ⟨h, KX, G, c⟩ := T.says
  exact c.def_ 63
theorem Tx.d_Table_redo (T : Tx P K mg) : ∃ fd, Fun K "redo" "Table.redo" (inClass (top 46) 11) (He.ma K (He.ga K "Table") "redo") fd := by
  obtain ⟨h, KX, G, c⟩ := T.says
  exact c.def_ 64
theorem Tx.d_Table_cost_of (T : Tx P K mg) : ∃ fd, Fun K "cost_of" "Table.cost_of" (inClass (top 46) 12) (He.ma K (He.ga K "Table") "cost_of") fd := by
  obtain ⟨h, KX, G, c⟩ := T.says
  exact c.def_ 65
theorem Tx.d_Table_cost (T : Tx P K mg) : ∃ fd, Fun K "cost" "Table.cost" (inClass (top 46) 13) (He.ma K (He.ga K "Table") "cost") fd := by
  obtain ⟨h, KX, G, c⟩ := T.says
  exact c.def_ 66
theorem Tx.d_Table_hint (T : Tx P K mg) : ∃ fd, Fun K "hint" "Table.hint" (inClass (top 46) 14) (He.ma K (He.ga K "Table") "hint") fd := by
  obtain ⟨h, KX, G, c⟩ := T.says
  exact c.def_ 67
theorem Tx.d_Table_wasted (T : Tx P K mg) : ∃ fd, Fun K "wasted" "Table.wasted" (inClass (top 46) 15) (He.ma K (He.ga K "Table") "wasted") fd := by
  obtain ⟨h, KX, G, c⟩ := T.says
  exact c.def_ 68
theorem Tx.d_Table_tried (T : Tx P K mg) : ∃ fd, Fun K "tried" "Table.tried" (inClass (top 46) 16) (He.ma K (He.ga K "Table") "tried") fd := by
  obtain ⟨h, KX, G, c⟩ := T.says
  exact c.def_ 69
theorem Tx.d_Table_clone (T : Tx P K mg) : ∃ fd, Fun K "clone" "Table.clone" (inClass (top 46) 17) (He.ma K (He.ga K "Table") "clone") fd := by
  obtain ⟨h, KX, G, c⟩ := T.says
  exact c.def_ 70
theorem Tx.d_Table_first_row (T : Tx P K mg) : ∃ fd, Fun K "first_row" "Table.first_row" (inClass (top 46) 1) (pgAd K "Table" "first_row") fd := by
  obtain ⟨h, KX, G, c⟩ := T.says
  exact c.def_ 71
theorem Tx.d_Table_row (T : Tx P K mg) : ∃ fd, Fun K "row" "Table.row" (inClass (top 46) 2) (pgAd K "Table" "row") fd := by
  obtain ⟨h, KX, G, c⟩ := T.says
  exact c.def_ 72
theorem Tx.d_Table_game (T : Tx P K mg) : ∃ fd, Fun K "game" "Table.game" (inClass (top 46) 3) (pgAd K "Table" "game") fd := by
  obtain ⟨h, KX, G, c⟩ := T.says
  exact c.def_ 73
theorem Tx.d_Table_flips (T : Tx P K mg) : ∃ fd, Fun K "flips" "Table.flips" (inClass (top 46) 5) (pgAd K "Table" "flips") fd := by
  obtain ⟨h, KX, G, c⟩ := T.says
  exact c.def_ 74
abbrev sIp : Stmt := inClass (top 8) 0
theorem Tx.ipC (T : Tx P K mg) : IpC P K (He.ga K "InvalidPlan") (He.ma K (He.ga K "InvalidPlan") "__init__") "__init__" "InvalidPlan.__init__" sIp := by
  have no := T.ipX.2
  have ke := T.ke_InvalidPlan
  have r := T.r_InvalidPlan
  have hf := T.file
  have hs := T.sup
  obtain ⟨h, KX, G, c⟩ := T.says
  have hcd := c.fact 149
  have hcl := c.fact 157
  obtain ⟨kp, cl, oc, od, osl, kV, doc, pm, an, cdv, ct, _, lk, hcode⟩ := c.defC 75
  refine ⟨c.fact 148, ?cd, He.eqO_ok (c.fact 150), of_decide_eq_true (c.fact 151), He.eqO_ok (c.fact 152), r.1, r.2, ke, no, ?fn, of_decide_eq_true (c.fact 153), hs, He.eqO_ok (c.fact 154), He.eqO_ok (c.fact 155), of_decide_eq_true (c.fact 156)⟩
  case cd =>
    have z : ipCd K (He.ga K "InvalidPlan") = true := hcd
    unfold ipCd at z
    cases q : PySem.W.clsIn K (He.ga K "InvalidPlan") with
    | none => rw [q] at z; cases z
    | some cd => rw [q] at z; exact ⟨cd, rfl, (He.ba z).1, (He.ba z).2⟩
  case fn =>
    have z : ipCl K (He.ga K "InvalidPlan") = true := hcl
    unfold ipCl at z
    have lk' : K.lookup (He.ma K (He.ga K "InvalidPlan") "__init__") = some ⟨oc, od, .func (PySem.W.fnX "__init__" "InvalidPlan.__init__" (defArgs sIp) (defBody sIp) (defScope sIp) cl .none kV doc pm an cdv ct), osl⟩ := lk
    rw [lk'] at z
    dsimp only at z
    rcases cl with _ | ⟨⟨s, cc⟩, _ | ⟨x, r⟩⟩
    · exact Bool.noConfusion (show false = true from z)
    · cases cdv with
      | ref cda =>
        obtain ⟨z1, z2⟩ := He.ba z
        obtain ⟨z3, z4⟩ := He.ba z2
        have hs : s = ("__class__" : Str) := beq_iff_eq.mp z1
        subst hs
        split at z3
        · rename_i D _ hc1
          have hD : D = He.ga K "InvalidPlan" := beq_iff_eq.mp z3
          subst hD
          split at z4
          · rename_i vs _ hc2
            split at z4
            · rename_i f tk _ hv
              have hfile : fileR = f := beq_iff_eq.mp z4
              refine ⟨oc, od, osl, kV, doc, pm, an, cda, ct, cc, _, _, _, _, _, _, vs, f, tk, lk', hcode, hc2, ?_, ?_, hc1⟩
              · rw [← Array.getElem?_toList, hv]
                rfl
              · rw [hf, hfile]
                exact beq_self_eq_true f
            · cases z4
          · cases z4
        · cases z3
      | _ => exact Bool.noConfusion (show false = true from z)
    · cases cdv <;> exact Bool.noConfusion (show false = true from z)
end
end Tcf

set_option Elab.async false
set_option linter.all false
set_option maxRecDepth 100000
set_option maxHeartbeats 4000000
/-! EN: readings, step by step (w_*), over heaps that grow (Ex). -/
namespace Tcf
open PySem PySem.Spec PyProof.Rows L2
open Evl (Ex)
theorem ex_at {H H' : Hp} {a : Addr} {o : HO} (e : Ex H H') (h : H a = some o) : H' a = some o := e a o h
theorem ex_rd {H H' : Hp} {a : Addr} {u : HO} (e : Ex H H') (h : Rd H a u) : Rd H' a u := by
  rcases h with h | ⟨o, h⟩
  · exact .inl (e a _ h)
  · exact .inr ⟨o, e a _ h⟩
theorem ex_l {K : PySem.W.Frag} {H H' : Hp} {a : Addr} {xs : List V} (e : Ex H H') (h : SqL K H a xs) : SqL K H' a xs := h.elim (fun h => .inl (ex_rd e h)) .inr
theorem ex_t {K : PySem.W.Frag} {H H' : Hp} {a : Addr} {xs : List V} (e : Ex H H') (h : SqT K H a xs) : SqT K H' a xs := h.elim (fun h => .inl (ex_rd e h)) .inr
theorem sl_of {K : PySem.W.Frag} {H : Hp} {a : Addr} {xs : List V} (h : H a = some (.lst xs)) : SqL K H a xs := .inl (.inl h)
theorem st_of {K : PySem.W.Frag} {H : Hp} {a : Addr} {xs : List V} (h : H a = some (.tup xs)) : SqT K H a xs := .inl (.inl h)
theorem fr_back {H H' : Hp} {p : Addr} (e : Ex H H') (h : H' p = none) : H p = none := by
  cases q : H p with
  | none => rfl
  | some o =>
    rw [e p o q] at h
    cases h
theorem sz_le {n : Nat} (h : n ≤ 100000) : n ≤ sizeLine := Nat.le_trans h (by decide)
theorem sz_lt {n : Nat} (h : n < 100000) : n < sizeLine := Nat.lt_of_lt_of_le h (by decide)
/-! ### rules whose readings bear no name -/
def rNs : R2 := fun x y H Q => y = .non ∧ Q (.bl (decide (x = .non))) H
def rNn : R2 := fun x y H Q => y = .non ∧ Q (.bl (!decide (x = .non))) H
def rNinS : R2 := fun x y H Q => ∃ i j, x = .str i ∧ y = .str j ∧ Q (.bl (!(!(Builtin.Str.occurrences j i 0 j.length 1).isEmpty))) H
def rInSg : R2 := fun x y H Q => ∃ (c : Nat) (z : Str), x = .str ⟨#[c]⟩ ∧ y = .str z ∧ Q (.bl (decide (c ∈ z.cps.toList))) H
def rAddS : R2 := fun x y H Q => ∃ i j, x = .str i ∧ y = .str j ∧ i.length + j.length ≤ sizeLine ∧ Q (.str (i ++ j)) H
def rLenQ (K : PySem.W.Frag) : List V → Hp → VK → Prop := fun xs H Q => ∃ p ys, xs = [.ref p] ∧ (SqL K H p ys ∨ SqT K H p ys) ∧ Q (.int ys.length) H
def rLenT : List V → Hp → VK → Prop := fun xs H Q => ∃ z, xs = [.str z] ∧ z.length ≤ sizeLine ∧ Q (.int z.length) H
def rMin2 : List V → Hp → VK → Prop := fun xs H Q => ∃ i j, xs = [.int i, .int j] ∧ Q (.int (if j < i then j else i)) H
def rMax2 : List V → Hp → VK → Prop := fun xs H Q => ∃ i j, xs = [.int i, .int j] ∧ Q (.int (if j > i then j else i)) H
def rInt1 : List V → Hp → VK → Prop := fun xs H Q => (∃ i, xs = [.int i] ∧ Q (.int i) H) ∨ ∃ k, xs = [.bl k] ∧ Q (.int (if k then 1 else 0)) H
def rIntS : List V → Hp → VK → Prop := fun xs H Q => ∃ a n, xs = [.str a] ∧ PySem.intText? a = some n ∧ a.length ≤ 640 ∧ Q (.int n) H
def rStrI : List V → Hp → VK → Prop := fun xs H Q => ∃ i, xs = [.int i] ∧ i.natAbs.log2 < 1920 ∧ Q (.str (toString i)) H
def rListO (K : PySem.W.Frag) : List V → Hp → VK → Prop := fun xs H Q => ∃ p ys, xs = [.ref p] ∧ (SqL K H p ys ∨ SqT K H p ys) ∧ ∀ l, H l = none → Q (.ref l) (upd H l (.lst ys))
def rDictP (K : PySem.W.Frag) : List V → Hp → VK → Prop := fun xs H Q => ∃ (a : Addr) (ps : List Addr) (kvs : List (Key × V)), xs = [.ref a] ∧ SqL K H a (ps.map V.ref) ∧ Paired (fun p kv => SqT K H p [kV kv.1, kv.2]) ps kvs ∧ ∀ p, H p = none → Q (.ref p) (upd H p (.dK (mergeK [] kvs)))
def rCountS : V → List V → Hp → VK → Prop := fun x xs H Q => ∃ a b, x = .str a ∧ xs = [.str b] ∧ Q (.int (Txt.count a b)) H
section
variable {X : Cx}
theorem oq_isN : OpR X (compareOp .Is) rNs := op_isN
theorem oq_notN : OpR X (compareOp .IsNot) rNn := op_notN
theorem oq_ninS : OpR X (compareOp .NotIn) rNinS := op_notin_str
theorem oq_inSg : OpR X (compareOp .In) rInSg := op_in_sign
theorem oq_addS : OpR X (binaryOp .Add) rAddS := op_add_str
theorem cq_lenQ : CallR X (.builtin "len") (rLenQ X.K) := call_len_seq
theorem cq_lenT : CallR X (.builtin "len") rLenT := call_len_str
theorem cq_min2 (h : X.calm = true) : CallR X (.builtin "min") rMin2 := call_min2 h
theorem cq_max2 (h : X.calm = true) : CallR X (.builtin "max") rMax2 := call_max2 h
theorem cq_int1 : CallR X (.type "int") rInt1 := call_int1
theorem cq_intS : CallR X (.type "int") rIntS := call_int_str
theorem cq_strI : CallR X (.type "str") rStrI := call_str_int
theorem cq_listO : CallR X (.type "list") (rListO X.K) := call_list_of
theorem cq_dictP (h : X.calm = true) : CallR X (.type "dict") (rDictP X.K) := call_dictP h
theorem mq_count : MtR X "str.count" rCountS := mt_count
end
/-! ### steps -/
/-- for a new object o at any free place -/
def NewQ (o : HO) (Q : VK) (H : Hp) : Prop := ∀ p, H p = none → Q (.ref p) (upd H p o)
section
variable {K : PySem.W.Frag} {σ : L2.St} {H : Hp} {Q : VK} {ta tb tc te tf to ti : TE} {t u : TT} {QB : Bool → Hp → Prop} {D : Ends} {ts tu tv tw : TS} {tr : TA} {QA : List V → Hp → Prop} {g : TG} {v x y : V} {i j : Nat} {a b p C dx : Addr} {xs ys : List V} {fs : List (Str × V)} {m n : Int} {z w : Str} {k c : Bool}
theorem w_new {o : HO} (q : ∀ p H2, Ex H H2 → H p = none → H2 p = some o → Q (.ref p) H2) : NewQ o Q H := fun p hp => q p _ (Ex.new hp) hp upd_same
theorem w_var (h : σ[i]? = some (some v)) (q : Q v H) : tVar i σ H Q := ⟨v, h, q⟩
theorem w_c (q : Q v H) : tC v σ H Q := q
theorem w_op {r : R2} (q : ta σ H fun x H1 => tb σ H1 fun y H2 => r x y H2 Q) : tOp r ta tb σ H Q := q
theorem w_un {r : V → Hp → VK → Prop} (q : ta σ H fun x H1 => r x H1 Q) : tUn r ta σ H Q := q
theorem w_nil (q : QA [] H) : tNil σ H QA := q
theorem w_cons (q : ta σ H fun x H1 => tr σ H1 fun xs H2 => QA (x :: xs) H2) : tCons ta tr σ H QA := q
def StarQ (K : PySem.W.Frag) (tr : TA) (σ : L2.St) (QA : List V → Hp → Prop) : VK := fun x H1 => ∃ p xs, x = V.ref p ∧ (SqT K H1 p xs ∨ SqL K H1 p xs) ∧ tr σ H1 fun ys H2 => QA (xs ++ ys) H2
theorem w_star (q : te σ H (StarQ K tr σ QA)) : StX.tStar K te tr σ H QA := q
theorem w_starL (h : SqL K H p xs) (q : tr σ H fun ys H2 => QA (xs ++ ys) H2) : StarQ K tr σ QA (.ref p) H := ⟨p, xs, rfl, .inr h, q⟩
theorem w_tup (q : tr σ H fun xs H1 => xs.length ≤ sizeLine ∧ NewQ (.tup xs) Q H1) : tTup tr σ H Q := q
theorem w_lst (q : tr σ H fun xs H1 => xs.length ≤ sizeLine ∧ NewQ (.lst xs) Q H1) : tLst tr σ H Q := q
theorem w_if (q : t σ H fun c H1 => if c = true then ta σ H1 Q else tb σ H1 Q) : tIf t ta tb σ H Q := q
theorem w_ite {A B : Prop} (h1 : c = true → A) (h2 : c = false → B) : if c = true then A else B := by
  cases c with
  | true => exact iteT (h1 rfl)
  | false => exact iteF (h2 rfl)
theorem w_yes {A B : Prop} (h : c = true) (q : A) : if c = true then A else B := by rw [h]; exact iteT q
theorem w_no {A B : Prop} (h : c = false) (q : B) : if c = true then A else B := by rw [h]; exact iteF q
theorem w_and (q : t σ H fun c H1 => if c = true then u σ H1 QB else QB false H1) : tAnd t u σ H QB := q
theorem w_or (q : t σ H fun c H1 => if c = true then QB true H1 else u σ H1 QB) : tOr t u σ H QB := q
theorem w_not (q : t σ H fun c H1 => QB (!c) H1) : tNot t σ H QB := q
def BoolQ (QB : Bool → Hp → Prop) : VK := fun x H1 => ∃ c, x = .bl c ∧ QB c H1
theorem w_bq (q : QB c H) : BoolQ QB (.bl c) H := ⟨c, rfl, q⟩
theorem w_B (q : te σ H (BoolQ QB)) : tB te σ H QB := q
theorem w_test (q : te σ H (BoolQ QB)) : tTest te σ H QB := q
theorem w_andV (q : ta σ H (BoolQ fun c H1 => if c = true then tb σ H1 Q else Q (.bl false) H1)) : tAndV ta tb σ H Q := q
theorem w_orV (q : ta σ H (BoolQ fun c H1 => if c = true then Q (.bl true) H1 else tb σ H1 Q)) : tOrV ta tb σ H Q := q
theorem w_notV (q : ta σ H (BoolQ fun c H1 => Q (.bl (!c)) H1)) : tNotV ta σ H Q := q
theorem w_chain {r r' : R2} (q : ta σ H fun x H1 => tb σ H1 fun y H2 => r x y H2 (BoolQ fun k H3 => if k = true then tc σ H3 fun z H4 => r' y z H4 Q else Q (.bl false) H3)) : tChain r r' ta tb tc σ H Q := q
theorem w_rI0 {f : Int → Int → V} (q : Q (f m n) H) : rI0 f (.int m) (.int n) H Q := ⟨m, n, rfl, rfl, q⟩
theorem w_rI {P : Int → Int → Prop} {f : Int → Int → V} (h : P m n) (q : Q (f m n) H) : rI P f (.int m) (.int n) H Q := ⟨m, n, rfl, rfl, h, q⟩
theorem w_rU {f : Int → V} (q : Q (f m) H) : rU f (.int m) H Q := ⟨m, rfl, q⟩
theorem w_eqI (q : Q (.bl (decide (m = n))) H) : rEq (.int m) (.int n) H Q := ⟨rfl, by rw [show decide (V.int m = V.int n) = decide (m = n) by simp]; exact q⟩
theorem w_neI (q : Q (.bl (!decide (m = n))) H) : rNe (.int m) (.int n) H Q := ⟨rfl, by rw [show decide (V.int m = V.int n) = decide (m = n) by simp]; exact q⟩
theorem w_eqS (q : Q (.bl (decide (z = w))) H) : rEq (.str z) (.str w) H Q := ⟨rfl, by rw [show decide (V.str z = V.str w) = decide (z = w) by simp]; exact q⟩
theorem w_neS (q : Q (.bl (!decide (z = w))) H) : rNe (.str z) (.str w) H Q := ⟨rfl, by rw [show decide (V.str z = V.str w) = decide (z = w) by simp]; exact q⟩
theorem w_eqB (q : Q (.bl (decide (c = k))) H) : rEq (.bl c) (.bl k) H Q := ⟨rfl, by rw [show decide (V.bl c = V.bl k) = decide (c = k) by simp]; exact q⟩
theorem w_neB (q : Q (.bl (!decide (c = k))) H) : rNe (.bl c) (.bl k) H Q := ⟨rfl, by rw [show decide (V.bl c = V.bl k) = decide (c = k) by simp]; exact q⟩
theorem w_isNr (q : Q (.bl false) H) : rNs (.ref a) .non H Q := ⟨rfl, by rw [decide_eq_false (fun z => nomatch z)]; exact q⟩
theorem w_isNn (q : Q (.bl true) H) : rNs .non .non H Q := ⟨rfl, by rw [decide_eq_true rfl]; exact q⟩
theorem w_ninS (q : Q (.bl (!(!(Builtin.Str.occurrences w z 0 w.length 1).isEmpty))) H) : rNinS (.str z) (.str w) H Q := ⟨z, w, rfl, rfl, q⟩
theorem w_inSg {d : Nat} (q : Q (.bl (decide (d ∈ w.cps.toList))) H) : rInSg (.str ⟨#[d]⟩) (.str w) H Q := ⟨d, w, rfl, rfl, q⟩
theorem w_addS (h : z.length + w.length ≤ sizeLine) (q : Q (.str (z ++ w)) H) : rAddS (.str z) (.str w) H Q := ⟨z, w, rfl, rfl, h, q⟩
theorem w_inL {neg : Bool} (h : SqL K H a xs) (h1 : flatV x = true) (h2 : xs.all flatV = true) (q : Q (.bl (if neg then !inV x xs else inV x xs)) H) : rIn K neg x (.ref a) H Q := ⟨a, xs, rfl, .inl h, h1, h2, q⟩
theorem w_cat (h1 : H a = some (.lst xs)) (h2 : H b = some (.lst ys)) (h3 : xs.length + ys.length ≤ sizeLine) (q : NewQ (.lst (xs ++ ys)) Q H) : rCat (.ref a) (.ref b) H Q := ⟨a, b, xs, ys, rfl, rfl, h1, h2, h3, q⟩
theorem w_ixL (h : SqL K H a xs) (hi : atI xs n = some v) (q : Q v H) : rIxL K (.ref a) (.int n) H Q := ⟨a, xs, n, v, rfl, rfl, h, hi, q⟩
theorem w_ixT (h : SqT K H a xs) (hi : atI xs n = some v) (q : Q v H) : rIxT K (.ref a) (.int n) H Q := ⟨a, xs, n, v, rfl, rfl, h, hi, q⟩
theorem w_ixS {d : Nat} (h : z.length ≤ sizeLine) (hi : atI z.cps.toList n = some d) (q : Q (.str ⟨#[d]⟩) H) : rIxS (.str z) (.int n) H Q := ⟨z, n, d, rfl, rfl, h, hi, q⟩
theorem w_sl {r : V → Option Int → Option Int → Hp → VK → Prop} {tl th : TO} (q : te σ H fun x H1 => tl σ H1 fun l H2 => th σ H2 fun u H3 => r x l u H3 Q) : tSl r te tl th σ H Q := q
theorem w_noPart {QO : Option Int → Hp → Prop} (q : QO none H) : tNoPart σ H QO := q
def PartQ (QO : Option Int → Hp → Prop) : VK := fun x H1 => ∃ i, x = .int i ∧ QO (some i) H1
theorem w_part {QO : Option Int → Hp → Prop} (q : te σ H (PartQ QO)) : tPart te σ H QO := q
theorem w_pq {QO : Option Int → Hp → Prop} (q : QO (some n) H) : PartQ QO (.int n) H := ⟨n, rfl, q⟩
theorem w_slL {lo hi : Option Int} (h : SqL K H a xs) (q : NewQ (.lst (cutV xs lo hi)) Q H) : rSlL K (.ref a) lo hi H Q := ⟨a, xs, rfl, h, q⟩
theorem w_slS {lo hi : Option Int} (h : z.length ≤ sizeLine) (q : Q (.str (cutS z lo hi)) H) : rSlS (.str z) lo hi H Q := ⟨z, rfl, h, q⟩
def RevQ (K : PySem.W.Frag) (Q : VK) : VK := fun x H1 => ∃ a xs, x = .ref a ∧ SqL K H1 a xs ∧ NewQ (.lst xs.reverse) Q H1
theorem w_revL (q : te σ H (RevQ K Q)) : tRevL K te σ H Q := q
theorem w_rvq (h : SqL K H a xs) (q : NewQ (.lst xs.reverse) Q H) : RevQ K Q (.ref a) H := ⟨a, xs, rfl, h, q⟩
def RevSQ (Q : VK) : VK := fun x H1 => ∃ l : List Nat, x = .str (S l) ∧ l.length ≤ 7 ∧ Q (.str (S l.reverse)) H1
theorem w_revS (q : te σ H (RevSQ Q)) : tRevS te σ H Q := q
theorem w_rsq {l : List Nat} (h : l.length ≤ 7) (q : Q (.str (S l.reverse)) H) : RevSQ Q (.str (S l)) H := ⟨l, rfl, h, q⟩
theorem w_cb {r : List V → Hp → VK → Prop} (q : tr σ H fun vs H1 => r vs H1 Q) : tCB r tr σ H Q := q
theorem w_lenL (h : SqL K H a xs) (q : Q (.int xs.length) H) : rLenQ K [.ref a] H Q := ⟨a, xs, rfl, .inl h, q⟩
theorem w_lenS (h : z.length ≤ sizeLine) (q : Q (.int z.length) H) : rLenT [.str z] H Q := ⟨z, rfl, h, q⟩
theorem w_min2 (q : Q (.int (if n < m then n else m)) H) : rMin2 [.int m, .int n] H Q := ⟨m, n, rfl, q⟩
theorem w_max2 (q : Q (.int (if n > m then n else m)) H) : rMax2 [.int m, .int n] H Q := ⟨m, n, rfl, q⟩
theorem w_intB (q : Q (.int (if k then 1 else 0)) H) : rInt1 [.bl k] H Q := .inr ⟨k, rfl, q⟩
theorem w_intS (h : PySem.intText? z = some n) (h2 : z.length ≤ 640) (q : Q (.int n) H) : rIntS [.str z] H Q := ⟨z, n, rfl, h, h2, q⟩
theorem w_strI (h : n.natAbs.log2 < 1920) (q : Q (.str (toString n)) H) : rStrI [.int n] H Q := ⟨n, rfl, h, q⟩
theorem w_listO (h : SqL K H a xs) (q : NewQ (.lst xs) Q H) : rListO K [.ref a] H Q := ⟨a, xs, rfl, .inl h, q⟩
theorem w_listD {kvs : List (Key × V)} (h : H a = some (.dK kvs)) (q : NewQ (.lst (kvs.map fun kv => kV kv.1)) Q H) : rListD [.ref a] H Q := ⟨a, kvs, rfl, h, q⟩
theorem w_all {bs : List Bool} (h : SqL K H a (bs.map V.bl)) (q : Q (.bl (bs.all id)) H) : rAll K [.ref a] H Q := ⟨a, bs, rfl, h, q⟩
theorem w_sum {ns : List Int} (h : SqL K H a (ns.map V.int)) (q : Q (.int ns.sum) H) : rSum K [.ref a] H Q := ⟨a, ns, rfl, h, q⟩
theorem w_isi_ii (q : Q (.bl true) H) : rIsi K [.int n, .ty "int"] H Q := ⟨_, _, _, _, true, rfl, .ty _, .base (.int n), kit_ty (by decide +kernel), q⟩
theorem w_isi_ib (q : Q (.bl false) H) : rIsi K [.int n, .ty "bool"] H Q := ⟨_, _, _, _, false, rfl, .ty _, .base (.int n), kit_ty (by decide +kernel), q⟩
theorem w_isi_ss (q : Q (.bl true) H) : rIsi K [.str z, .ty "str"] H Q := ⟨_, _, _, _, true, rfl, .ty _, .base (.str z), kit_ty (by decide +kernel), q⟩
theorem w_isi_ll (h : H a = some (.lst xs)) (q : Q (.bl true) H) : rIsi K [.ref a, .ty "list"] H Q := ⟨_, _, _, _, true, rfl, .ty _, .base (.lst h), kit_ty (by decide +kernel), q⟩
theorem w_isi_own (h : TyX K H (.ref a) (.ref C) ∧ PySem.W.kitOne K (.ref C) (.ref C) = some true) (q : Q (.bl true) H) : rIsi K [.ref a, .ref C] H Q := ⟨_, _, _, _, true, rfl, .own C, h.1, h.2, q⟩
def FldQ (K : PySem.W.Frag) (f : Str) (Q : VK) : VK := fun x H1 => ∃ a C dx fs v, x = .ref a ∧ H1 a = some (.ins C dx fs) ∧ Cls K C ∧ NoAttr K C f ∧ fs.lookup f = some v ∧ Q v H1
theorem w_fld {f : Str} (q : ta σ H (FldQ K f Q)) : tFld K ta f σ H Q := q
theorem w_fq {f : Str} (h : H a = some (.ins C dx fs)) (c : Cls K C) (n : NoAttr K C f) (l : fs.lookup f = some v) (q : Q v H) : FldQ K f Q (.ref a) H := ⟨a, C, dx, fs, v, rfl, h, c, n, l, q⟩
theorem w_fn {sp : Sp} {E : XK} (q : tr σ H fun vs H1 => sp vs H1 Q E) : tFn sp E tr σ H Q := q
def MeQ (C : Addr) (m : Str) (sp : Sp) (E : XK) (tr : TA) (σ : L2.St) (Q : VK) : VK := fun x H1 => ∃ a dx fs, x = .ref a ∧ H1 a = some (.ins C dx fs) ∧ fs.lookup m = none ∧ tr σ H1 fun vs H2 => sp (x :: vs) H2 Q E
theorem w_me {m : Str} {sp : Sp} {E : XK} (q : ta σ H (MeQ C m sp E tr σ Q)) : tMe C m sp E ta tr σ H Q := q
theorem w_mq {m : Str} {sp : Sp} {E : XK} (h : H a = some (.ins C dx fs)) (l : fs.lookup m = none) (q : tr σ H fun vs H2 => sp (.ref a :: vs) H2 Q E) : MeQ C m sp E tr σ Q (.ref a) H := ⟨a, dx, fs, rfl, h, l, q⟩
def PrQ (C : Addr) (sp : Sp) (Q : VK) : VK := fun x H1 => ∃ a dx fs, x = .ref a ∧ H1 a = some (.ins C dx fs) ∧ sp [.ref a] H1 Q E0
theorem w_pr {sp : Sp} (q : ta σ H (PrQ C sp Q)) : tPr C sp ta σ H Q := q
theorem w_prq {sp : Sp} (h : H a = some (.ins C dx fs)) (q : sp [.ref a] H Q E0) : PrQ C sp Q (.ref a) H := ⟨a, dx, fs, rfl, h, q⟩
def MkQ (C : Addr) (sp : Sp) (E : XK) (vs : List V) (Q : VK) (H : Hp) : Prop := ∀ x dx, H x = none → H dx = none → dx ≠ x → sp (.ref x :: vs) (upd (upd H dx (.own x)) x (.ins C dx [])) (fun v H2 => v = .non ∧ Q (.ref x) H2) E
theorem w_mk {sp : Sp} {E : XK} (q : tr σ H fun vs H1 => MkQ C sp E vs Q H1) : tNew C sp E tr σ H Q := q
theorem w_ret (q : te σ H D.rt) : tRet te D σ H := q
theorem w_seq (q : ts { D with nx := tu D } σ H) : tSeq ts tu D σ H := q
theorem w_next (q : D.nx σ H) : tNext D σ H := q
theorem w_drop (q : te σ H fun _ H1 => D.nx σ H1) : tDrop te D σ H := q
theorem w_ifS (q : t σ H fun c H1 => if c = true then tu D σ H1 else tv D σ H1) : tIfS t tu tv D σ H := q
theorem w_asg (q : te σ H fun x H1 => g x σ H1 D.nx) : tAsg te g D σ H := q
theorem w_gName {QS : L2.St → Hp → Prop} (q : QS (σ.set i (some v)) H) : gName i v σ H QS := q
theorem w_par (q : tr σ H fun vs H1 => ∃ v w, vs = [v, w] ∧ D.nx ((σ.set i (some v)).set j (some w)) H1) : tPar i j tr D σ H := q
theorem w_aug {ti : TIp} (h : σ[i]? = some (some x)) (q : te σ H fun y H1 => ti x y H1 fun z H2 => D.nx (σ.set i (some z)) H2) : tAug i te ti D σ H := ⟨x, h, q⟩
theorem w_ipI {f : Int → Int → Int} (q : Q (.int (f m n)) H) : ipI f (.int m) (.int n) H Q := by
  first | exact q | exact ⟨m, n, rfl, rfl, q⟩
def SfQ (K : PySem.W.Frag) (f : Str) (y : V) (k : Hp → Prop) : VK := fun x H2 => ∃ a C dx fs, x = .ref a ∧ H2 a = some (.ins C dx fs) ∧ Cls K C ∧ NoAttr K C f ∧ fs.length < 1000 ∧ k (upd H2 a (.ins C dx (putF f y fs)))
theorem w_match {tcs : V → TS} (q : te σ H fun v H1 => tcs v D σ H1) : tMatch te tcs D σ H := q
theorem w_case {z : Str} {tcs : V → TS} (q : if decide (w = z) = true then ts D σ H else tcs (.str w) D σ H) : tCase z ts tcs (.str w) D σ H := ⟨w, rfl, q⟩
/-! ### loops -/
/-- a for over what J tells -/
def ForJ (J : It) (g : TG) (tb : TS) (D : Ends) (σ : L2.St) (H : Hp) : Prop := tFor (fun _ H R => R J H) g tb D σ H
theorem w_forW {J : It} {n : Nat} {G : Hp → Prop} {Y : Nat → Hp → V → Hp → Prop} {tb : TS} (w : Walk J n G Y) (Pv : Nat → L2.St → Hp → Prop) (h0 : Pv 0 σ H) (hG : ∀ i σ H, i ≤ n → Pv i σ H → G H)
    (hs : ∀ i x σ H H', i < n → Pv i σ H → Y i H x H' → g x σ H' fun σ2 H2 => tb { D with nx := Pv (i + 1), ct := Pv (i + 1), bk := D.nx } σ2 H2) (hd : ∀ σ H, Pv n σ H → D.nx σ H) : ForJ J g tb D σ H := for_it w Pv h0 hG hs hd
def ForL (K : PySem.W.Frag) (g : TG) (tb : TS) (D : Ends) (σ : L2.St) : VK := fun x H1 => ∃ a, x = .ref a ∧ (∃ xs, SqL K H1 a xs) ∧ ForJ (Itl K a) g tb D σ H1
theorem w_forL {tb : TS} (q : te σ H (ForL K g tb D σ)) : tFor (iList K te) g tb D σ H := q
theorem w_forLq {tb : TS} (h : SqL K H a xs) (q : ForJ (Itl K a) g tb D σ H) : ForL K g tb D σ (.ref a) H := ⟨a, rfl, ⟨xs, h⟩, q⟩
def ForS (g : TG) (tb : TS) (D : Ends) (σ : L2.St) : VK := fun v H1 => ∃ x, v = .str x ∧ ForJ (Its x) g tb D σ H1
theorem w_forS {tb : TS} (q : te σ H (ForS g tb D σ)) : tFor (iStr te) g tb D σ H := q
theorem w_forSq {tb : TS} (q : ForJ (Its z) g tb D σ H) : ForS g tb D σ (.str z) H := ⟨z, rfl, q⟩
def ForR1 (g : TG) (tb : TS) (D : Ends) (σ : L2.St) : List V → Hp → Prop := fun vs H1 => ∃ j : Int, vs = [.int j] ∧ -(2 ^ 62) ≤ j ∧ j < 2 ^ 62 ∧ ForJ (Itr 0 j.toNat) g tb D σ H1
theorem w_forR1 {tb : TS} (q : tr σ H (ForR1 g tb D σ)) : tFor (iRng1 tr) g tb D σ H := q
theorem w_forR1q {tb : TS} (h : -100000 ≤ m ∧ m ≤ 100000) (q : ForJ (Itr 0 m.toNat) g tb D σ H) : ForR1 g tb D σ [.int m] H := ⟨m, rfl, by omega, by omega, q⟩
def ForR2 (g : TG) (tb : TS) (D : Ends) (σ : L2.St) : List V → Hp → Prop := fun vs H1 => ∃ i j : Int, vs = [.int i, .int j] ∧ (-(2 ^ 62) ≤ i ∧ i < 2 ^ 62 ∧ -(2 ^ 62) ≤ j ∧ j < 2 ^ 62) ∧ ForJ (Itr i (j - i).toNat) g tb D σ H1
theorem w_forR2 {tb : TS} (q : tr σ H (ForR2 g tb D σ)) : tFor (iRng2 tr) g tb D σ H := q
theorem w_forR2q {tb : TS} (h : -100000 ≤ m ∧ m ≤ 100000 ∧ -100000 ≤ n ∧ n ≤ 100000) (q : ForJ (Itr m (n - m).toNat) g tb D σ H) : ForR2 g tb D σ [.int m, .int n] H := ⟨m, n, rfl, by omega, q⟩
def ForE (K : PySem.W.Frag) (g : TG) (tb : TS) (D : Ends) (σ : L2.St) : List V → Hp → Prop := fun vs H1 => ∃ a xs, vs = [.ref a] ∧ SqL K H1 a xs ∧ ForJ (Ite K a) g tb D σ H1
theorem w_forE {tb : TS} (q : tr σ H (ForE K g tb D σ)) : tFor (iEnum K tr) g tb D σ H := q
theorem w_forEq {tb : TS} (h : SqL K H a xs) (q : ForJ (Ite K a) g tb D σ H) : ForE K g tb D σ [.ref a] H := ⟨a, xs, rfl, h, q⟩
/-! ### comprehensions -/
def LcJ (J : It) (g : TG) (tt : TT) (te : TE) (vs : List Nat) (σ : L2.St) (Q : VK) (H : Hp) : Prop := tLc (fun _ H R => R J H) g tt te vs σ H Q
theorem paired_mono {α β : Type} {R R' : α → β → Prop} (h : ∀ a b, R a b → R' a b) : ∀ {l : List α} {r : List β}, Paired R l r → Paired R' l r
  | _, _, .nil => .nil
  | _, _, .cons a b => .cons (h _ _ a) (paired_mono h b)
theorem paired_snoc {α β : Type} {R : α → β → Prop} {a : α} {b : β} (h : R a b) : ∀ {l : List α} {r : List β}, Paired R l r → Paired R (l ++ [a]) (r ++ [b])
  | _, _, .nil => .cons h .nil
  | _, _, .cons u v => .cons u (paired_snoc h v)
theorem paired_len {α β : Type} {R : α → β → Prop} : ∀ {l : List α} {r : List β}, Paired R l r → l.length = r.length
  | _, _, .nil => rfl
  | _, _, .cons _ v => congrArg Nat.succ (paired_len v)
theorem w_lcW {J : It} {n : Nat} {G : Hp → Prop} {Y : Nat → Hp → V → Hp → Prop} {tt : TT} {vs : List Nat} (w : Walk J n G Y) (f : Nat → Bool) (E : Nat → V → Hp → Prop) (hn : n ≤ 50000) (hY : ∀ i H x H', Y i H x H' → H' = H) (hE : ∀ i v H H', Ex H H' → E i v H → E i v H') (hE2 : ∀ i v H D l l', H D = some (.lst l) → E i v H → E i v (upd H D (.lst l'))) (hG : ∀ H', Ex H H' → G H')
    (hs : ∀ i x H', i < n → Ex H H' → Y i H' x H' → ∀ (QE : VK) (k : Hp → Prop), (f i = true → ∀ y H'', Ex H' H'' → E i y H'' → QE y H'') → (f i = false → ∀ H'', Ex H' H'' → k H'') →
      g x (wipe σ vs) H' fun σ2 H2 => wipe σ2 vs = wipe σ vs ∧ tt σ2 H2 fun b H3 => if b = true then te σ2 H3 QE else k H3)
    (q : ∀ p H2 ys, Ex H H2 → H p = none → H2 p = some (.lst ys) → Paired (fun i y => E i y H2) ((List.range n).filter f) ys → Q (.ref p) H2) : LcJ J g tt te vs σ Q H := by
  intro Dl hD
  refine lc_it w (fun i H' => Ex H H' ∧ ∃ acc, H' Dl = some (.lst acc) ∧ Paired (fun i y => E i y H') ((List.range i).filter f) acc) ⟨Evl.Ex.new hD, [], upd_same, .nil⟩ (fun i H' _ p => hG H' p.1) (fun i x H1 H1' hi p y => ?_) (fun H' p => ?_)
  · obtain ⟨e1, acc, h1, pr⟩ := p
    have e2 := hY _ _ _ _ y
    subst e2
    have hlen : acc.length ≤ i := by
      rw [← paired_len pr]
      have := List.length_filter_le f (List.range i)
      rw [List.length_range] at this
      exact this
    refine hs i x _ hi e1 y (fun y H4 => ∃ acc, H4 Dl = some (.lst acc) ∧ acc.length < sizeLine ∧ (Ex H (upd H4 Dl (.lst (acc ++ [y]))) ∧ ∃ acc', upd H4 Dl (.lst (acc ++ [y])) Dl = some (.lst acc') ∧ Paired (fun i y' => E i y' (upd H4 Dl (.lst (acc ++ [y])))) ((List.range (i + 1)).filter f) acc'))
      (fun H4 => Ex H H4 ∧ ∃ acc, H4 Dl = some (.lst acc) ∧ Paired (fun i y => E i y H4) ((List.range (i + 1)).filter f) acc) (fun hf y' H4 e4 hE4 => ?_) (fun hf H4 e4 => ?_)
    · have hd4 := e4 Dl _ h1
      refine ⟨acc, hd4, sz_lt (by omega), Evl.Ex.mut (e1.trans e4) hD, acc ++ [y'], upd_same, ?_⟩
      rw [List.range_succ, List.filter_append, List.filter_cons, if_pos hf]
      exact paired_snoc (R := fun i y => E i y (upd H4 Dl (.lst (acc ++ [y'])))) (hE2 _ _ _ _ _ _ hd4 hE4) (paired_mono (fun a b r => hE2 _ _ _ _ _ _ hd4 (hE _ _ _ _ e4 r)) pr)
    · refine ⟨e1.trans e4, acc, e4 Dl _ h1, ?_⟩
      rw [List.range_succ, List.filter_append, List.filter_cons, if_neg (by rw [hf]; decide)]
      show Paired _ (_ ++ []) _
      rw [List.append_nil]
      exact paired_mono (fun a b r => hE _ _ _ _ e4 r) pr
  · obtain ⟨e1, acc, h1, pr⟩ := p
    exact q Dl H' acc e1 hD h1 pr
def LcL (K : PySem.W.Frag) (g : TG) (tt : TT) (tx : TE) (vs : List Nat) (σ : L2.St) (Q : VK) : VK := fun x H1 => ∃ a, x = .ref a ∧ (∃ xs, SqL K H1 a xs) ∧ LcJ (Itl K a) g tt tx vs σ Q H1
theorem w_lcL {tt : TT} {tx : TE} {vs : List Nat} (q : te σ H (LcL K g tt tx vs σ Q)) : tLc (iList K te) g tt tx vs σ H Q := q
theorem w_lcLq {tt : TT} {tx : TE} {vs : List Nat} (h : SqL K H a xs) (q : LcJ (Itl K a) g tt tx vs σ Q H) : LcL K g tt tx vs σ Q (.ref a) H := ⟨a, rfl, ⟨xs, h⟩, q⟩
def LcS (g : TG) (tt : TT) (tx : TE) (vs : List Nat) (σ : L2.St) (Q : VK) : VK := fun v H1 => ∃ x, v = .str x ∧ LcJ (Its x) g tt tx vs σ Q H1
theorem w_lcS {tt : TT} {tx : TE} {vs : List Nat} (q : te σ H (LcS g tt tx vs σ Q)) : tLc (iStr te) g tt tx vs σ H Q := q
theorem w_lcSq {tt : TT} {tx : TE} {vs : List Nat} (q : LcJ (Its z) g tt tx vs σ Q H) : LcS g tt tx vs σ Q (.str z) H := ⟨z, rfl, q⟩
def LcR2 (g : TG) (tt : TT) (tx : TE) (vs : List Nat) (σ : L2.St) (Q : VK) : List V → Hp → Prop := fun us H1 => ∃ i j : Int, us = [.int i, .int j] ∧ (-(2 ^ 62) ≤ i ∧ i < 2 ^ 62 ∧ -(2 ^ 62) ≤ j ∧ j < 2 ^ 62) ∧ LcJ (Itr i (j - i).toNat) g tt tx vs σ Q H1
theorem w_lcR2 {tt : TT} {tx : TE} {vs : List Nat} (q : tr σ H (LcR2 g tt tx vs σ Q)) : tLc (iRng2 tr) g tt tx vs σ H Q := q
theorem w_lcR2q {tt : TT} {tx : TE} {vs : List Nat} (h : -100000 ≤ m ∧ m ≤ 100000 ∧ -100000 ≤ n ∧ n ≤ 100000) (q : LcJ (Itr m (n - m).toNat) g tt tx vs σ Q H) : LcR2 g tt tx vs σ Q [.int m, .int n] H := ⟨m, n, rfl, by omega, q⟩
/-- mutators of one list -/
theorem w_app {l : Addr} (h : H l = some (.lst xs)) (hz : xs.length < 100000) (q : ∀ H2, (∀ G, Ex G H → G l = none → Ex G H2) → H2 l = some (.lst (xs ++ [v])) → Q .non H2) : tyV K "list" (.ref l) H ∧ rAppend (.ref l) [v] H Q :=
  ⟨.inl ⟨rfl, xs, sl_of h⟩, l, xs, v, rfl, rfl, h, sz_lt hz, q _ (fun _ e n => Evl.Ex.mut e n) upd_same⟩
def BmQ (K : PySem.W.Frag) (T : String) (r : V → List V → Hp → VK → Prop) (tr : TA) (σ : L2.St) (Q : VK) : VK := fun x H1 => tyV K T x H1 ∧ tr σ H1 fun xs H2 => r x xs H2 Q
theorem w_bm {T : String} {r : V → List V → Hp → VK → Prop} (q : te σ H (BmQ K T r tr σ Q)) : tBM K T r te tr σ H Q := q
theorem w_bmq {r : V → List V → Hp → VK → Prop} (h : H a = some (.lst xs)) (q : tr σ H fun ys H2 => r (.ref a) ys H2 Q) : BmQ K "list" r tr σ Q (.ref a) H := ⟨.inl ⟨rfl, xs, sl_of h⟩, q⟩
def Bm0Q (K : PySem.W.Frag) (T : String) (r : V → List V → Hp → VK → Prop) (Q : VK) : VK := fun x H1 => tyV K T x H1 ∧ r x [] H1 Q
theorem w_bm0 {T : String} {r : V → List V → Hp → VK → Prop} (q : te σ H (Bm0Q K T r Q)) : tBM0 K T r te σ H Q := q
theorem w_bm0q {r : V → List V → Hp → VK → Prop} (h : H a = some (.lst xs)) (q : r (.ref a) [] H Q) : Bm0Q K "list" r Q (.ref a) H := ⟨.inl ⟨rfl, xs, sl_of h⟩, q⟩
/-- H2 is H but for what stands at l -/
def Mu (l : Addr) (H H2 : Hp) : Prop := ∀ G, Ex G H → G l = none → Ex G H2
theorem Mu.trans {l : Addr} {H1 H2 H3 : Hp} (h : Mu l H1 H2) (k : Mu l H2 H3) : Mu l H1 H3 := fun G e n => k G (h G e n) n
theorem w_apq {l : Addr} (h : H l = some (.lst xs)) (hz : xs.length < 100000) (q : ∀ H2, Mu l H H2 → H2 l = some (.lst (xs ++ [v])) → Q .non H2) : rAppend (.ref l) [v] H Q :=
  ⟨l, xs, v, rfl, rfl, h, sz_lt hz, q _ (fun _ e n => Evl.Ex.mut e n) upd_same⟩
theorem w_pop {l : Addr} (h : H l = some (.lst xs)) (hy : xs[xs.length - 1]? = some y) (q : ∀ H2, Mu l H H2 → H2 l = some (.lst xs.dropLast) → Q y H2) : rPop (.ref l) [] H Q :=
  ⟨l, xs, y, rfl, rfl, h, hy, q _ (fun _ e n => Evl.Ex.mut e n) upd_same⟩
theorem w_setL {l : Addr} {k : Nat} {q : Hp → Prop} (h : H l = some (.lst xs)) (hk : ixN xs.length m = some k) (hq : ∀ H2, Mu l H H2 → H2 l = some (.lst (xs.set k v)) → q H2) : rSetL (.ref l) (.int m) v H q :=
  ⟨l, xs, m, k, rfl, rfl, h, hk, hq _ (fun _ e n => Evl.Ex.mut e n) upd_same⟩
theorem w_getL (h : SqL K H a xs) (hi : atI xs n = some v) (q : Q v H) : rGetL K (.ref a) (.int n) H Q := ⟨a, xs, n, v, rfl, rfl, h, hi, q⟩
theorem w_gSub {t : TSet} {QS : L2.St → Hp → Prop} (q : to σ H fun o H1 => ti σ H1 fun i H2 => t o i v H2 fun H3 => QS σ H3) : gSub to ti t v σ H QS := q
theorem w_augS {tget : V → V → Hp → VK → Prop} {tip : TIp} {tset : TSet} (q : to σ H fun o H1 => ti σ H1 fun i H2 => tget o i H2 fun x H3 => te σ H3 fun y H4 => tip x y H4 fun z H5 => tset o i z H5 fun H6 => D.nx σ H6) : tAugS to ti te tget tip tset D σ H := q
theorem w_gTup {n : Nat} {gs : TGs} {QS : L2.St → Hp → Prop} (h : SqT K H a xs) (hl : xs.length = n) (q : gs xs σ H QS) : gTup K n gs (.ref a) σ H QS := ⟨a, xs, rfl, h, hl, q⟩
theorem w_gCons {gs : TGs} {QS : L2.St → Hp → Prop} (q : g v σ H fun σ' H' => gs xs σ' H' QS) : gCons g gs (v :: xs) σ H QS := ⟨v, xs, rfl, q⟩
theorem w_gNil {QS : L2.St → Hp → Prop} (q : QS σ H) : gNil [] σ H QS := ⟨rfl, q⟩
def ParQ (i j : Nat) (σ : L2.St) (q : L2.St → Hp → Prop) : List V → Hp → Prop := fun vs H1 => ∃ v w, vs = [v, w] ∧ q ((σ.set i (some v)).set j (some w)) H1
theorem w_parT (q : tr σ H (ParQ i j σ D.nx)) : tPar i j tr D σ H := q
theorem w_parq {q : L2.St → Hp → Prop} (h : q ((σ.set i (some v)).set j (some x)) H) : ParQ i j σ q [v, x] H := ⟨v, x, rfl, h⟩
def Par3Q (i j l : Nat) (σ : L2.St) (q : L2.St → Hp → Prop) : List V → Hp → Prop := fun vs H1 => ∃ u v w, vs = [u, v, w] ∧ q (((σ.set i (some u)).set j (some v)).set l (some w)) H1
theorem w_par3T {l : Nat} (q : tr σ H (Par3Q i j l σ D.nx)) : tPar3 i j l tr D σ H := q
theorem w_par3q {l : Nat} {q : L2.St → Hp → Prop} (h : q (((σ.set i (some v)).set j (some x)).set l (some y)) H) : Par3Q i j l σ q [v, x, y] H := ⟨v, x, y, rfl, h⟩
def SfQ' (K : PySem.W.Frag) (f : Str) (y : V) (q : Hp → Prop) : VK := SfQ K f y q
theorem w_sfld {f : Str} {tv : TE} (q : tv σ H fun y H1 => te σ H1 (SfQ K f y (D.nx σ))) : sFld K te tv f D σ H := q
theorem w_sfq {f : Str} {q : Hp → Prop} (h : H a = some (.ins C dx fs)) (c : Cls K C) (n : NoAttr K C f) (l : fs.length < 1000) (hq : ∀ H2, Mu a H H2 → H2 a = some (.ins C dx (putF f y fs)) → q H2) : SfQ K f y q (.ref a) H :=
  ⟨a, C, dx, fs, rfl, h, c, n, l, hq _ (fun _ e n => Evl.Ex.mut e n) upd_same⟩
def ObQ (X : Cx) (C : Addr) (sp : Sp) (E : XK) (tr : TA) (σ : L2.St) (Q : VK) : VK := fun y H1 => ∃ a, y = V.ref a ∧ tr σ H1 fun vs H2 => StX.InsC X H2 a C ∧ sp (V.ref a :: vs) H2 Q E
theorem w_ob {X : Cx} {sp : Sp} {E : XK} (q : tf σ H (ObQ X C sp E tr σ Q)) : StX.tCallO X C sp E tf tr σ H Q := q
theorem w_obq {X : Cx} {sp : Sp} {E : XK} (q : tr σ H fun vs H2 => StX.InsC X H2 a C ∧ sp (V.ref a :: vs) H2 Q E) : ObQ X C sp E tr σ Q (.ref a) H := ⟨a, rfl, q⟩
theorem w_wipe {s1 s2 : L2.St} {vs ws : List Nat} {A : Prop} (h : wipe s1 vs = wipe s2 ws) (q : A) : wipe s1 vs = wipe s2 ws ∧ A := ⟨h, q⟩
theorem w_yesT {QB : Bool → Hp → Prop} (q : QB true H) : tYes σ H QB := q
theorem w_newA {o : HO} {A : Prop} (h : A) (q : ∀ p H2, Ex H H2 → H p = none → H2 p = some o → Q (.ref p) H2) : A ∧ NewQ o Q H := ⟨h, w_new q⟩
theorem paired_true : ∀ {l : List Nat} {ys : List V}, Paired (fun _ y => y = V.bl true) l ys → ys = (List.replicate l.length true).map V.bl
  | _, _, .nil => rfl
  | _, _, .cons h r => by
    rw [paired_true r, h]
    rfl
theorem w_allT {l : List Nat} (h : H a = some (.lst xs)) (pr : Paired (fun _ y => y = V.bl true) l xs) (q : Q (.bl true) H) : rAll K [.ref a] H Q := by
  have e := paired_true pr
  subst e
  refine w_all (sl_of h) ?_
  rw [show (List.replicate l.length true).all id = true by simp]
  exact q
theorem mu_at {l : Addr} {H H' : Hp} {a : Addr} {o : HO} (m : Mu l H H') (h : H a = some o) (n : a ≠ l) : H' a = some o := by
  refine m (fun b => if b = l then none else H b) (fun b u e => ?_) (if_pos rfl) a o ?_
  · have e2 : (if b = l then none else H b) = some u := e
    by_cases q : b = l
    · rw [if_pos q] at e2
      cases e2
    · rw [if_neg q] at e2
      exact e2
  · show (if a = l then none else H a) = some o
    rw [if_neg n]
    exact h
theorem Mu.ex {l : Addr} {H H1 H2 : Hp} (m : Mu l H H1) (e : Ex H1 H2) : Mu l H H2 := fun G e0 n => (m G e0 n).trans e
theorem Mu.ofEx {l : Addr} {H H1 : Hp} (e : Ex H H1) : Mu l H H1 := fun G e0 _ => e0.trans e
end
end Tcf

set_option Elab.async false
set_option linter.all false
set_option maxRecDepth 100000
set_option maxHeartbeats 4000000
/-! DM: words of two colours, games, goals, rows: plain data, no program. -/
namespace Tcf
open PySem PySem.Spec PyProof.Rows L2
inductive Gm where
  | front | ends | parts
  deriving DecidableEq
inductive Go where
  | grouped | sorted
  deriving DecidableEq
def Gm.s : Gm → Str
  | .front => "front" | .ends => "ends" | .parts => "parts"
def Go.s : Go → Str
  | .grouped => "grouped" | .sorted => "sorted"
abbrev Wd := List Bool
/-- the runs of a word -/
def runsW : Wd → List Int
  | [] => []
  | a :: r => match r, runsW r with
    | b :: _, n :: t => if a = b then (n + 1) :: t else 1 :: n :: t
    | _, _ => [1]
def colW : Wd → Int
  | [] => 0
  | b :: _ => if b then 1 else 0
/-- all words of at most n items -/
def wordsN : Nat → List Wd
  | 0 => [[]]
  | n + 1 => [] :: ((wordsN n).map (false :: ·) ++ (wordsN n).map (true :: ·))
theorem mem_wordsN : ∀ (n : Nat) (w : Wd), w.length ≤ n → w ∈ wordsN n
  | 0, [], _ => by simp [wordsN]
  | 0, _ :: _, h => by simp at h
  | n + 1, [], _ => by simp [wordsN]
  | n + 1, b :: w, h => by
    have := mem_wordsN n w (by simpa using h)
    cases b <;> simp [wordsN, this]
theorem all7 {p : Wd → Bool} (h : (wordsN 7).all p = true) (w : Wd) (hw : w.length ≤ 7) : p w = true := List.all_eq_true.mp h w (mem_wordsN 7 w hw)
/-- a row that may stand -/
def rvB (c : Int) (l : List Int) : Bool := decide (0 ≤ c) && (decide (c ≤ 1) && (l.all (fun x => decide (1 ≤ x) && decide (x ≤ 7)) && (!(decide (l = []) && decide (c = 1)) && (decide (l.sum ≤ 7) && decide (l.length ≤ 7)))))
structure RV (c : Int) (l : List Int) : Prop where
  c0 : 0 ≤ c
  c1 : c ≤ 1
  pos : ∀ x ∈ l, 1 ≤ x ∧ x ≤ 7
  emp : l = [] → c ≠ 1
  sum : l.sum ≤ 7
  len : l.length ≤ 7
theorem rv_of {c : Int} {l : List Int} (h : rvB c l = true) : RV c l := by
  unfold rvB at h
  simp only [Bool.and_eq_true, decide_eq_true_eq, List.all_eq_true, Bool.not_eq_true', Bool.and_eq_false_iff, decide_eq_false_iff_not] at h
  obtain ⟨h1, h2, h3, h4, h5, h6⟩ := h
  exact ⟨h1, h2, h3, fun z q => h4.elim (fun a => a z) fun a => a q, h5, h6⟩
theorem rv_word (w : Wd) (h : w.length ≤ 7) : RV (colW w) (runsW w) := rv_of (all7 (p := fun w => rvB (colW w) (runsW w)) (by decide +kernel) w h)
theorem sum_word (w : Wd) (h : w.length ≤ 7) : (runsW w).sum = w.length := by
  have := all7 (p := fun w => decide ((runsW w).sum = (w.length : Int))) (by decide +kernel) w h
  simpa using this
/-- the row of colour c and runs l stands at r -/
def IsRw (K : PySem.W.Frag) (H : Hp) (r : Addr) (c : Int) (l : List Int) : Prop := ∃ dx p, H r = some (.ins (He.ga K "Row") dx [("colour", .int c), ("sizes", .ref p)]) ∧ H p = some (.lst (l.map V.int))
def IsRow (K : PySem.W.Frag) (H : Hp) (r : Addr) (w : Wd) : Prop := w.length ≤ 7 ∧ IsRw K H r (colW w) (runsW w)
open Evl (Ex)
theorem IsRw.ex {K : PySem.W.Frag} {H H' : Hp} {r : Addr} {c : Int} {l : List Int} (e : Ex H H') (h : IsRw K H r c l) : IsRw K H' r c l := by
  obtain ⟨dx, p, h1, h2⟩ := h
  exact ⟨dx, p, e _ _ h1, e _ _ h2⟩
theorem IsRow.ex {K : PySem.W.Frag} {H H' : Hp} {r : Addr} {w : Wd} (e : Ex H H') (h : IsRow K H r w) : IsRow K H' r w := ⟨h.1, h.2.ex e⟩
theorem IsRow.rw {K : PySem.W.Frag} {H : Hp} {r : Addr} {w : Wd} (h : IsRow K H r w) : IsRw K H r (colW w) (runsW w) := h.2
theorem IsRow.ins {K : PySem.W.Frag} {H : Hp} {r : Addr} {w : Wd} (h : IsRow K H r w) : ∃ dx fs, H r = some (.ins (He.ga K "Row") dx fs) := by
  obtain ⟨_, dx, p, h1, _⟩ := h
  exact ⟨dx, _, h1⟩
theorem w_mqRow {K : PySem.W.Frag} {H : Hp} {Q : VK} {sp : Sp} {E : XK} {tr : TA} {σ : L2.St} {m : Str} {c : Int} {l : List Int} {r : Addr} (h : IsRw K H r c l) (n1 : (m == ("colour" : Str)) = false) (n2 : (m == ("sizes" : Str)) = false) (q : tr σ H fun vs H2 => sp (.ref r :: vs) H2 Q E) :
    MeQ (He.ga K "Row") m sp E tr σ Q (.ref r) H := by
  obtain ⟨dx, p, h1, h2⟩ := h
  refine ⟨r, dx, _, rfl, h1, ?_, q⟩
  simp [List.lookup, n1, n2]
/-- the flip of a to b stands at f -/
def IsFlip (K : PySem.W.Frag) (H : Hp) (f : Addr) (a b : Int) : Prop := ∃ dx, H f = some (.ins (He.ga K "Flip") dx [("begin", .int a), ("finish", .int b)])
theorem IsFlip.ex {K : PySem.W.Frag} {H H' : Hp} {f : Addr} {a b : Int} (e : Ex H H') (h : IsFlip K H f a b) : IsFlip K H' f a b := by
  obtain ⟨dx, h1⟩ := h
  exact ⟨dx, e _ _ h1⟩
theorem take_fold {α β : Type} {f : β → α → β} {b : β} {l : List α} {i : Nat} {x : α} (h : l[i]? = some x) : (l.take (i + 1)).foldl f b = f ((l.take i).foldl f b) x := by
  rw [List.take_succ, h, List.foldl_append]
  rfl
theorem map_at {α : Type} {g : α → V} {l : List α} {i : Nat} {x : V} (h : (l.map g)[i]? = some x) : ∃ y, l[i]? = some y ∧ x = g y := by
  rw [List.getElem?_map] at h
  cases e : l[i]? with
  | none => rw [e] at h; cases h
  | some y => rw [e] at h; exact ⟨y, rfl, (Option.some.inj h).symm⟩
theorem cutV_init (xs : List V) (x : V) : cutV (xs ++ [x]) none (some (-1)) = xs := by
  unfold cutV
  have e1 : HT.sIx (xs ++ [x]).length 0 none = 0 := rfl
  have e2 : HT.sIx (xs ++ [x]).length (xs ++ [x]).length (some (-1)) = xs.length := by
    show (if (-1 : Int) < 0 then ((-1 : Int) + ((xs ++ [x]).length : Int)).toNat else min (-1 : Int).toNat (xs ++ [x]).length) = xs.length
    rw [if_pos (by decide), List.length_append, List.length_singleton]
    omega
  rw [e1, e2]
  simp
theorem cutV_tail (y : V) (ys : List V) : cutV (y :: ys) (some 1) none = ys := by
  unfold cutV
  have e1 : HT.sIx (y :: ys).length 0 (some 1) = 1 := by
    rw [show (1 : Int) = ((1 : Nat) : Int) from rfl, HT.sIx_nat]
    simp
  rw [e1, HT.sIx_none]
  simp
theorem cutS_to (l : List Nat) (k : Nat) (h : k ≤ l.length) : cutS (S l) none (some (k : Int)) = S (l.take k) := by
  unfold cutS
  have e0 : (S l).length = l.length := by simp [Str.length]
  rw [HT.sIx_none, HT.sIx_nat, e0, Nat.min_eq_left h]
  simp
theorem cutS_from (l : List Nat) (k : Nat) (h : k ≤ l.length) : cutS (S l) (some (k : Int)) none = S (l.drop k) := by
  unfold cutS
  have e0 : (S l).length = l.length := by simp [Str.length]
  rw [HT.sIx_none, HT.sIx_nat, e0, Nat.min_eq_left h]
  congr 1
  simp
  rw [List.take_of_length_le]
  simp
theorem cutS_mid (l : List Nat) (a b : Nat) (ha : a ≤ l.length) (hb : b ≤ l.length) : cutS (S l) (some (a : Int)) (some (b : Int)) = S ((l.drop a).take (b - a)) := by
  unfold cutS
  have e0 : (S l).length = l.length := by simp [Str.length]
  rw [HT.sIx_nat, HT.sIx_nat, e0, Nat.min_eq_left ha, Nat.min_eq_left hb]
theorem snoc_of {α : Type} : ∀ {l : List α}, l ≠ [] → ∃ i x, l = i ++ [x]
  | [], h => absurd rfl h
  | [x], _ => ⟨[], x, rfl⟩
  | x :: y :: r, _ => by
    obtain ⟨i, z, e⟩ := snoc_of (l := y :: r) (by simp)
    exact ⟨x :: i, z, by rw [e]; rfl⟩
theorem at0 {α : Type} (y : α) (ys : List α) : atI (y :: ys) 0 = some y := atI_nat (j := 0) rfl
theorem at_nat {α : Type} {xs : List α} {j : Nat} {v : α} {i : Int} (h : xs[j]? = some v) (e : i = (j : Int)) : atI xs i = some v := by
  subst e
  exact atI_nat h
theorem w_pairsC {tk tv : TE} {r : List (TE × TE)} {σ : L2.St} {H : Hp} {k : List (V × V) → Hp → Prop} (q : tk σ H fun x H1 => tv σ H1 fun y H2 => tPairs r σ H2 fun ps H3 => k ((x, y) :: ps) H3) : tPairs ((tk, tv) :: r) σ H k := q
theorem w_pairsN {σ : L2.St} {H : Hp} {k : List (V × V) → Hp → Prop} (q : k [] H) : tPairs [] σ H k := q
end Tcf

set_option Elab.async false
set_option linter.all false
set_option maxRecDepth 100000
set_option maxHeartbeats 4000000
/-! DD: == and != of data. -/
namespace Tcf
open PySem PySem.Spec PyProof.Rows L2
/-- flat enough to be compared -/
def Fl (n : Nat) (d : PyData) : Prop := d.canLay0 = true ∧ d.depth ≤ n
theorem Fl.shaped {n : Nat} {d : PyData} (h : Fl n d) (hn : n ≤ 64 := by decide) : SeqAt.shaped d = true := by
  show (d.canLay0 && decide (d.depth ≤ 64)) = true
  rw [Bool.and_eq_true]
  exact ⟨h.1, decide_eq_true (Nat.le_trans h.2 hn)⟩
theorem fl_int {i : Int} : Fl 1 (.int i) := ⟨rfl, by simp [PyData.depth]⟩
theorem fl_non : Fl 1 .none := ⟨rfl, by simp [PyData.depth]⟩
theorem fl_str {x : Str} (h : PyData.canLay0 (.str x) = true) : Fl 1 (.str x) := ⟨h, by simp [PyData.depth]⟩
theorem fl_all {n : Nat} : ∀ {ds : List PyData}, (∀ d ∈ ds, Fl n d) → PyData.canLayAll0 ds = true ∧ PyData.depthAll ds ≤ n
  | [], _ => ⟨rfl, by simp [PyData.depthAll]⟩
  | d :: ds, h => by
    obtain ⟨h1, h2⟩ := fl_all (ds := ds) fun x hx => h x (List.mem_cons_of_mem _ hx)
    obtain ⟨h3, h4⟩ := h d List.mem_cons_self
    refine ⟨?_, ?_⟩
    · simp only [PyData.canLayAll0, h1, h3, Bool.and_self]
    · simp only [PyData.depthAll]
      omega
theorem fl_list {n : Nat} {ds : List PyData} (h : ∀ d ∈ ds, Fl n d) : Fl (n + 1) (.list ds) := by
  obtain ⟨h1, h2⟩ := fl_all h
  refine ⟨by simp only [PyData.canLay0]; exact h1, ?_⟩
  simp only [PyData.depth]
  omega
theorem fl_tuple {n : Nat} {ds : List PyData} (h : ∀ d ∈ ds, Fl n d) : Fl (n + 1) (.tuple ds) := by
  obtain ⟨h1, h2⟩ := fl_all h
  refine ⟨by simp only [PyData.canLay0]; exact h1, ?_⟩
  simp only [PyData.depth]
  omega
theorem Fl.mono {m n : Nat} {d : PyData} (h : Fl m d) (k : m ≤ n) : Fl n d := ⟨h.1, Nat.le_trans h.2 k⟩
section
variable {K : PySem.W.Frag} {H : Hp} {x y : V} {d e : PyData} {Q : VK} {n m : Nat}
theorem w_eqD (hx : Dp K H x d) (hy : Dp K H y e) (fx : Fl n d) (fy : Fl m e) (q : Q (.bl (PyData.eqv d e)) H) (hn : n ≤ 64 := by decide) (hm : m ≤ 64 := by decide) : rEqD K x y H Q := ⟨d, e, hx, hy, fx.shaped hn, fy.shaped hm, q⟩
theorem w_neD (hx : Dp K H x d) (hy : Dp K H y e) (fx : Fl n d) (fy : Fl m e) (q : Q (.bl (!PyData.eqv d e)) H) (hn : n ≤ 64 := by decide) (hm : m ≤ 64 := by decide) : rNeD K x y H Q := ⟨d, e, hx, hy, fx.shaped hn, fy.shaped hm, q⟩
theorem w_eqSame (hx : Dp K H x d) (hy : Dp K H y d) (fx : Fl n d) (q : Q (.bl true) H) (hn : n ≤ 64 := by decide) : rEqD K x y H Q := w_eqD hx hy fx fx (by rw [SeqAt.eqv_refl d fx.1]; exact q) hn hn
theorem w_neSame (hx : Dp K H x d) (hy : Dp K H y d) (fx : Fl n d) (q : Q (.bl false) H) (hn : n ≤ 64 := by decide) : rNeD K x y H Q := w_neD hx hy fx fx (by rw [SeqAt.eqv_refl d fx.1]; exact q) hn hn
theorem eqv_nil (ds : List PyData) : PyData.eqv (.list ds) (.list []) = ds.isEmpty := by
  cases ds <;> simp only [PyData.eqv, PyData.eqvAll, List.isEmpty]
theorem dpAll_int : ∀ l : List Int, DpAll K H (l.map V.int) (l.map PyData.int)
  | [] => .nil
  | i :: l => .cons (.int i) (dpAll_int l)
theorem dpAll_str : ∀ l : List Str, DpAll K H (l.map V.str) (l.map PyData.str)
  | [] => .nil
  | i :: l => .cons (.str i) (dpAll_str l)
theorem fl_ints (l : List Int) : Fl 2 (.list (l.map PyData.int)) := fl_list fun d hd => by
  obtain ⟨i, _, rfl⟩ := List.mem_map.mp hd
  exact fl_int
theorem dp_ints {a : Addr} {l : List Int} (h : SqL K H a (l.map V.int)) : Dp K H (.ref a) (.list (l.map PyData.int)) := .lst h (dpAll_int l)
theorem dp_nil {a : Addr} (h : SqL K H a []) : Dp K H (.ref a) (.list []) := .lst h .nil
theorem fl_nil : Fl 1 (.list []) := ⟨rfl, by simp [PyData.depth, PyData.depthAll]⟩
theorem w_eqNilI {a b : Addr} {l : List Int} (h1 : SqL K H a (l.map V.int)) (h2 : SqL K H b []) (q : Q (.bl (decide (l = []))) H) : rEqD K (.ref a) (.ref b) H Q :=
  w_eqD (dp_ints h1) (dp_nil h2) (fl_ints l) fl_nil (by rw [eqv_nil]; cases l <;> exact q)
theorem w_eqInts {a b : Addr} {l : List Int} (h1 : SqL K H a (l.map V.int)) (h2 : SqL K H b (l.map V.int)) (q : Q (.bl true) H) : rEqD K (.ref a) (.ref b) H Q := w_eqSame (dp_ints h1) (dp_ints h2) (fl_ints l) q
end
end Tcf

set_option Elab.async false
set_option linter.all false
set_option maxRecDepth 100000
set_option maxHeartbeats 4000000
/-! DA: integers, words (printed from DA.tmpl by gen_der.py). -/
namespace Tcf
open PySem PySem.Spec PyProof.Rows L2
open Evl (Ex)
set_option hygiene false in
local macro_rules | `(tactic| walk_at "lkT") => `(tactic| first | (with_reducible exact T.l_GAMES _) | (with_reducible exact T.l_GOALS _))
set_option hygiene false in
local macro_rules | `(tactic| walk_at "isx") => `(tactic| first | (with_reducible exact T.is_Row (by walk_at "lk")) | (with_reducible exact T.is_Flip (by walk_at "lk")) | (with_reducible exact T.is_Table (by walk_at "lk")))
local macro_rules | `(tactic| walk_at "lk") => `(tactic| first
  | assumption
  | walk_at "lkT"
  | ((with_reducible refine' ex_at (by assumption) ?wk); (case wk => walk_at "lk"))
  | ((with_reducible refine' sl_of ?wk); (case wk => walk_at "lk"))
  | ((with_reducible refine' st_of ?wk); (case wk => walk_at "lk"))
  | ((with_reducible refine' ex_l (by assumption) ?wk); (case wk => walk_at "lk"))
  | ((with_reducible refine' ex_t (by assumption) ?wk); (case wk => walk_at "lk"))
  | ((with_reducible refine' mu_at (by assumption) ?wk ?wn); (case wk => walk_at "lk"); (case wn => assumption)))
set_option hygiene false in
local macro_rules | `(tactic| walk_at "sd") => `(tactic| first
  | exact rfl | assumption | (with_reducible exact T.c_Row) | (with_reducible exact T.c_Flip) | (with_reducible exact T.c_Table) | (with_reducible exact T.c_Trial)
  | (with_reducible exact T.n_Row_colour) | (with_reducible exact T.n_Row_sizes) | (with_reducible exact T.n_Flip_begin) | (with_reducible exact T.n_Flip_finish) | (with_reducible exact T.n_Trial_home) | (with_reducible exact T.n_Trial_kept)
  | (with_reducible exact T.n_Table_beginning) | (with_reducible exact T.n_Table_words) | (with_reducible exact T.n_Table_state))
local macro_rules | `(tactic| walk_at "w") => `(tactic| first
  | (with_reducible refine w_seq ?_) | (with_reducible refine w_asg ?_) | (with_reducible refine w_gName ?_) | (with_reducible refine w_ret ?_) | (with_reducible refine w_ifS ?_) | (with_reducible refine w_drop ?_) | (with_reducible refine w_next ?_)
  | ((with_reducible refine' w_aug ?wh ?_); (case wh => exact rfl)) | (with_reducible refine w_match ?_) | (with_reducible refine w_case ?_)
  | ((with_reducible refine' w_var ?wh ?_); (case wh => exact rfl))
  | (with_reducible refine w_c ?_) | (with_reducible refine w_op ?_) | (with_reducible refine w_un ?_) | (with_reducible refine w_nil ?_) | (with_reducible refine w_cons ?_) | (with_reducible refine w_star ?_) | (with_reducible refine w_tup ?_) | (with_reducible refine w_lst ?_)
  | (with_reducible refine w_if ?_) | (with_reducible refine w_and ?_) | (with_reducible refine w_or ?_) | (with_reducible refine w_not ?_) | (with_reducible refine w_bq ?_) | (with_reducible refine w_B ?_) | (with_reducible refine w_test ?_) | (with_reducible refine w_andV ?_) | (with_reducible refine w_orV ?_) | (with_reducible refine w_notV ?_)
  | (with_reducible refine w_chain ?_) | (with_reducible refine w_rI0 ?_) | (with_reducible refine w_rU ?_) | (with_reducible refine w_ipI ?_)
  | (with_reducible refine w_eqI ?_) | (with_reducible refine w_neI ?_) | (with_reducible refine w_eqS ?_) | (with_reducible refine w_neS ?_) | (with_reducible refine w_eqB ?_) | (with_reducible refine w_neB ?_) | (with_reducible refine w_isNr ?_) | (with_reducible refine w_isNn ?_)
  | (with_reducible refine w_sl ?_) | (with_reducible refine w_noPart ?_) | (with_reducible refine w_part ?_) | (with_reducible refine w_pq ?_) | (with_reducible refine w_revL ?_) | (with_reducible refine w_revS ?_)
  | (with_reducible refine w_cb ?_) | (with_reducible refine w_min2 ?_) | (with_reducible refine w_max2 ?_) | (with_reducible refine w_intB ?_)
  | (with_reducible refine w_fn ?_) | (with_reducible refine w_me ?_) | (with_reducible refine w_pr ?_) | (with_reducible refine w_mk ?_) | (with_reducible refine w_fld ?_)
  | (with_reducible refine w_isi_ii ?_) | (with_reducible refine w_isi_ib ?_) | (with_reducible refine w_isi_ss ?_)
  | ((with_reducible refine' w_isi_ll ?wh ?_); (case wh => walk_at "lk"))
  | ((with_reducible refine' w_isi_own ?wh ?wq); (case wh => walk_at "isx"))
  | ((with_reducible refine' w_lenL ?wh ?_); (case wh => walk_at "lk")) | ((with_reducible refine' w_ixL ?wh ?wi ?_); (case wh => walk_at "lk"); (case wi => first | assumption | exact rfl)) | ((with_reducible refine' w_ixT ?wh ?wi ?_); (case wh => walk_at "lk"); (case wi => first | assumption | exact rfl))
  | ((with_reducible refine' w_slL ?wh ?_); (case wh => walk_at "lk")) | ((with_reducible refine' w_rvq ?wh ?_); (case wh => walk_at "lk")) | ((with_reducible refine' w_listO ?wh ?_); (case wh => walk_at "lk")) | ((with_reducible refine' w_starL ?wh ?_); (case wh => walk_at "lk"))
  | ((with_reducible refine' w_fq ?wh ?wc ?wn ?wl ?_); (case wh => walk_at "lk"); (case wc => walk_at "sd"); (case wn => walk_at "sd"); (case wl => exact rfl))
  | ((with_reducible refine' w_sum ?wh ?_); (case wh => walk_at "lk"))
  | ((with_reducible refine' w_all ?wh ?_); (case wh => walk_at "lk"))
  | (with_reducible refine w_forL ?_) | ((with_reducible refine' w_forLq ?wh ?_); (case wh => walk_at "lk")) | (with_reducible refine w_forS ?_) | (with_reducible refine w_forSq ?_) | (with_reducible refine w_forR1 ?_) | ((with_reducible refine' w_forR1q ?wh ?_); (case wh => omega)) | (with_reducible refine w_forR2 ?_) | ((with_reducible refine' w_forR2q ?wh ?_); (case wh => omega)) | (with_reducible refine w_forE ?_) | ((with_reducible refine' w_forEq ?wh ?_); (case wh => walk_at "lk"))
  | (with_reducible refine w_lcL ?_) | ((with_reducible refine' w_lcLq ?wh ?_); (case wh => walk_at "lk")) | (with_reducible refine w_lcS ?_) | (with_reducible refine w_lcSq ?_) | (with_reducible refine w_lcR2 ?_) | ((with_reducible refine' w_lcR2q ?wh ?_); (case wh => omega))
  | (with_reducible refine w_bm ?_) | ((with_reducible refine' w_bmq ?wh ?_); (case wh => walk_at "lk")) | (with_reducible refine w_bm0 ?_) | ((with_reducible refine' w_bm0q ?wh ?_); (case wh => walk_at "lk"))
  | ((with_reducible refine' w_getL ?wh ?wi ?_); (case wh => walk_at "lk"); (case wi => first | assumption | exact rfl)) | (with_reducible refine w_gSub ?_) | (with_reducible refine w_augS ?_)
  | ((with_reducible refine' w_gTup ?wh ?wl ?_); (case wh => walk_at "lk"); (case wl => exact rfl)) | (with_reducible refine w_gCons ?_) | (with_reducible refine w_gNil ?_)
  | (with_reducible refine w_parT ?_) | (with_reducible refine w_parq ?_) | (with_reducible refine w_par3T ?_) | (with_reducible refine w_par3q ?_) | (with_reducible refine w_sfld ?_) | (with_reducible refine w_ob ?_) | (with_reducible refine w_obq ?_)
  | ((with_reducible refine' w_sfq ?wh ?wc ?wn ?wl ?wq); (case wh => walk_at "lk"); (case wc => walk_at "sd"); (case wn => walk_at "sd"); (case wl => exact Nat.le_of_ble_eq_true rfl))
  | ((with_reducible refine' w_rI ?wh ?wq); (case wh => first | decide | exact ⟨by decide, by decide⟩)) | (with_reducible refine w_pairsC ?_) | (with_reducible refine w_pairsN ?_) | ((with_reducible refine' w_cat ?wh ?wk ?wl ?wq); (case wh => walk_at "lk"); (case wk => walk_at "lk"); (case wl => walk_at "sz"))
  | ((with_reducible refine' w_mqRow ?wh ?wl ?wk ?wq); (case wh => walk_at "rw"); (case wl => exact rfl); (case wk => exact rfl))
  | ((with_reducible refine' w_mq ?wh ?wl ?wq); (case wh => walk_at "lk"); (case wl => exact rfl))
  | ((with_reducible refine' w_wipe ?wh ?wq); (case wh => exact rfl)) | (with_reducible refine w_yesT ?_)
  | (with_reducible refine w_isNumber ?_) | (with_reducible refine w_isCount ?_) | (with_reducible refine w_isColour ?_) | (with_reducible refine w_checkGame ?_) | (with_reducible refine w_checkGoal ?_) | (with_reducible refine w_checkWords ?_)
  | (with_reducible refine iteT ?_) | (with_reducible refine iteF ?_) | ((with_reducible refine' w_yes ?wh ?_); (case wh => exact rfl)) | ((with_reducible refine' w_no ?wh ?_); (case wh => exact rfl)))
local macro_rules | `(tactic| walk_at "sz") => `(tactic| first | (refine sz_le ?_; first | assumption | (simp only [List.length_map, List.length_append, List.length_cons, List.length_nil]; omega) | omega) | (refine sz_lt ?_; first | assumption | (simp only [List.length_map, List.length_append, List.length_cons, List.length_nil]; omega) | omega))
local macro_rules | `(tactic| walk_at "go") => `(tactic| repeat (walk_at "w"))
local macro_rules | `(tactic| walk_at "bt") => `(tactic| first | exact rfl | assumption | (simp [*]; done) | (simp; omega) | (simp [*]; omega))
local macro_rules | `(tactic| walk_at "yes") => `(tactic| ((with_reducible refine' w_yes ?wh ?wq); (case wh => walk_at "bt"); walk_at "go"))
local macro_rules | `(tactic| walk_at "no") => `(tactic| ((with_reducible refine' w_no ?wh ?wq); (case wh => walk_at "bt"); walk_at "go"))
local macro_rules | `(tactic| walk_at "st") => `(tactic| ((try dsimp only [L2.cxOf, L2.Cx.nox, L2.Cx.wish]); walk_at "go"))
local macro_rules | `(tactic| walk_at "rw") => `(tactic| first | assumption | ((with_reducible refine' IsRow.rw ?wk); (case wk => walk_at "rw")) | ((with_reducible refine' IsRw.ex (by assumption) ?wk); (case wk => walk_at "rw")) | ((with_reducible refine' IsRow.ex (by assumption) ?wk); (case wk => walk_at "rw")))
local macro_rules | `(tactic| walk_at "ro") => `(tactic| first | assumption | ((with_reducible refine' IsRow.ex (by assumption) ?wk); (case wk => walk_at "ro")))
local macro_rules | `(tactic| walk_at "fl") => `(tactic| first | assumption | ((with_reducible refine' IsFlip.ex (by assumption) ?wk); (case wk => walk_at "fl")))
def spIsNumber : Sp := fun vs H Q _ => ∃ a b c : Int, vs = [.int a, .int b, .int c] ∧ Q (.bl (decide (b ≤ a) && decide (a ≤ c))) H
theorem sc_is_number : FnScope ["candidate", "least", "greatest"] ["candidate", "least", "greatest"] (defScope (top 14)) := ⟨rfl, rfl, rfl, by decide +kernel, rfl, by decide +kernel, by decide +kernel⟩
theorem ok_is_number {P : Program} {w : World} {K : PySem.W.Frag} {mg : Str → Option Value} {base : Heap} (T : Tx P K mg) : Ok P w K mg base 1 (He.ga K "is_number") (spIsNumber) := by
  refine ok_mk T.d_is_number sc_is_number (fun vs H Q E h => ?len) (fun _ _ _ _ _ _ us hl => match us, hl with | [_, _, _], _ => rfl) (fun cdv A outer s H vs Q E hr h => ⟨_, (pss_one (ps_ret (pe_and (pe_callB call_isi (by rfl) T.z_isinstance (by decide +kernel) (pa_cons (pv 0) (pa_cons (pe_bltn (v := .ty "int") rfl T.z_int (by decide +kernel) rfl) pa_nil))) (pe_and (pe_not (pe_callB call_isi (by rfl) T.z_isinstance (by decide +kernel) (pa_cons (pv 0) (pa_cons (pe_bltn (v := .ty "bool") rfl T.z_bool (by decide +kernel) rfl) pa_nil)))) (pe_one (pe_chain op_le op_le (pv 1) (pv 0) (pv 2))))))), ?body⟩)
  case len => obtain ⟨a, b, c, rfl, _⟩ := h; rfl
  case body =>
    obtain ⟨a, b, c, rfl, q⟩ := h
    walk_at "go"
    refine w_ite (fun e => ?_) (fun e => ?_)
    · walk_at "go"
      simpa [e] using q
    · simpa [e] using q
def spIsCount : Sp := fun vs H Q _ => ∃ a : Int, vs = [.int a] ∧ Q (.bl (decide (0 ≤ a))) H
theorem sc_is_count : FnScope ["candidate"] ["candidate"] (defScope (top 15)) := ⟨rfl, rfl, rfl, by decide +kernel, rfl, by decide +kernel, by decide +kernel⟩
theorem ok_is_count {P : Program} {w : World} {K : PySem.W.Frag} {mg : Str → Option Value} {base : Heap} (T : Tx P K mg) : Ok P w K mg base 1 (He.ga K "is_count") (spIsCount) := by
  refine ok_mk T.d_is_count sc_is_count (fun vs H Q E h => ?len) (fun _ _ _ _ _ _ us hl => match us, hl with | [_], _ => rfl) (fun cdv A outer s H vs Q E hr h => ⟨_, (pss_one (ps_ret (pe_and (pe_callB call_isi (by rfl) T.z_isinstance (by decide +kernel) (pa_cons (pv 0) (pa_cons (pe_bltn (v := .ty "int") rfl T.z_int (by decide +kernel) rfl) pa_nil))) (pe_and (pe_not (pe_callB call_isi (by rfl) T.z_isinstance (by decide +kernel) (pa_cons (pv 0) (pa_cons (pe_bltn (v := .ty "bool") rfl T.z_bool (by decide +kernel) rfl) pa_nil)))) (pe_one (pe_cmpR op_ge (pv 0) pe_int (nomark _))))))), ?body⟩)
  case len => obtain ⟨a, rfl, _⟩ := h; rfl
  case body =>
    obtain ⟨a, rfl, q⟩ := h
    walk_at "go"
    exact q
def spIsColour : Sp := fun vs H Q _ => ∃ a : Int, vs = [.int a] ∧ Q (.bl (decide (0 ≤ a) && decide (a ≤ 1))) H
theorem sc_is_colour : FnScope ["candidate"] ["candidate"] (defScope (top 16)) := ⟨rfl, rfl, rfl, by decide +kernel, rfl, by decide +kernel, by decide +kernel⟩
theorem ok_is_colour {P : Program} {w : World} {K : PySem.W.Frag} {mg : Str → Option Value} {base : Heap} (T : Tx P K mg) : Ok P w K mg base 2 (He.ga K "is_colour") (spIsColour) := by
  refine ok_mk T.d_is_colour sc_is_colour (fun vs H Q E h => ?len) (fun _ _ _ _ _ _ us hl => match us, hl with | [_], _ => rfl) (fun cdv A outer s H vs Q E hr h => ⟨_, (pss_one (ps_ret (pe_fn (ok_is_number T) hr T.g_is_number (pa_cons (pv 0) (pa_cons pe_int (pa_cons pe_int pa_nil)))))), ?body⟩)
  case len => obtain ⟨a, rfl, _⟩ := h; rfl
  case body =>
    obtain ⟨a, rfl, q⟩ := h
    walk_at "go"
    exact ⟨_, _, _, rfl, q⟩
/-! ### words -/
def spCheckGame : Sp := fun vs H Q _ => ∃ g : Gm, vs = [.str g.s] ∧ Q .non H
theorem sc_check_game : FnScope ["game"] ["game"] (defScope (top 28)) := ⟨rfl, rfl, rfl, by decide +kernel, rfl, by decide +kernel, by decide +kernel⟩
theorem ok_check_game {P : Program} {w : World} {K : PySem.W.Frag} {mg : Str → Option Value} {base : Heap} (T : Tx P K mg) : Ok P w K mg base 1 (He.ga K "check_game") (spCheckGame) := by
  refine ok_mk T.d_check_game sc_check_game (fun vs H Q E h => ?len) (fun _ _ _ _ _ _ us hl => match us, hl with | [_], _ => rfl) (fun cdv A outer s H vs Q E hr h => ⟨_, (pss_one (ps_if (PW.pt (pw_or (pt_not (pt_val (pe_callB call_isi (by rfl) T.z_isinstance (by decide +kernel) (pa_cons (pv 0) (pa_cons (pe_bltn (v := .ty "str") rfl T.z_str (by decide +kernel) rfl) pa_nil))))) (pw_or1 (pt_cmpR op_notIn_seq (pv 0) (pe_glob (v := .ref (He.ga K "GAMES")) rfl T.gl_GAMES rfl) (by rfl))))) (pss_one ps_never) pss_nil)), ?body⟩)
  case len => obtain ⟨g, rfl, _⟩ := h; rfl
  case body =>
    obtain ⟨g, rfl, q⟩ := h
    walk_at "go"
    refine w_inL (T.l_GAMES _) rfl rfl ?_
    cases g <;> (walk_at "go"; exact q)
def spCheckGoal : Sp := fun vs H Q _ => ∃ g : Go, vs = [.str g.s] ∧ Q .non H
theorem sc_check_goal : FnScope ["goal"] ["goal"] (defScope (top 34)) := ⟨rfl, rfl, rfl, by decide +kernel, rfl, by decide +kernel, by decide +kernel⟩
theorem ok_check_goal {P : Program} {w : World} {K : PySem.W.Frag} {mg : Str → Option Value} {base : Heap} (T : Tx P K mg) : Ok P w K mg base 1 (He.ga K "check_goal") (spCheckGoal) := by
  refine ok_mk T.d_check_goal sc_check_goal (fun vs H Q E h => ?len) (fun _ _ _ _ _ _ us hl => match us, hl with | [_], _ => rfl) (fun cdv A outer s H vs Q E hr h => ⟨_, (pss_one (ps_if (PW.pt (pw_or (pt_not (pt_val (pe_callB call_isi (by rfl) T.z_isinstance (by decide +kernel) (pa_cons (pv 0) (pa_cons (pe_bltn (v := .ty "str") rfl T.z_str (by decide +kernel) rfl) pa_nil))))) (pw_or1 (pt_cmpR op_notIn_seq (pv 0) (pe_glob (v := .ref (He.ga K "GOALS")) rfl T.gl_GOALS rfl) (by rfl))))) (pss_one ps_never) pss_nil)), ?body⟩)
  case len => obtain ⟨g, rfl, _⟩ := h; rfl
  case body =>
    obtain ⟨g, rfl, q⟩ := h
    walk_at "go"
    refine w_inL (T.l_GOALS _) rfl rfl ?_
    cases g <;> (walk_at "go"; exact q)
def spCheckWords : Sp := fun vs H Q _ => ∃ (g : Gm) (o : Go), vs = [.str g.s, .str o.s] ∧ Q .non H
theorem sc_check_words : FnScope ["game", "goal"] ["game", "goal"] (defScope (top 35)) := ⟨rfl, rfl, rfl, by decide +kernel, rfl, by decide +kernel, by decide +kernel⟩
theorem ok_check_words {P : Program} {w : World} {K : PySem.W.Frag} {mg : Str → Option Value} {base : Heap} (T : Tx P K mg) : Ok P w K mg base 2 (He.ga K "check_words") (spCheckWords) := by
  refine ok_mk T.d_check_words sc_check_words (fun vs H Q E h => ?len) (fun _ _ _ _ _ _ us hl => match us, hl with | [_, _], _ => rfl) (fun cdv A outer s H vs Q E hr h => ⟨_, (pss_cons (ps_expr (pe_fn (ok_check_game T) hr T.g_check_game (pa_cons (pv 0) pa_nil))) (pss_one (ps_expr (pe_fn (ok_check_goal T) hr T.g_check_goal (pa_cons (pv 1) pa_nil))))), ?body⟩)
  case len => obtain ⟨g, o, rfl, _⟩ := h; rfl
  case body =>
    obtain ⟨g, o, rfl, q⟩ := h
    walk_at "go"
    refine ⟨g, rfl, ?_⟩
    walk_at "go"
    refine ⟨o, rfl, ?_⟩
    walk_at "go"
    exact q
section
variable {H : Hp} {Q : VK} {E : XK} {a b c : Int} {g : Gm} {o : Go}
theorem w_isNumber (q : Q (.bl (decide (b ≤ a) && decide (a ≤ c))) H) : spIsNumber [.int a, .int b, .int c] H Q E := ⟨_, _, _, rfl, q⟩
theorem w_isCount (q : Q (.bl (decide (0 ≤ a))) H) : spIsCount [.int a] H Q E := ⟨_, rfl, q⟩
theorem w_isColour (q : Q (.bl (decide (0 ≤ a) && decide (a ≤ 1))) H) : spIsColour [.int a] H Q E := ⟨_, rfl, q⟩
theorem w_checkGame (q : Q .non H) : spCheckGame [.str g.s] H Q E := ⟨g, rfl, q⟩
theorem w_checkGoal (q : Q .non H) : spCheckGoal [.str o.s] H Q E := ⟨o, rfl, q⟩
theorem w_checkWords (q : Q .non H) : spCheckWords [.str g.s, .str o.s] H Q E := ⟨g, o, rfl, q⟩
end
end Tcf

set_option Elab.async false
set_option linter.all false
set_option maxRecDepth 100000
set_option maxHeartbeats 4000000
/-! DB: rows (printed from DB.tmpl by gen_der.py). -/
namespace Tcf
open PySem PySem.Spec PyProof.Rows L2
open Evl (Ex)
set_option hygiene false in
local macro_rules | `(tactic| walk_at "lkT") => `(tactic| first | (with_reducible exact T.l_GAMES _) | (with_reducible exact T.l_GOALS _))
set_option hygiene false in
local macro_rules | `(tactic| walk_at "isx") => `(tactic| first | (with_reducible exact T.is_Row (by walk_at "lk")) | (with_reducible exact T.is_Flip (by walk_at "lk")) | (with_reducible exact T.is_Table (by walk_at "lk")))
local macro_rules | `(tactic| walk_at "lk") => `(tactic| first
  | assumption
  | walk_at "lkT"
  | ((with_reducible refine' ex_at (by assumption) ?wk); (case wk => walk_at "lk"))
  | ((with_reducible refine' sl_of ?wk); (case wk => walk_at "lk"))
  | ((with_reducible refine' st_of ?wk); (case wk => walk_at "lk"))
  | ((with_reducible refine' ex_l (by assumption) ?wk); (case wk => walk_at "lk"))
  | ((with_reducible refine' ex_t (by assumption) ?wk); (case wk => walk_at "lk"))
  | ((with_reducible refine' mu_at (by assumption) ?wk ?wn); (case wk => walk_at "lk"); (case wn => assumption)))
set_option hygiene false in
local macro_rules | `(tactic| walk_at "sd") => `(tactic| first
  | exact rfl | assumption | (with_reducible exact T.c_Row) | (with_reducible exact T.c_Flip) | (with_reducible exact T.c_Table) | (with_reducible exact T.c_Trial)
  | (with_reducible exact T.n_Row_colour) | (with_reducible exact T.n_Row_sizes) | (with_reducible exact T.n_Flip_begin) | (with_reducible exact T.n_Flip_finish) | (with_reducible exact T.n_Trial_home) | (with_reducible exact T.n_Trial_kept)
  | (with_reducible exact T.n_Table_beginning) | (with_reducible exact T.n_Table_words) | (with_reducible exact T.n_Table_state))
local macro_rules | `(tactic| walk_at "w") => `(tactic| first
  | (with_reducible refine w_seq ?_) | (with_reducible refine w_asg ?_) | (with_reducible refine w_gName ?_) | (with_reducible refine w_ret ?_) | (with_reducible refine w_ifS ?_) | (with_reducible refine w_drop ?_) | (with_reducible refine w_next ?_)
  | ((with_reducible refine' w_aug ?wh ?_); (case wh => exact rfl)) | (with_reducible refine w_match ?_) | (with_reducible refine w_case ?_)
  | ((with_reducible refine' w_var ?wh ?_); (case wh => exact rfl))
  | (with_reducible refine w_c ?_) | (with_reducible refine w_op ?_) | (with_reducible refine w_un ?_) | (with_reducible refine w_nil ?_) | (with_reducible refine w_cons ?_) | (with_reducible refine w_star ?_) | (with_reducible refine w_tup ?_) | (with_reducible refine w_lst ?_)
  | (with_reducible refine w_if ?_) | (with_reducible refine w_and ?_) | (with_reducible refine w_or ?_) | (with_reducible refine w_not ?_) | (with_reducible refine w_bq ?_) | (with_reducible refine w_B ?_) | (with_reducible refine w_test ?_) | (with_reducible refine w_andV ?_) | (with_reducible refine w_orV ?_) | (with_reducible refine w_notV ?_)
  | (with_reducible refine w_chain ?_) | (with_reducible refine w_rI0 ?_) | (with_reducible refine w_rU ?_) | (with_reducible refine w_ipI ?_)
  | (with_reducible refine w_eqI ?_) | (with_reducible refine w_neI ?_) | (with_reducible refine w_eqS ?_) | (with_reducible refine w_neS ?_) | (with_reducible refine w_eqB ?_) | (with_reducible refine w_neB ?_) | (with_reducible refine w_isNr ?_) | (with_reducible refine w_isNn ?_)
  | (with_reducible refine w_sl ?_) | (with_reducible refine w_noPart ?_) | (with_reducible refine w_part ?_) | (with_reducible refine w_pq ?_) | (with_reducible refine w_revL ?_) | (with_reducible refine w_revS ?_)
  | (with_reducible refine w_cb ?_) | (with_reducible refine w_min2 ?_) | (with_reducible refine w_max2 ?_) | (with_reducible refine w_intB ?_)
  | (with_reducible refine w_fn ?_) | (with_reducible refine w_me ?_) | (with_reducible refine w_pr ?_) | (with_reducible refine w_mk ?_) | (with_reducible refine w_fld ?_)
  | (with_reducible refine w_isi_ii ?_) | (with_reducible refine w_isi_ib ?_) | (with_reducible refine w_isi_ss ?_)
  | ((with_reducible refine' w_isi_ll ?wh ?_); (case wh => walk_at "lk"))
  | ((with_reducible refine' w_isi_own ?wh ?wq); (case wh => walk_at "isx"))
  | ((with_reducible refine' w_lenL ?wh ?_); (case wh => walk_at "lk")) | ((with_reducible refine' w_ixL ?wh ?wi ?_); (case wh => walk_at "lk"); (case wi => first | assumption | exact rfl)) | ((with_reducible refine' w_ixT ?wh ?wi ?_); (case wh => walk_at "lk"); (case wi => first | assumption | exact rfl))
  | ((with_reducible refine' w_slL ?wh ?_); (case wh => walk_at "lk")) | ((with_reducible refine' w_rvq ?wh ?_); (case wh => walk_at "lk")) | ((with_reducible refine' w_listO ?wh ?_); (case wh => walk_at "lk")) | ((with_reducible refine' w_starL ?wh ?_); (case wh => walk_at "lk"))
  | ((with_reducible refine' w_fq ?wh ?wc ?wn ?wl ?_); (case wh => walk_at "lk"); (case wc => walk_at "sd"); (case wn => walk_at "sd"); (case wl => exact rfl))
  | ((with_reducible refine' w_sum ?wh ?_); (case wh => walk_at "lk"))
  | ((with_reducible refine' w_all ?wh ?_); (case wh => walk_at "lk"))
  | (with_reducible refine w_forL ?_) | ((with_reducible refine' w_forLq ?wh ?_); (case wh => walk_at "lk")) | (with_reducible refine w_forS ?_) | (with_reducible refine w_forSq ?_) | (with_reducible refine w_forR1 ?_) | ((with_reducible refine' w_forR1q ?wh ?_); (case wh => omega)) | (with_reducible refine w_forR2 ?_) | ((with_reducible refine' w_forR2q ?wh ?_); (case wh => omega)) | (with_reducible refine w_forE ?_) | ((with_reducible refine' w_forEq ?wh ?_); (case wh => walk_at "lk"))
  | (with_reducible refine w_lcL ?_) | ((with_reducible refine' w_lcLq ?wh ?_); (case wh => walk_at "lk")) | (with_reducible refine w_lcS ?_) | (with_reducible refine w_lcSq ?_) | (with_reducible refine w_lcR2 ?_) | ((with_reducible refine' w_lcR2q ?wh ?_); (case wh => omega))
  | (with_reducible refine w_bm ?_) | ((with_reducible refine' w_bmq ?wh ?_); (case wh => walk_at "lk")) | (with_reducible refine w_bm0 ?_) | ((with_reducible refine' w_bm0q ?wh ?_); (case wh => walk_at "lk"))
  | ((with_reducible refine' w_getL ?wh ?wi ?_); (case wh => walk_at "lk"); (case wi => first | assumption | exact rfl)) | (with_reducible refine w_gSub ?_) | (with_reducible refine w_augS ?_)
  | ((with_reducible refine' w_gTup ?wh ?wl ?_); (case wh => walk_at "lk"); (case wl => exact rfl)) | (with_reducible refine w_gCons ?_) | (with_reducible refine w_gNil ?_)
  | (with_reducible refine w_parT ?_) | (with_reducible refine w_parq ?_) | (with_reducible refine w_par3T ?_) | (with_reducible refine w_par3q ?_) | (with_reducible refine w_sfld ?_) | (with_reducible refine w_ob ?_) | (with_reducible refine w_obq ?_)
  | ((with_reducible refine' w_sfq ?wh ?wc ?wn ?wl ?wq); (case wh => walk_at "lk"); (case wc => walk_at "sd"); (case wn => walk_at "sd"); (case wl => exact Nat.le_of_ble_eq_true rfl))
  | ((with_reducible refine' w_rI ?wh ?wq); (case wh => first | decide | exact ⟨by decide, by decide⟩)) | (with_reducible refine w_pairsC ?_) | (with_reducible refine w_pairsN ?_) | ((with_reducible refine' w_cat ?wh ?wk ?wl ?wq); (case wh => walk_at "lk"); (case wk => walk_at "lk"); (case wl => walk_at "sz"))
  | ((with_reducible refine' w_mqRow ?wh ?wl ?wk ?wq); (case wh => walk_at "rw"); (case wl => exact rfl); (case wk => exact rfl))
  | ((with_reducible refine' w_mq ?wh ?wl ?wq); (case wh => walk_at "lk"); (case wl => exact rfl))
  | ((with_reducible refine' w_wipe ?wh ?wq); (case wh => exact rfl)) | (with_reducible refine w_yesT ?_)
  | (with_reducible refine w_isNumber ?_) | (with_reducible refine w_isCount ?_) | (with_reducible refine w_isColour ?_) | (with_reducible refine w_checkGame ?_) | (with_reducible refine w_checkGoal ?_) | (with_reducible refine w_checkWords ?_)
  | (with_reducible refine iteT ?_) | (with_reducible refine iteF ?_) | ((with_reducible refine' w_yes ?wh ?_); (case wh => exact rfl)) | ((with_reducible refine' w_no ?wh ?_); (case wh => exact rfl)))
local macro_rules | `(tactic| walk_at "sz") => `(tactic| first | (refine sz_le ?_; first | assumption | (simp only [List.length_map, List.length_append, List.length_cons, List.length_nil]; omega) | omega) | (refine sz_lt ?_; first | assumption | (simp only [List.length_map, List.length_append, List.length_cons, List.length_nil]; omega) | omega))
local macro_rules | `(tactic| walk_at "go") => `(tactic| repeat (walk_at "w"))
local macro_rules | `(tactic| walk_at "bt") => `(tactic| first | exact rfl | assumption | (simp [*]; done) | (simp; omega) | (simp [*]; omega))
local macro_rules | `(tactic| walk_at "yes") => `(tactic| ((with_reducible refine' w_yes ?wh ?wq); (case wh => walk_at "bt"); walk_at "go"))
local macro_rules | `(tactic| walk_at "no") => `(tactic| ((with_reducible refine' w_no ?wh ?wq); (case wh => walk_at "bt"); walk_at "go"))
local macro_rules | `(tactic| walk_at "st") => `(tactic| ((try dsimp only [L2.cxOf, L2.Cx.nox, L2.Cx.wish]); walk_at "go"))
local macro_rules | `(tactic| walk_at "rw") => `(tactic| first | assumption | ((with_reducible refine' IsRow.rw ?wk); (case wk => walk_at "rw")) | ((with_reducible refine' IsRw.ex (by assumption) ?wk); (case wk => walk_at "rw")) | ((with_reducible refine' IsRow.ex (by assumption) ?wk); (case wk => walk_at "rw")))
local macro_rules | `(tactic| walk_at "ro") => `(tactic| first | assumption | ((with_reducible refine' IsRow.ex (by assumption) ?wk); (case wk => walk_at "ro")))
local macro_rules | `(tactic| walk_at "fl") => `(tactic| first | assumption | ((with_reducible refine' IsFlip.ex (by assumption) ?wk); (case wk => walk_at "fl")))
def spRowInit (K : PySem.W.Frag) : Sp := fun vs H Q _ => ∃ (x dx p : Addr) (c : Int) (l : List Int), vs = [.ref x, .int c, .ref p] ∧ H x = some (.ins (He.ga K "Row") dx []) ∧ H p = some (.lst (l.map V.int)) ∧ RV c l ∧
  ∀ H' q, Mu x H H' → H' x = some (.ins (He.ga K "Row") dx [("colour", .int c), ("sizes", .ref q)]) → H' q = some (.lst (l.map V.int)) → Q .non H'
theorem sc_Row_dinitd : FnScope ["self", "first", "lengths", "length"] ["self", "first", "lengths"] (defScope (inClass (top 22) 0)) := ⟨rfl, rfl, rfl, by decide +kernel, rfl, by decide +kernel, by decide +kernel⟩
theorem ok_Row_dinitd {P : Program} {w : World} {K : PySem.W.Frag} {mg : Str → Option Value} {base : Heap} (T : Tx P K mg) : Ok P w K mg base 3 (He.ma K (He.ga K "Row") "__init__") (spRowInit K) := by
  refine ok_mk T.d_Row_dinitd sc_Row_dinitd (fun vs H Q E h => ?len) (fun _ _ _ _ _ _ us hl => match us, hl with | [_, _, _], _ => rfl) (fun cdv A outer s H vs Q E hr h => ⟨_, (pss_cons (ps_if (PW.pt (pw_or (pt_not (pt_val (pe_fn (ok_is_colour T) hr T.g_is_colour (pa_cons (pv 1) pa_nil)))) (pw_or (pt_not (pt_val (pe_callB call_isi (by rfl) T.z_isinstance (by decide +kernel) (pa_cons (pv 2) (pa_cons (pe_bltn (v := .ty "list") rfl T.z_list (by decide +kernel) rfl) pa_nil))))) (pw_or1 (pt_cmpR op_gt (pe_callB cq_lenQ (by rfl) T.z_len (by decide +kernel) (pa_cons (pv 2) pa_nil)) (pe_glob (v := .int 2000) rfl (T.i_MAX_RUNS).choose_spec ⟨_, rfl⟩) (nomark _)))))) (pss_one ps_never) pss_nil) (pss_cons (ps_if (PW.pt (pw_or (pt_not (pt_val (pe_callB (cr_all rfl) (by rfl) T.z_all (by decide +kernel) (pa_cons (pe_lc (own := [("length", 3)]) (by rfl) sc_Row_dinitd.nd (pi_list (pv 2)) (blkOk_by (own := [("length", 3)]) (N := ["self", "first", "lengths", "length"]) (sc := defScope (inClass (top 22) 0)) (by decide +kernel)) (fun _ _ _ _ _ => (pg_name (i := 3) sc_Row_dinitd.nd rfl (Or.inl rfl))) (fun _ _ _ _ _ => pts_nil) (fun _ _ _ _ _ => (pe_fn (ok_is_number T) hr T.g_is_number (pa_cons (pv 3) (pa_cons pe_int (pa_cons (pe_glob (v := .int (10 ^ 30)) rfl (T.i_MAX_LENGTH).choose_spec ⟨_, rfl⟩) pa_nil)))))) pa_nil)))) (pw_or1 (pt_cmpR op_gt (pe_callB (cr_sum rfl) (by rfl) T.z_sum (by decide +kernel) (pa_cons (pv 2) pa_nil)) (pe_glob (v := .int (10 ^ 30)) rfl (T.i_MAX_LENGTH).choose_spec ⟨_, rfl⟩) (nomark _))))) (pss_one ps_never) pss_nil) (pss_cons (ps_if (PW.pt (pw_and (pt_cmpR (op_eqD hr.units) (pv 2) (pe_lst pa_nil) (nomark _)) (pw_and1 (pt_cmpR op_eq (pv 1) pe_int (nomark _))))) (pss_one ps_never) pss_nil) (pss_cons (ps_fld (pv 0) (pv 1) rfl) (pss_one (ps_fld (pv 0) (pe_callTy cq_listO (by rfl) T.z_list (by decide +kernel) (pa_cons (pv 2) pa_nil)) rfl)))))), ?body⟩)
  case len => obtain ⟨x, dx, p, c, l, rfl, _⟩ := h; rfl
  case body =>
    obtain ⟨x, dx, p, c, l, rfl, hx, hp, rv, q⟩ := h
    have hlen := rv.len
    have c0 := rv.c0
    have c1 := rv.c1
    walk_at "st"
    walk_at "no"
    walk_at "no"
    refine w_lcW walk_list (fun _ => true) (fun _ v _ => v = .bl true) (by rw [List.length_map]; omega) (fun _ _ _ _ y => y.1) (fun _ _ _ _ _ h => h) (fun _ _ _ _ _ _ _ h => h) (fun H' e => ex_l e (sl_of hp)) (fun i y H1 hi e1 hy QE k h1 h2 => ?_) (fun D H1 ys e1 nD hD pr => ?_)
    · obtain ⟨m, hm, rfl⟩ := map_at hy.2
      obtain ⟨r1, r2⟩ := rv.pos m (List.mem_of_getElem? hm)
      walk_at "go"
      refine h1 rfl _ _ (Ex.refl _) ?_
      rw [decide_eq_true r1, decide_eq_true (by omega)]
      rfl
    · walk_at "go"
      refine w_allT hD pr ?_
      have hs := rv.sum
      walk_at "go"
      walk_at "no"
      refine w_newA (by show (0 : Nat) ≤ sizeLine; decide) fun p1 H2 e2 n2 h2 => ?_
      refine w_eqNilI (l := l) (sl_of (e2 _ _ (e1 _ _ hp))) (sl_of h2) ?_
      walk_at "go"
      have npx : p ≠ x := ne_of hp hx (by intro z; cases z)
      refine w_ite (fun e => ?_) (fun e => ?_)
      · have hc := rv.emp (of_decide_eq_true e)
        walk_at "go"
        walk_at "no"
        intro H3 m3 h3
        walk_at "go"
        refine w_new fun q1 H4 e4 n4 h4 => ?_
        walk_at "go"
        intro H5 m5 h5
        walk_at "go"
        have n1 : q1 ≠ x := fun z => by rw [z, h3] at n4; cases n4
        exact q H5 q1 (((Mu.ofEx (e1.trans e2)).trans (m3.ex e4)).trans m5) h5 (mu_at m5 h4 n1)
      · walk_at "go"
        intro H3 m3 h3
        walk_at "go"
        refine w_new fun q1 H4 e4 n4 h4 => ?_
        walk_at "go"
        intro H5 m5 h5
        walk_at "go"
        have n1 : q1 ≠ x := fun z => by rw [z, h3] at n4; cases n4
        exact q H5 q1 (((Mu.ofEx (e1.trans e2)).trans (m3.ex e4)).trans m5) h5 (mu_at m5 h4 n1)
/-- Row(c, l) -/
theorem w_mkRow {K : PySem.W.Frag} {H : Hp} {Q : VK} {E : XK} {c : Int} {l : List Int} {p : Addr} (hp : H p = some (.lst (l.map V.int))) (rv : RV c l) (q : ∀ r H2, Ex H H2 → IsRw K H2 r c l → Q (.ref r) H2) : MkQ (He.ga K "Row") (spRowInit K) E [.int c, .ref p] Q H := by
  intro x dx nx ndx ne
  have e0 : Ex H (upd (upd H dx (.own x)) x (.ins (He.ga K "Row") dx [])) := (Ex.new ndx).trans (Ex.new (by rw [upd_ne (Ne.symm ne)]; exact nx))
  refine ⟨x, dx, p, c, l, rfl, upd_same, e0 _ _ hp, rv, fun H' t m h1 h2 => ⟨rfl, ?_⟩⟩
  exact q x H' (m H e0 nx) ⟨dx, t, h1, h2⟩
def spFirst (K : PySem.W.Frag) : Sp := fun vs H Q _ => ∃ r c l, vs = [.ref r] ∧ IsRw K H r c l ∧ Q (.int c) H
theorem sc_Row_first : FnScope ["self"] ["self"] (defScope (inClass (top 22) 1)) := ⟨rfl, rfl, rfl, by decide +kernel, rfl, by decide +kernel, by decide +kernel⟩
theorem ok_Row_first {P : Program} {w : World} {K : PySem.W.Frag} {mg : Str → Option Value} {base : Heap} (T : Tx P K mg) : Ok P w K mg base 1 (pgAd K "Row" "first") (spFirst K) := by
  refine ok_mk T.d_Row_first sc_Row_first (fun vs H Q E h => ?len) (fun _ _ _ _ _ _ us hl => match us, hl with | [_], _ => rfl) (fun cdv A outer s H vs Q E hr h => ⟨_, (pss_one (ps_ret (pe_fld (pv 0) rfl))), ?body⟩)
  case len => obtain ⟨r, c, l, rfl, _⟩ := h; rfl
  case body =>
    obtain ⟨r, c, l, rfl, ⟨dx, p, h1, h2⟩, q⟩ := h
    walk_at "st"
    exact q
def spLengths (K : PySem.W.Frag) : Sp := fun vs H Q _ => ∃ r c l, vs = [.ref r] ∧ IsRw K H r c l ∧ ∀ p H', Ex H H' → H p = none → H' p = some (.lst (l.map V.int)) → Q (.ref p) H'
theorem sc_Row_lengths : FnScope ["self"] ["self"] (defScope (inClass (top 22) 3)) := ⟨rfl, rfl, rfl, by decide +kernel, rfl, by decide +kernel, by decide +kernel⟩
theorem ok_Row_lengths {P : Program} {w : World} {K : PySem.W.Frag} {mg : Str → Option Value} {base : Heap} (T : Tx P K mg) : Ok P w K mg base 1 (pgAd K "Row" "lengths") (spLengths K) := by
  refine ok_mk T.d_Row_lengths sc_Row_lengths (fun vs H Q E h => ?len) (fun _ _ _ _ _ _ us hl => match us, hl with | [_], _ => rfl) (fun cdv A outer s H vs Q E hr h => ⟨_, (pss_one (ps_ret (pe_callTy cq_listO (by rfl) T.z_list (by decide +kernel) (pa_cons (pe_fld (pv 0) rfl) pa_nil)))), ?body⟩)
  case len => obtain ⟨r, c, l, rfl, _⟩ := h; rfl
  case body =>
    obtain ⟨r, c, l, rfl, ⟨dx, p, h1, h2⟩, q⟩ := h
    walk_at "st"
    exact w_new q
def spRuns (K : PySem.W.Frag) : Sp := fun vs H Q _ => ∃ r c l, vs = [.ref r] ∧ IsRw K H r c l ∧ Q (.int l.length) H
theorem sc_Row_runs : FnScope ["self"] ["self"] (defScope (inClass (top 22) 4)) := ⟨rfl, rfl, rfl, by decide +kernel, rfl, by decide +kernel, by decide +kernel⟩
theorem ok_Row_runs {P : Program} {w : World} {K : PySem.W.Frag} {mg : Str → Option Value} {base : Heap} (T : Tx P K mg) : Ok P w K mg base 1 (pgAd K "Row" "runs") (spRuns K) := by
  refine ok_mk T.d_Row_runs sc_Row_runs (fun vs H Q E h => ?len) (fun _ _ _ _ _ _ us hl => match us, hl with | [_], _ => rfl) (fun cdv A outer s H vs Q E hr h => ⟨_, (pss_one (ps_ret (pe_callB cq_lenQ (by rfl) T.z_len (by decide +kernel) (pa_cons (pe_fld (pv 0) rfl) pa_nil)))), ?body⟩)
  case len => obtain ⟨r, c, l, rfl, _⟩ := h; rfl
  case body =>
    obtain ⟨r, c, l, rfl, ⟨dx, p, h1, h2⟩, q⟩ := h
    walk_at "st"
    rw [List.length_map]
    exact q
def spLength (K : PySem.W.Frag) : Sp := fun vs H Q _ => ∃ r c l, vs = [.ref r] ∧ IsRw K H r c l ∧ Q (.int l.sum) H
theorem sc_Row_length : FnScope ["self"] ["self"] (defScope (inClass (top 22) 5)) := ⟨rfl, rfl, rfl, by decide +kernel, rfl, by decide +kernel, by decide +kernel⟩
theorem ok_Row_length {P : Program} {w : World} {K : PySem.W.Frag} {mg : Str → Option Value} {base : Heap} (T : Tx P K mg) : Ok P w K mg base 1 (pgAd K "Row" "length") (spLength K) := by
  refine ok_mk T.d_Row_length sc_Row_length (fun vs H Q E h => ?len) (fun _ _ _ _ _ _ us hl => match us, hl with | [_], _ => rfl) (fun cdv A outer s H vs Q E hr h => ⟨_, (pss_one (ps_ret (pe_callB (cr_sum rfl) (by rfl) T.z_sum (by decide +kernel) (pa_cons (pe_fld (pv 0) rfl) pa_nil)))), ?body⟩)
  case len => obtain ⟨r, c, l, rfl, _⟩ := h; rfl
  case body =>
    obtain ⟨r, c, l, rfl, ⟨dx, p, h1, h2⟩, q⟩ := h
    walk_at "st"
    exact q
def spRowEq (K : PySem.W.Frag) : Sp := fun vs H Q _ => ∃ r s c l, vs = [.ref r, .ref s] ∧ IsRw K H r c l ∧ IsRw K H s c l ∧ Q (.bl true) H
theorem sc_Row_deqd : FnScope ["self", "other"] ["self", "other"] (defScope (inClass (top 22) 6)) := ⟨rfl, rfl, rfl, by decide +kernel, rfl, by decide +kernel, by decide +kernel⟩
theorem ok_Row_deqd {P : Program} {w : World} {K : PySem.W.Frag} {mg : Str → Option Value} {base : Heap} (T : Tx P K mg) : Ok P w K mg base 1 (He.ma K (He.ga K "Row") "__eq__") (spRowEq K) := by
  refine ok_mk T.d_Row_deqd sc_Row_deqd (fun vs H Q E h => ?len) (fun _ _ _ _ _ _ us hl => match us, hl with | [_, _], _ => rfl) (fun cdv A outer s H vs Q E hr h => ⟨_, (pss_one (ps_ret (pe_and (pe_callB call_isi (by rfl) T.z_isinstance (by decide +kernel) (pa_cons (pv 1) (pa_cons (pe_glob (v := .ref (He.ga K "Row")) rfl T.gc_Row rfl) pa_nil))) (pe_and (pe_cmpR op_eq (pe_fld (pv 0) rfl) (pe_fld (pv 1) rfl) (nomark _)) (pe_one (pe_cmpR (op_eqD hr.units) (pe_fld (pv 0) rfl) (pe_fld (pv 1) rfl) (nomark _))))))), ?body⟩)
  case len => obtain ⟨r, s, c, l, rfl, _⟩ := h; rfl
  case body =>
    obtain ⟨r, s, c, l, rfl, ⟨dx, p, h1, h2⟩, ⟨dy, u, h3, h4⟩, q⟩ := h
    walk_at "st"
    walk_at "yes"
    exact w_eqInts (sl_of h2) (sl_of h4) q
def joinL (c : Int) (l : List Int) (d : Int) (m : List Int) : Int × List Int :=
  if l = [] then (d, m) else if m = [] then (c, l) else if (c + l.length - 1).fmod 2 ≠ d then (c, l ++ m) else (c, l.dropLast ++ ((l.getLastD 0 + m.headD 0) :: m.tail))
def spJoined (K : PySem.W.Frag) : Sp := fun vs H Q _ => ∃ (a b p t : Addr) (c d : Int) (l m : List Int), vs = [.ref a, .ref b] ∧ H a = some (.tup [.int c, .ref p]) ∧ H p = some (.lst (l.map V.int)) ∧ H b = some (.tup [.int d, .ref t]) ∧ H t = some (.lst (m.map V.int)) ∧ l.length ≤ 1000 ∧ m.length ≤ 1000 ∧
  ∀ r u H', Ex H H' → H' r = some (.tup [.int (joinL c l d m).1, .ref u]) → H' u = some (.lst ((joinL c l d m).2.map V.int)) → Q (.ref r) H'
theorem sc_joined : FnScope ["first", "second", "colour", "lengths", "other", "more"] ["first", "second"] (defScope (top 21)) := ⟨rfl, rfl, rfl, by decide +kernel, rfl, by decide +kernel, by decide +kernel⟩
theorem ok_joined {P : Program} {w : World} {K : PySem.W.Frag} {mg : Str → Option Value} {base : Heap} (T : Tx P K mg) : Ok P w K mg base 1 (He.ga K "joined") (spJoined K) := by
  refine ok_mk T.d_joined sc_joined (fun vs H Q E h => ?len) (fun _ _ _ _ _ _ us hl => match us, hl with | [_, _], _ => rfl) (fun cdv A outer s H vs Q E hr h => ⟨_, (pss_cons (ps_asg (pv 0) (pg_tup rfl (pgs_cons (pg_name (i := 2) sc_joined.nd rfl (Or.inl rfl)) (pgs_cons (pg_name (i := 3) sc_joined.nd rfl (Or.inl rfl)) pgs_nil)))) (pss_cons (ps_asg (pv 1) (pg_tup rfl (pgs_cons (pg_name (i := 4) sc_joined.nd rfl (Or.inl rfl)) (pgs_cons (pg_name (i := 5) sc_joined.nd rfl (Or.inl rfl)) pgs_nil)))) (pss_cons (ps_if (PW.pt (pw_or (pt_cmpR (op_eqD hr.units) (pv 3) (pe_lst pa_nil) (nomark _)) (pw_or1 (pt_cmpR (op_eqD hr.units) (pv 5) (pe_lst pa_nil) (nomark _))))) (pss_one (ps_ret (pe_ifExp (pt_cmpR (op_eqD hr.units) (pv 3) (pe_lst pa_nil) (nomark _)) (pv 1) (pv 0)))) pss_nil) (pss_cons (ps_if (pt_cmpR op_ne (pe_op op_modN (pe_op op_sub (pe_op op_add (pv 2) (pe_callB cq_lenQ (by rfl) T.z_len (by decide +kernel) (pa_cons (pv 3) pa_nil))) pe_int) pe_int) (pv 4) (nomark _)) (pss_one (ps_ret (pe_tup (pa_cons (pv 2) (pa_cons (pe_op op_cat (pv 3) (pv 5)) pa_nil))))) pss_nil) (pss_one (ps_ret (pe_tup (pa_cons (pv 2) (pa_cons (pe_lst (StX.pa_star (pe_slice sl_list (pv 3) po_none (po_some (pe_un un_neg pe_int))) (pa_cons (pe_op op_add (pe_ix ix_list (pv 3) (pe_un un_neg pe_int) (fun _ _ => rfl)) (pe_ix ix_list (pv 5) pe_int (fun _ _ => rfl))) (StX.pa_star (pe_slice sl_list (pv 5) (po_some pe_int) po_none) pa_nil)))) pa_nil))))))))), ?body⟩)
  case len => obtain ⟨a, b, p, t, c, d, l, m, rfl, _⟩ := h; rfl
  case body =>
    obtain ⟨a, b, p, t, c, d, l, m, rfl, ha, hp, hb, ht, zl, zm, q⟩ := h
    walk_at "st"
    refine w_newA (by show (0 : Nat) ≤ sizeLine; decide) fun p1 H2 e2 n2 h2 => ?_
    refine w_eqNilI (l := l) (sl_of (e2 _ _ hp)) (sl_of h2) ?_
    walk_at "go"
    refine w_ite (fun e => ?_) (fun e => ?_)
    · have hl := of_decide_eq_true e
      subst hl
      walk_at "go"
      refine w_newA (by show (0 : Nat) ≤ sizeLine; decide) fun p3 H3 e3 n3 h3 => ?_
      refine w_eqNilI (l := []) (sl_of (e3 _ _ (e2 _ _ hp))) (sl_of h3) ?_
      walk_at "go"
      have e4 := e2.trans e3
      refine q b t H3 e4 ?_ ?_
      · exact e4 _ _ hb
      · exact e4 _ _ ht
    · have hl := of_decide_eq_false e
      walk_at "go"
      refine w_newA (by show (0 : Nat) ≤ sizeLine; decide) fun p3 H3 e3 n3 h3 => ?_
      refine w_eqNilI (l := m) (sl_of (e3 _ _ (e2 _ _ ht))) (sl_of h3) ?_
      walk_at "go"
      have e4 := e2.trans e3
      refine w_ite (fun e => ?_) (fun e => ?_)
      · have hm := of_decide_eq_true e
        subst hm
        walk_at "go"
        refine w_newA (by show (0 : Nat) ≤ sizeLine; decide) fun p5 H5 e5 n5 h5 => ?_
        refine w_eqNilI (l := l) (sl_of (e5 _ _ (e4 _ _ hp))) (sl_of h5) ?_
        walk_at "go"
        walk_at "no"
        have e6 := e4.trans e5
        have ej : joinL c l d [] = (c, l) := by unfold joinL; rw [if_neg hl, if_pos rfl]
        refine q a p H5 e6 ?_ ?_
        · rw [ej]; exact e6 _ _ ha
        · rw [ej]; exact e6 _ _ hp
      · have hm := of_decide_eq_false e
        walk_at "go"
        rw [List.length_map]
        refine w_ite (fun e => ?_) (fun e => ?_)
        · have hc : (c + l.length - 1).fmod 2 ≠ d := by simpa using e
          have ej : joinL c l d m = (c, l ++ m) := by unfold joinL; rw [if_neg hl, if_neg hm, if_pos hc]
          walk_at "go"
          refine w_new fun p5 H5 e5 n5 h5 => ?_
          walk_at "go"
          refine w_newA (by show (2 : Nat) ≤ sizeLine; decide) fun p6 H6 e6 n6 h6 => ?_
          refine q p6 p5 H6 ((e4.trans e5).trans e6) ?_ ?_
          · rw [ej]; exact h6
          · rw [ej, List.map_append]; exact e6 _ _ h5
        · have hc : ¬ (c + l.length - 1).fmod 2 ≠ d := by simpa using e
          have ej : joinL c l d m = (c, l.dropLast ++ ((l.getLastD 0 + m.headD 0) :: m.tail)) := by unfold joinL; rw [if_neg hl, if_neg hm, if_neg hc]
          obtain ⟨i, x, rfl⟩ := snoc_of hl
          obtain ⟨y, ys, rfl⟩ : ∃ y ys, m = y :: ys := by cases m with | nil => exact absurd rfl hm | cons y ys => exact ⟨y, ys, rfl⟩
          walk_at "go"
          rw [List.map_append]
          refine w_new fun p5 H5 e5 n5 h5 => ?_
          rw [show List.map V.int [x] = [V.int x] from rfl, cutV_init] at h5
          walk_at "go"
          have hp5 : H5 p = some (.lst (i.map V.int ++ [V.int x])) := by
            have := e5 _ _ (e4 _ _ hp)
            rw [List.map_append] at this
            exact this
          refine w_ixL (K := K) (sl_of hp5) (atI_last _ _) ?_
          walk_at "go"
          refine w_ixL (K := K) (xs := .int y :: ys.map V.int) (v := .int y) (by walk_at "lk") (at0 _ _) ?_
          walk_at "go"
          refine w_new fun p6 H6 e6 n6 h6 => ?_
          rw [List.map_cons, cutV_tail] at h6
          walk_at "go"
          refine w_newA ?_ fun p7 H7 e7 n7 h7 => ?_
          · refine sz_le ?_
            simp only [List.length_append, List.length_map, List.length_cons, List.length_nil] at zl zm ⊢
            omega
          walk_at "go"
          refine w_newA (by show (2 : Nat) ≤ sizeLine; decide) fun p8 H8 e8 n8 h8 => ?_
          refine q p8 p7 H8 (((((e4).trans e5).trans e6).trans e7).trans e8) ?_ ?_
          · rw [ej]; exact h8
          · rw [ej, e8 _ _ h7]
            simp
section
variable {K : PySem.W.Frag} {H : Hp} {Q : VK} {E : XK} {c : Int} {l : List Int} {r : Addr}
theorem w_first (h : IsRw K H r c l) (q : Q (.int c) H) : PrQ (He.ga K "Row") (spFirst K) Q (.ref r) H := by
  obtain ⟨dx, p, h1, h2⟩ := id h
  exact ⟨r, dx, _, rfl, h1, r, c, l, rfl, h, q⟩
theorem w_runs (h : IsRw K H r c l) (q : Q (.int l.length) H) : PrQ (He.ga K "Row") (spRuns K) Q (.ref r) H := by
  obtain ⟨dx, p, h1, h2⟩ := id h
  exact ⟨r, dx, _, rfl, h1, r, c, l, rfl, h, q⟩
theorem w_length (h : IsRw K H r c l) (q : Q (.int l.sum) H) : PrQ (He.ga K "Row") (spLength K) Q (.ref r) H := by
  obtain ⟨dx, p, h1, h2⟩ := id h
  exact ⟨r, dx, _, rfl, h1, r, c, l, rfl, h, q⟩
theorem w_lengths (h : IsRw K H r c l) (q : ∀ p H', Ex H H' → H p = none → H' p = some (.lst (l.map V.int)) → Q (.ref p) H') : PrQ (He.ga K "Row") (spLengths K) Q (.ref r) H := by
  obtain ⟨dx, p, h1, h2⟩ := id h
  exact ⟨r, dx, _, rfl, h1, r, c, l, rfl, h, q⟩
end
end Tcf

set_option Elab.async false
set_option linter.all false
set_option maxRecDepth 100000
set_option maxHeartbeats 4000000
/-! DC: rows joined, turned around, cut (printed from DC.tmpl by gen_der.py). -/
namespace Tcf
open PySem PySem.Spec PyProof.Rows L2
open Evl (Ex)
set_option hygiene false in
local macro_rules | `(tactic| walk_at "lkT") => `(tactic| first | (with_reducible exact T.l_GAMES _) | (with_reducible exact T.l_GOALS _))
set_option hygiene false in
local macro_rules | `(tactic| walk_at "isx") => `(tactic| first | (with_reducible exact T.is_Row (by walk_at "lk")) | (with_reducible exact T.is_Flip (by walk_at "lk")) | (with_reducible exact T.is_Table (by walk_at "lk")))
local macro_rules | `(tactic| walk_at "lk") => `(tactic| first
  | assumption
  | walk_at "lkT"
  | ((with_reducible refine' ex_at (by assumption) ?wk); (case wk => walk_at "lk"))
  | ((with_reducible refine' sl_of ?wk); (case wk => walk_at "lk"))
  | ((with_reducible refine' st_of ?wk); (case wk => walk_at "lk"))
  | ((with_reducible refine' ex_l (by assumption) ?wk); (case wk => walk_at "lk"))
  | ((with_reducible refine' ex_t (by assumption) ?wk); (case wk => walk_at "lk"))
  | ((with_reducible refine' mu_at (by assumption) ?wk ?wn); (case wk => walk_at "lk"); (case wn => assumption)))
set_option hygiene false in
local macro_rules | `(tactic| walk_at "sd") => `(tactic| first
  | exact rfl | assumption | (with_reducible exact T.c_Row) | (with_reducible exact T.c_Flip) | (with_reducible exact T.c_Table) | (with_reducible exact T.c_Trial)
  | (with_reducible exact T.n_Row_colour) | (with_reducible exact T.n_Row_sizes) | (with_reducible exact T.n_Flip_begin) | (with_reducible exact T.n_Flip_finish) | (with_reducible exact T.n_Trial_home) | (with_reducible exact T.n_Trial_kept)
  | (with_reducible exact T.n_Table_beginning) | (with_reducible exact T.n_Table_words) | (with_reducible exact T.n_Table_state))
local macro_rules | `(tactic| walk_at "w") => `(tactic| first
  | (with_reducible refine w_seq ?_) | (with_reducible refine w_asg ?_) | (with_reducible refine w_gName ?_) | (with_reducible refine w_ret ?_) | (with_reducible refine w_ifS ?_) | (with_reducible refine w_drop ?_) | (with_reducible refine w_next ?_)
  | ((with_reducible refine' w_aug ?wh ?_); (case wh => exact rfl)) | (with_reducible refine w_match ?_) | (with_reducible refine w_case ?_)
  | ((with_reducible refine' w_var ?wh ?_); (case wh => exact rfl))
  | (with_reducible refine w_c ?_) | (with_reducible refine w_op ?_) | (with_reducible refine w_un ?_) | (with_reducible refine w_nil ?_) | (with_reducible refine w_cons ?_) | (with_reducible refine w_star ?_) | (with_reducible refine w_tup ?_) | (with_reducible refine w_lst ?_)
  | (with_reducible refine w_if ?_) | (with_reducible refine w_and ?_) | (with_reducible refine w_or ?_) | (with_reducible refine w_not ?_) | (with_reducible refine w_bq ?_) | (with_reducible refine w_B ?_) | (with_reducible refine w_test ?_) | (with_reducible refine w_andV ?_) | (with_reducible refine w_orV ?_) | (with_reducible refine w_notV ?_)
  | (with_reducible refine w_chain ?_) | (with_reducible refine w_rI0 ?_) | (with_reducible refine w_rU ?_) | (with_reducible refine w_ipI ?_)
  | (with_reducible refine w_eqI ?_) | (with_reducible refine w_neI ?_) | (with_reducible refine w_eqS ?_) | (with_reducible refine w_neS ?_) | (with_reducible refine w_eqB ?_) | (with_reducible refine w_neB ?_) | (with_reducible refine w_isNr ?_) | (with_reducible refine w_isNn ?_)
  | (with_reducible refine w_sl ?_) | (with_reducible refine w_noPart ?_) | (with_reducible refine w_part ?_) | (with_reducible refine w_pq ?_) | (with_reducible refine w_revL ?_) | (with_reducible refine w_revS ?_)
  | (with_reducible refine w_cb ?_) | (with_reducible refine w_min2 ?_) | (with_reducible refine w_max2 ?_) | (with_reducible refine w_intB ?_)
  | (with_reducible refine w_fn ?_) | (with_reducible refine w_me ?_) | (with_reducible refine w_pr ?_) | (with_reducible refine w_mk ?_) | (with_reducible refine w_fld ?_)
  | (with_reducible refine w_isi_ii ?_) | (with_reducible refine w_isi_ib ?_) | (with_reducible refine w_isi_ss ?_)
  | ((with_reducible refine' w_isi_ll ?wh ?_); (case wh => walk_at "lk"))
  | ((with_reducible refine' w_isi_own ?wh ?wq); (case wh => walk_at "isx"))
  | ((with_reducible refine' w_lenL ?wh ?_); (case wh => walk_at "lk")) | ((with_reducible refine' w_ixL ?wh ?wi ?_); (case wh => walk_at "lk"); (case wi => first | assumption | exact rfl)) | ((with_reducible refine' w_ixT ?wh ?wi ?_); (case wh => walk_at "lk"); (case wi => first | assumption | exact rfl))
  | ((with_reducible refine' w_slL ?wh ?_); (case wh => walk_at "lk")) | ((with_reducible refine' w_rvq ?wh ?_); (case wh => walk_at "lk")) | ((with_reducible refine' w_listO ?wh ?_); (case wh => walk_at "lk")) | ((with_reducible refine' w_starL ?wh ?_); (case wh => walk_at "lk"))
  | ((with_reducible refine' w_fq ?wh ?wc ?wn ?wl ?_); (case wh => walk_at "lk"); (case wc => walk_at "sd"); (case wn => walk_at "sd"); (case wl => exact rfl))
  | ((with_reducible refine' w_sum ?wh ?_); (case wh => walk_at "lk"))
  | ((with_reducible refine' w_all ?wh ?_); (case wh => walk_at "lk"))
  | (with_reducible refine w_forL ?_) | ((with_reducible refine' w_forLq ?wh ?_); (case wh => walk_at "lk")) | (with_reducible refine w_forS ?_) | (with_reducible refine w_forSq ?_) | (with_reducible refine w_forR1 ?_) | ((with_reducible refine' w_forR1q ?wh ?_); (case wh => omega)) | (with_reducible refine w_forR2 ?_) | ((with_reducible refine' w_forR2q ?wh ?_); (case wh => omega)) | (with_reducible refine w_forE ?_) | ((with_reducible refine' w_forEq ?wh ?_); (case wh => walk_at "lk"))
  | (with_reducible refine w_lcL ?_) | ((with_reducible refine' w_lcLq ?wh ?_); (case wh => walk_at "lk")) | (with_reducible refine w_lcS ?_) | (with_reducible refine w_lcSq ?_) | (with_reducible refine w_lcR2 ?_) | ((with_reducible refine' w_lcR2q ?wh ?_); (case wh => omega))
  | (with_reducible refine w_bm ?_) | ((with_reducible refine' w_bmq ?wh ?_); (case wh => walk_at "lk")) | (with_reducible refine w_bm0 ?_) | ((with_reducible refine' w_bm0q ?wh ?_); (case wh => walk_at "lk"))
  | ((with_reducible refine' w_getL ?wh ?wi ?_); (case wh => walk_at "lk"); (case wi => first | assumption | exact rfl)) | (with_reducible refine w_gSub ?_) | (with_reducible refine w_augS ?_)
  | ((with_reducible refine' w_gTup ?wh ?wl ?_); (case wh => walk_at "lk"); (case wl => exact rfl)) | (with_reducible refine w_gCons ?_) | (with_reducible refine w_gNil ?_)
  | (with_reducible refine w_parT ?_) | (with_reducible refine w_parq ?_) | (with_reducible refine w_par3T ?_) | (with_reducible refine w_par3q ?_) | (with_reducible refine w_sfld ?_) | (with_reducible refine w_ob ?_) | (with_reducible refine w_obq ?_)
  | ((with_reducible refine' w_sfq ?wh ?wc ?wn ?wl ?wq); (case wh => walk_at "lk"); (case wc => walk_at "sd"); (case wn => walk_at "sd"); (case wl => exact Nat.le_of_ble_eq_true rfl))
  | ((with_reducible refine' w_rI ?wh ?wq); (case wh => first | decide | exact ⟨by decide, by decide⟩)) | (with_reducible refine w_pairsC ?_) | (with_reducible refine w_pairsN ?_) | ((with_reducible refine' w_cat ?wh ?wk ?wl ?wq); (case wh => walk_at "lk"); (case wk => walk_at "lk"); (case wl => walk_at "sz"))
  | ((with_reducible refine' w_mqRow ?wh ?wl ?wk ?wq); (case wh => walk_at "rw"); (case wl => exact rfl); (case wk => exact rfl))
  | ((with_reducible refine' w_mq ?wh ?wl ?wq); (case wh => walk_at "lk"); (case wl => exact rfl))
  | ((with_reducible refine' w_wipe ?wh ?wq); (case wh => exact rfl)) | (with_reducible refine w_yesT ?_)
  | (with_reducible refine w_isNumber ?_) | (with_reducible refine w_isCount ?_) | (with_reducible refine w_isColour ?_) | (with_reducible refine w_checkGame ?_) | (with_reducible refine w_checkGoal ?_) | (with_reducible refine w_checkWords ?_)
  | (with_reducible refine iteT ?_) | (with_reducible refine iteF ?_) | ((with_reducible refine' w_yes ?wh ?_); (case wh => exact rfl)) | ((with_reducible refine' w_no ?wh ?_); (case wh => exact rfl)))
local macro_rules | `(tactic| walk_at "sz") => `(tactic| first | (refine sz_le ?_; first | assumption | (simp only [List.length_map, List.length_append, List.length_cons, List.length_nil]; omega) | omega) | (refine sz_lt ?_; first | assumption | (simp only [List.length_map, List.length_append, List.length_cons, List.length_nil]; omega) | omega))
local macro_rules | `(tactic| walk_at "go") => `(tactic| repeat (walk_at "w"))
local macro_rules | `(tactic| walk_at "bt") => `(tactic| first | exact rfl | assumption | (simp [*]; done) | (simp; omega) | (simp [*]; omega))
local macro_rules | `(tactic| walk_at "yes") => `(tactic| ((with_reducible refine' w_yes ?wh ?wq); (case wh => walk_at "bt"); walk_at "go"))
local macro_rules | `(tactic| walk_at "no") => `(tactic| ((with_reducible refine' w_no ?wh ?wq); (case wh => walk_at "bt"); walk_at "go"))
local macro_rules | `(tactic| walk_at "st") => `(tactic| ((try dsimp only [L2.cxOf, L2.Cx.nox, L2.Cx.wish]); walk_at "go"))
local macro_rules | `(tactic| walk_at "rw") => `(tactic| first | assumption | ((with_reducible refine' IsRow.rw ?wk); (case wk => walk_at "rw")) | ((with_reducible refine' IsRw.ex (by assumption) ?wk); (case wk => walk_at "rw")) | ((with_reducible refine' IsRow.ex (by assumption) ?wk); (case wk => walk_at "rw")))
local macro_rules | `(tactic| walk_at "ro") => `(tactic| first | assumption | ((with_reducible refine' IsRow.ex (by assumption) ?wk); (case wk => walk_at "ro")))
local macro_rules | `(tactic| walk_at "fl") => `(tactic| first | assumption | ((with_reducible refine' IsFlip.ex (by assumption) ?wk); (case wk => walk_at "fl")))
local macro_rules | `(tactic| walk_at "w") => `(tactic| first
  | ((with_reducible refine' w_first ?wh ?wq); (case wh => walk_at "rw")) | ((with_reducible refine' w_runs ?wh ?wq); (case wh => walk_at "rw")) | ((with_reducible refine' w_length ?wh ?wq); (case wh => walk_at "rw")) | ((with_reducible refine' w_lengths ?wh ?wq); (case wh => walk_at "rw")))
/-! ### mathematics -/
def rowW (w : Wd) : Int × List Int := (colW w, runsW w)
theorem join_word (w : Wd) (h : w.length ≤ 7) (k : Nat) (hk : k ≤ w.length) : joinL (colW (w.take k)) (runsW (w.take k)) (colW (w.drop k)) (runsW (w.drop k)) = rowW w := by
  have := all7 (p := fun w => (List.range (w.length + 1)).all fun k => decide (joinL (colW (w.take k)) (runsW (w.take k)) (colW (w.drop k)) (runsW (w.drop k)) = rowW w)) (by decide +kernel) w h
  exact of_decide_eq_true (List.all_eq_true.mp this k (List.mem_range.mpr (by omega)))
theorem join_words {u v : Wd} (h : (u ++ v).length ≤ 7) : joinL (colW u) (runsW u) (colW v) (runsW v) = rowW (u ++ v) := by
  have := join_word (u ++ v) h u.length (by simp)
  simpa using this
theorem rev_word (w : Wd) (h : w.length ≤ 7) (n : runsW w ≠ []) : ((colW w + (runsW w).length - 1).fmod 2, (runsW w).reverse) = rowW w.reverse := by
  have := all7 (p := fun w => decide (runsW w = []) || decide (((colW w + (runsW w).length - 1).fmod 2, (runsW w).reverse) = rowW w.reverse)) (by decide +kernel) w h
  simpa [n] using this
theorem rev_empty (w : Wd) (h : w.length ≤ 7) (n : runsW w = []) : w = [] := by
  have := all7 (p := fun w => !decide (runsW w = []) || decide (w = [])) (by decide +kernel) w h
  simpa [n] using this
def spRowAdd (K : PySem.W.Frag) : Sp := fun vs H Q _ => ∃ (r s : Addr) (u v : Wd), vs = [.ref r, .ref s] ∧ IsRow K H r u ∧ IsRow K H s v ∧ (u ++ v).length ≤ 7 ∧ ∀ t H', Ex H H' → IsRow K H' t (u ++ v) → Q (.ref t) H'
theorem sc_Row_daddd : FnScope ["self", "other", "first", "lengths"] ["self", "other"] (defScope (inClass (top 22) 10)) := ⟨rfl, rfl, rfl, by decide +kernel, rfl, by decide +kernel, by decide +kernel⟩
theorem ok_Row_daddd {P : Program} {w : World} {K : PySem.W.Frag} {mg : Str → Option Value} {base : Heap} (T : Tx P K mg) : Ok P w K mg base 5 (He.ma K (He.ga K "Row") "__add__") (spRowAdd K) := by
  refine ok_mk T.d_Row_daddd sc_Row_daddd (fun vs H Q E h => ?len) (fun _ _ _ _ _ _ us hl => match us, hl with | [_, _], _ => rfl) (fun cdv A outer s H vs Q E hr h => ⟨_, (pss_cons (ps_asg (pe_fn (ok_joined T) hr T.g_joined (pa_cons (pe_tup (pa_cons (pe_fld (pv 0) rfl) (pa_cons (pe_fld (pv 0) rfl) pa_nil))) (pa_cons (pe_tup (pa_cons (pe_fld (pv 1) rfl) (pa_cons (pe_fld (pv 1) rfl) pa_nil))) pa_nil))) (pg_tup rfl (pgs_cons (pg_name (i := 2) sc_Row_daddd.nd rfl (Or.inl rfl)) (pgs_cons (pg_name (i := 3) sc_Row_daddd.nd rfl (Or.inl rfl)) pgs_nil)))) (pss_one (ps_ret (pe_new T.k_Row (ok_Row_dinitd T) hr T.gc_Row (pa_cons (pv 2) (pa_cons (pv 3) pa_nil)))))), ?body⟩)
  case len => obtain ⟨r, s, u, v, rfl, _⟩ := h; rfl
  case body =>
    obtain ⟨r, s, u, v, rfl, ⟨zu, dx, p, h1, h2⟩, ⟨zv, dy, p2, h3, h4⟩, zw, q⟩ := h
    walk_at "st"
    refine w_newA (by show (2 : Nat) ≤ sizeLine; decide) fun p3 H3 e3 n3 h5 => ?_
    walk_at "go"
    refine w_newA (by show (2 : Nat) ≤ sizeLine; decide) fun p4 H4 e4 n4 h6 => ?_
    walk_at "go"
    have ru := rv_word u zu
    have rv := rv_word v zv
    have l1 := ru.len
    have l2 := rv.len
    refine ⟨p3, p4, p, p2, _, _, _, _, rfl, by walk_at "lk", by walk_at "lk", by walk_at "lk", by walk_at "lk", by omega, by omega, fun r1 u1 H5 e5 h7 h8 => ?_⟩
    rw [join_words zw] at h7 h8
    walk_at "go"
    refine w_mkRow h8 (rv_word _ zw) fun t H6 e6 hr => ?_
    walk_at "go"
    exact q t H6 (((e3.trans e4).trans e5).trans e6) ⟨zw, hr⟩
def spRowInv (K : PySem.W.Frag) : Sp := fun vs H Q _ => ∃ (r : Addr) (u : Wd), vs = [.ref r] ∧ IsRow K H r u ∧ ∀ t H', Ex H H' → IsRow K H' t u.reverse → Q (.ref t) H'
theorem sc_Row_dinvertd : FnScope ["self"] ["self"] (defScope (inClass (top 22) 12)) := ⟨rfl, rfl, rfl, by decide +kernel, rfl, by decide +kernel, by decide +kernel⟩
theorem ok_Row_dinvertd {P : Program} {w : World} {K : PySem.W.Frag} {mg : Str → Option Value} {base : Heap} (T : Tx P K mg) : Ok P w K mg base 5 (He.ma K (He.ga K "Row") "__invert__") (spRowInv K) := by
  refine ok_mk T.d_Row_dinvertd sc_Row_dinvertd (fun vs H Q E h => ?len) (fun _ _ _ _ _ _ us hl => match us, hl with | [_], _ => rfl) (fun cdv A outer s H vs Q E hr h => ⟨_, (pss_cons (ps_if (pt_cmpR (op_eqD hr.units) (pe_fld (pv 0) rfl) (pe_lst pa_nil) (nomark _)) (pss_one (ps_ret (pe_new T.k_Row (ok_Row_dinitd T) hr T.gc_Row (pa_cons pe_int (pa_cons (pe_lst pa_nil) pa_nil))))) pss_nil) (pss_one (ps_ret (pe_new T.k_Row (ok_Row_dinitd T) hr T.gc_Row (pa_cons (pe_op op_modN (pe_op op_sub (pe_op op_add (pe_fld (pv 0) rfl) (pe_callB cq_lenQ (by rfl) T.z_len (by decide +kernel) (pa_cons (pe_fld (pv 0) rfl) pa_nil))) pe_int) pe_int) (pa_cons (pe_revL (pe_fld (pv 0) rfl)) pa_nil)))))), ?body⟩)
  case len => obtain ⟨r, u, rfl, _⟩ := h; rfl
  case body =>
    obtain ⟨r, u, rfl, ⟨zu, dx, p, h1, h2⟩, q⟩ := h
    walk_at "st"
    refine w_newA (by show (0 : Nat) ≤ sizeLine; decide) fun p3 H3 e3 n3 h5 => ?_
    refine w_eqNilI (l := runsW u) (by walk_at "lk") (sl_of h5) ?_
    walk_at "go"
    refine w_ite (fun e => ?_) (fun e => ?_)
    · have hu := rev_empty u zu (of_decide_eq_true e)
      subst hu
      walk_at "go"
      refine w_newA (by show (0 : Nat) ≤ sizeLine; decide) fun p4 H4 e4 n4 h6 => ?_
      walk_at "go"
      refine w_mkRow (l := []) h6 (rv_word [] (by decide)) fun t H6 e6 hr => ?_
      walk_at "go"
      exact q t H6 ((e3.trans e4).trans e6) ⟨by decide, hr⟩
    · have hn := of_decide_eq_false e
      have ew := rev_word u zu hn
      walk_at "go"
      rw [List.length_map]
      refine w_new fun p4 H4 e4 n4 h6 => ?_
      rw [← List.map_reverse] at h6
      walk_at "go"
      have zr : u.reverse.length ≤ 7 := by rw [List.length_reverse]; exact zu
      have ew1 : (colW u + (runsW u).length - 1).fmod 2 = colW u.reverse := congrArg Prod.fst ew
      have ew2 : (runsW u).reverse = runsW u.reverse := congrArg Prod.snd ew
      rw [ew1]
      rw [ew2] at h6
      refine w_mkRow h6 (rv_word _ zr) fun t H6 e6 hr => ?_
      walk_at "go"
      exact q t H6 ((e3.trans e4).trans e6) ⟨zr, hr⟩
end Tcf

set_option Elab.async false
set_option linter.all false
set_option maxRecDepth 100000
set_option maxHeartbeats 4000000
/-! DE: parts of rows, borders, rows and texts (printed from DE.tmpl by gen_der.py). -/
namespace Tcf
open PySem PySem.Spec PyProof.Rows L2
open Evl (Ex)
set_option hygiene false in
local macro_rules | `(tactic| walk_at "lkT") => `(tactic| first | (with_reducible exact T.l_GAMES _) | (with_reducible exact T.l_GOALS _))
set_option hygiene false in
local macro_rules | `(tactic| walk_at "isx") => `(tactic| first | (with_reducible exact T.is_Row (by walk_at "lk")) | (with_reducible exact T.is_Flip (by walk_at "lk")) | (with_reducible exact T.is_Table (by walk_at "lk")))
local macro_rules | `(tactic| walk_at "lk") => `(tactic| first
  | assumption
  | walk_at "lkT"
  | ((with_reducible refine' ex_at (by assumption) ?wk); (case wk => walk_at "lk"))
  | ((with_reducible refine' sl_of ?wk); (case wk => walk_at "lk"))
  | ((with_reducible refine' st_of ?wk); (case wk => walk_at "lk"))
  | ((with_reducible refine' ex_l (by assumption) ?wk); (case wk => walk_at "lk"))
  | ((with_reducible refine' ex_t (by assumption) ?wk); (case wk => walk_at "lk"))
  | ((with_reducible refine' mu_at (by assumption) ?wk ?wn); (case wk => walk_at "lk"); (case wn => assumption)))
set_option hygiene false in
local macro_rules | `(tactic| walk_at "sd") => `(tactic| first
  | exact rfl | assumption | (with_reducible exact T.c_Row) | (with_reducible exact T.c_Flip) | (with_reducible exact T.c_Table) | (with_reducible exact T.c_Trial)
  | (with_reducible exact T.n_Row_colour) | (with_reducible exact T.n_Row_sizes) | (with_reducible exact T.n_Flip_begin) | (with_reducible exact T.n_Flip_finish) | (with_reducible exact T.n_Trial_home) | (with_reducible exact T.n_Trial_kept)
  | (with_reducible exact T.n_Table_beginning) | (with_reducible exact T.n_Table_words) | (with_reducible exact T.n_Table_state))
local macro_rules | `(tactic| walk_at "w") => `(tactic| first
  | (with_reducible refine w_seq ?_) | (with_reducible refine w_asg ?_) | (with_reducible refine w_gName ?_) | (with_reducible refine w_ret ?_) | (with_reducible refine w_ifS ?_) | (with_reducible refine w_drop ?_) | (with_reducible refine w_next ?_)
  | ((with_reducible refine' w_aug ?wh ?_); (case wh => exact rfl)) | (with_reducible refine w_match ?_) | (with_reducible refine w_case ?_)
  | ((with_reducible refine' w_var ?wh ?_); (case wh => exact rfl))
  | (with_reducible refine w_c ?_) | (with_reducible refine w_op ?_) | (with_reducible refine w_un ?_) | (with_reducible refine w_nil ?_) | (with_reducible refine w_cons ?_) | (with_reducible refine w_star ?_) | (with_reducible refine w_tup ?_) | (with_reducible refine w_lst ?_)
  | (with_reducible refine w_if ?_) | (with_reducible refine w_and ?_) | (with_reducible refine w_or ?_) | (with_reducible refine w_not ?_) | (with_reducible refine w_bq ?_) | (with_reducible refine w_B ?_) | (with_reducible refine w_test ?_) | (with_reducible refine w_andV ?_) | (with_reducible refine w_orV ?_) | (with_reducible refine w_notV ?_)
  | (with_reducible refine w_chain ?_) | (with_reducible refine w_rI0 ?_) | (with_reducible refine w_rU ?_) | (with_reducible refine w_ipI ?_)
  | (with_reducible refine w_eqI ?_) | (with_reducible refine w_neI ?_) | (with_reducible refine w_eqS ?_) | (with_reducible refine w_neS ?_) | (with_reducible refine w_eqB ?_) | (with_reducible refine w_neB ?_) | (with_reducible refine w_isNr ?_) | (with_reducible refine w_isNn ?_)
  | (with_reducible refine w_sl ?_) | (with_reducible refine w_noPart ?_) | (with_reducible refine w_part ?_) | (with_reducible refine w_pq ?_) | (with_reducible refine w_revL ?_) | (with_reducible refine w_revS ?_)
  | (with_reducible refine w_cb ?_) | (with_reducible refine w_min2 ?_) | (with_reducible refine w_max2 ?_) | (with_reducible refine w_intB ?_)
  | (with_reducible refine w_fn ?_) | (with_reducible refine w_me ?_) | (with_reducible refine w_pr ?_) | (with_reducible refine w_mk ?_) | (with_reducible refine w_fld ?_)
  | (with_reducible refine w_isi_ii ?_) | (with_reducible refine w_isi_ib ?_) | (with_reducible refine w_isi_ss ?_)
  | ((with_reducible refine' w_isi_ll ?wh ?_); (case wh => walk_at "lk"))
  | ((with_reducible refine' w_isi_own ?wh ?wq); (case wh => walk_at "isx"))
  | ((with_reducible refine' w_lenL ?wh ?_); (case wh => walk_at "lk")) | ((with_reducible refine' w_ixL ?wh ?wi ?_); (case wh => walk_at "lk"); (case wi => first | assumption | exact rfl)) | ((with_reducible refine' w_ixT ?wh ?wi ?_); (case wh => walk_at "lk"); (case wi => first | assumption | exact rfl))
  | ((with_reducible refine' w_slL ?wh ?_); (case wh => walk_at "lk")) | ((with_reducible refine' w_rvq ?wh ?_); (case wh => walk_at "lk")) | ((with_reducible refine' w_listO ?wh ?_); (case wh => walk_at "lk")) | ((with_reducible refine' w_starL ?wh ?_); (case wh => walk_at "lk"))
  | ((with_reducible refine' w_fq ?wh ?wc ?wn ?wl ?_); (case wh => walk_at "lk"); (case wc => walk_at "sd"); (case wn => walk_at "sd"); (case wl => exact rfl))
  | ((with_reducible refine' w_sum ?wh ?_); (case wh => walk_at "lk"))
  | ((with_reducible refine' w_all ?wh ?_); (case wh => walk_at "lk"))
  | (with_reducible refine w_forL ?_) | ((with_reducible refine' w_forLq ?wh ?_); (case wh => walk_at "lk")) | (with_reducible refine w_forS ?_) | (with_reducible refine w_forSq ?_) | (with_reducible refine w_forR1 ?_) | ((with_reducible refine' w_forR1q ?wh ?_); (case wh => omega)) | (with_reducible refine w_forR2 ?_) | ((with_reducible refine' w_forR2q ?wh ?_); (case wh => omega)) | (with_reducible refine w_forE ?_) | ((with_reducible refine' w_forEq ?wh ?_); (case wh => walk_at "lk"))
  | (with_reducible refine w_lcL ?_) | ((with_reducible refine' w_lcLq ?wh ?_); (case wh => walk_at "lk")) | (with_reducible refine w_lcS ?_) | (with_reducible refine w_lcSq ?_) | (with_reducible refine w_lcR2 ?_) | ((with_reducible refine' w_lcR2q ?wh ?_); (case wh => omega))
  | (with_reducible refine w_bm ?_) | ((with_reducible refine' w_bmq ?wh ?_); (case wh => walk_at "lk")) | (with_reducible refine w_bm0 ?_) | ((with_reducible refine' w_bm0q ?wh ?_); (case wh => walk_at "lk"))
  | ((with_reducible refine' w_getL ?wh ?wi ?_); (case wh => walk_at "lk"); (case wi => first | assumption | exact rfl)) | (with_reducible refine w_gSub ?_) | (with_reducible refine w_augS ?_)
  | ((with_reducible refine' w_gTup ?wh ?wl ?_); (case wh => walk_at "lk"); (case wl => exact rfl)) | (with_reducible refine w_gCons ?_) | (with_reducible refine w_gNil ?_)
  | (with_reducible refine w_parT ?_) | (with_reducible refine w_parq ?_) | (with_reducible refine w_par3T ?_) | (with_reducible refine w_par3q ?_) | (with_reducible refine w_sfld ?_) | (with_reducible refine w_ob ?_) | (with_reducible refine w_obq ?_)
  | ((with_reducible refine' w_sfq ?wh ?wc ?wn ?wl ?wq); (case wh => walk_at "lk"); (case wc => walk_at "sd"); (case wn => walk_at "sd"); (case wl => exact Nat.le_of_ble_eq_true rfl))
  | ((with_reducible refine' w_rI ?wh ?wq); (case wh => first | decide | exact ⟨by decide, by decide⟩)) | (with_reducible refine w_pairsC ?_) | (with_reducible refine w_pairsN ?_) | ((with_reducible refine' w_cat ?wh ?wk ?wl ?wq); (case wh => walk_at "lk"); (case wk => walk_at "lk"); (case wl => walk_at "sz"))
  | ((with_reducible refine' w_mqRow ?wh ?wl ?wk ?wq); (case wh => walk_at "rw"); (case wl => exact rfl); (case wk => exact rfl))
  | ((with_reducible refine' w_mq ?wh ?wl ?wq); (case wh => walk_at "lk"); (case wl => exact rfl))
  | ((with_reducible refine' w_wipe ?wh ?wq); (case wh => exact rfl)) | (with_reducible refine w_yesT ?_)
  | (with_reducible refine w_isNumber ?_) | (with_reducible refine w_isCount ?_) | (with_reducible refine w_isColour ?_) | (with_reducible refine w_checkGame ?_) | (with_reducible refine w_checkGoal ?_) | (with_reducible refine w_checkWords ?_)
  | (with_reducible refine iteT ?_) | (with_reducible refine iteF ?_) | ((with_reducible refine' w_yes ?wh ?_); (case wh => exact rfl)) | ((with_reducible refine' w_no ?wh ?_); (case wh => exact rfl)))
local macro_rules | `(tactic| walk_at "sz") => `(tactic| first | (refine sz_le ?_; first | assumption | (simp only [List.length_map, List.length_append, List.length_cons, List.length_nil]; omega) | omega) | (refine sz_lt ?_; first | assumption | (simp only [List.length_map, List.length_append, List.length_cons, List.length_nil]; omega) | omega))
local macro_rules | `(tactic| walk_at "go") => `(tactic| repeat (walk_at "w"))
local macro_rules | `(tactic| walk_at "bt") => `(tactic| first | exact rfl | assumption | (simp [*]; done) | (simp; omega) | (simp [*]; omega))
local macro_rules | `(tactic| walk_at "yes") => `(tactic| ((with_reducible refine' w_yes ?wh ?wq); (case wh => walk_at "bt"); walk_at "go"))
local macro_rules | `(tactic| walk_at "no") => `(tactic| ((with_reducible refine' w_no ?wh ?wq); (case wh => walk_at "bt"); walk_at "go"))
local macro_rules | `(tactic| walk_at "st") => `(tactic| ((try dsimp only [L2.cxOf, L2.Cx.nox, L2.Cx.wish]); walk_at "go"))
local macro_rules | `(tactic| walk_at "rw") => `(tactic| first | assumption | ((with_reducible refine' IsRow.rw ?wk); (case wk => walk_at "rw")) | ((with_reducible refine' IsRw.ex (by assumption) ?wk); (case wk => walk_at "rw")) | ((with_reducible refine' IsRow.ex (by assumption) ?wk); (case wk => walk_at "rw")))
local macro_rules | `(tactic| walk_at "ro") => `(tactic| first | assumption | ((with_reducible refine' IsRow.ex (by assumption) ?wk); (case wk => walk_at "ro")))
local macro_rules | `(tactic| walk_at "fl") => `(tactic| first | assumption | ((with_reducible refine' IsFlip.ex (by assumption) ?wk); (case wk => walk_at "fl")))
local macro_rules | `(tactic| walk_at "w") => `(tactic| first
  | ((with_reducible refine' w_first ?wh ?wq); (case wh => walk_at "rw")) | ((with_reducible refine' w_runs ?wh ?wq); (case wh => walk_at "rw")) | ((with_reducible refine' w_length ?wh ?wq); (case wh => walk_at "rw")) | ((with_reducible refine' w_lengths ?wh ?wq); (case wh => walk_at "rw")))
structure PSt where
  L : List Int
  f : Int
  b : Int
  c : Int
def partF (s e : Int) (st : PSt) (size : Int) : PSt :=
  let m := (if st.b + size < e then st.b + size else e) - (if st.b > s then st.b else s)
  if 0 < m then ⟨st.L ++ [m], if st.L = [] then st.c else st.f, st.b + size, 1 - st.c⟩ else ⟨st.L, st.f, st.b + size, 1 - st.c⟩
def cutW (w : Wd) (s e : Nat) : Wd := (w.drop s).take (e - s)
theorem cutW_len (w : Wd) (s e : Nat) (h : w.length ≤ 7) : (cutW w s e).length ≤ 7 := by
  unfold cutW
  rw [List.length_take, List.length_drop]
  omega
theorem part_word (w : Wd) (h : w.length ≤ 7) (s e : Nat) (h1 : s ≤ e) (h2 : e ≤ w.length) : (let st := (runsW w).foldl (partF s e) ⟨[], 0, 0, colW w⟩; (st.f, st.L)) = rowW (cutW w s e) := by
  have := all7 (p := fun w => (List.range (w.length + 1)).all fun e => (List.range (e + 1)).all fun s => decide ((let st := (runsW w).foldl (partF s e) ⟨[], 0, 0, colW w⟩; (st.f, st.L)) = rowW (cutW w s e))) (by decide +kernel) w h
  exact of_decide_eq_true (List.all_eq_true.mp (List.all_eq_true.mp this e (List.mem_range.mpr (by omega))) s (List.mem_range.mpr (by omega)))
def spPart (K : PySem.W.Frag) : Sp := fun vs H Q _ => ∃ (r : Addr) (u : Wd) (s e : Nat), vs = [.ref r, .int s, .int e] ∧ IsRow K H r u ∧ s ≤ e ∧ e ≤ u.length ∧ ∀ t H', Ex H H' → IsRow K H' t (cutW u s e) → Q (.ref t) H'
theorem sc_Row_part : FnScope ["self", "start", "end", "lengths", "first", "begin", "colour", "size", "common"] ["self", "start", "end"] (defScope (inClass (top 22) 14)) := ⟨rfl, rfl, rfl, by decide +kernel, rfl, by decide +kernel, by decide +kernel⟩
theorem ok_Row_part {P : Program} {w : World} {K : PySem.W.Frag} {mg : Str → Option Value} {base : Heap} (T : Tx P K mg) : Ok P w K mg base 5 (He.ma K (He.ga K "Row") "part") (spPart K) := by
  refine ok_mk T.d_Row_part sc_Row_part (fun vs H Q E h => ?len) (fun _ _ _ _ _ _ us hl => match us, hl with | [_, _, _], _ => rfl) (fun cdv A outer s H vs Q E hr h => ⟨_, (pss_cons (ps_if (PW.pt (pw_or (pt_not (pt_val (pe_fn (ok_is_number T) hr T.g_is_number (pa_cons (pv 1) (pa_cons pe_int (pa_cons (pe_pr T.c_Row T.p_Row_length (ok_Row_length T) hr (pv 0)) pa_nil)))))) (pw_or1 (pt_not (pt_val (pe_fn (ok_is_number T) hr T.g_is_number (pa_cons (pv 2) (pa_cons (pv 1) (pa_cons (pe_pr T.c_Row T.p_Row_length (ok_Row_length T) hr (pv 0)) pa_nil))))))))) (pss_one ps_never) pss_nil) (pss_cons (ps_asg (pe_tup (pa_cons (pe_lst pa_nil) (pa_cons pe_int (pa_cons pe_int (pa_cons (pe_fld (pv 0) rfl) pa_nil))))) (pg_tup rfl (pgs_cons (pg_name (i := 3) sc_Row_part.nd rfl (Or.inl rfl)) (pgs_cons (pg_name (i := 4) sc_Row_part.nd rfl (Or.inl rfl)) (pgs_cons (pg_name (i := 5) sc_Row_part.nd rfl (Or.inl rfl)) (pgs_cons (pg_name (i := 6) sc_Row_part.nd rfl (Or.inl rfl)) pgs_nil)))))) (pss_cons (ps_for PassesOwn.never rfl (pi_list (pe_fld (pv 0) rfl)) (pg_name (i := 7) sc_Row_part.nd rfl (Or.inl rfl)) (pss_cons (ps_set (i := 8) sc_Row_part.nd rfl (.inl rfl) (pe_op op_sub (pe_callB (cq_min2 rfl) (by rfl) T.z_min (by decide +kernel) (pa_cons (pv 2) (pa_cons (pe_op op_add (pv 5) (pv 7)) pa_nil))) (pe_callB (cq_max2 rfl) (by rfl) T.z_max (by decide +kernel) (pa_cons (pv 1) (pa_cons (pv 5) pa_nil))))) (pss_cons (ps_if (pt_cmpR op_gt (pv 8) pe_int (nomark _)) (pss_cons (ps_set (i := 4) sc_Row_part.nd rfl (.inl rfl) (pe_ifExp (pt_cmpR (op_eqD hr.units) (pv 3) (pe_lst pa_nil) (nomark _)) (pv 6) (pv 4))) (pss_one (ps_expr (pe_bm PySem.F.plainAttrs_list PySem.F.slot_list_append PySem.F.type_list_append mt_append (pv 3) (pa_cons (pv 8) pa_nil))))) pss_nil) (pss_cons (ps_aug (i := 5) sc_Row_part.nd rfl (.inl rfl) (pv 7) ip_add) (pss_one (ps_set (i := 6) sc_Row_part.nd rfl (.inl rfl) (pe_op op_sub pe_int (pv 6)))))))) (pss_one (ps_ret (pe_new T.k_Row (ok_Row_dinitd T) hr T.gc_Row (pa_cons (pv 4) (pa_cons (pv 3) pa_nil)))))))), ?body⟩)
  case len => obtain ⟨r, u, s, e, rfl, _⟩ := h; rfl
  case body =>
    obtain ⟨r, u, st, en, rfl, ⟨zu, dx, p, h1, h2⟩, hse, heu, q⟩ := h
    have hr0 : IsRw K H r (colW u) (runsW u) := ⟨dx, p, h1, h2⟩
    have hsum := sum_word u zu
    walk_at "st"
    rw [hsum]
    walk_at "no"
    rw [hsum]
    walk_at "no"
    refine w_newA (by show (0 : Nat) ≤ sizeLine; decide) fun L H3 e3 n3 h5 => ?_
    walk_at "go"
    refine w_newA (by show (4 : Nat) ≤ sizeLine; decide) fun p4 H4 e4 n4 h6 => ?_
    walk_at "go"
    refine w_forW (walk_list (xs := (runsW u).map V.int)) (fun i σ' H' => ∃ x1 x2, σ' = [some (.ref r), some (.int st), some (.int en), some (.ref L), some (.int (((runsW u).take i).foldl (partF st en) ⟨[], 0, 0, colW u⟩).f), some (.int (((runsW u).take i).foldl (partF st en) ⟨[], 0, 0, colW u⟩).b),
      some (.int (((runsW u).take i).foldl (partF st en) ⟨[], 0, 0, colW u⟩).c), x1, x2] ∧ Ex H H' ∧ H' L = some (.lst ((((runsW u).take i).foldl (partF st en) ⟨[], 0, 0, colW u⟩).L.map V.int)) ∧ (((runsW u).take i).foldl (partF st en) ⟨[], 0, 0, colW u⟩).L.length ≤ i) ?i0 ?iG ?is ?id
    case i0 => exact ⟨none, none, rfl, e3.trans e4, e4 _ _ h5, Nat.le_refl _⟩
    case iG =>
      rintro i σ' H' _ ⟨x1, x2, _, e5, _⟩
      exact sl_of (e5 _ _ h2)
    case is =>
      rintro i x σ' H' H'' hi ⟨x1, x2, rfl, e5, h7, z7⟩ ⟨rfl, hx⟩
      obtain ⟨m, hm, rfl⟩ := map_at hx
      have ef := take_fold (f := partF st en) (b := ⟨[], 0, 0, colW u⟩) hm
      generalize ((runsW u).take i).foldl (partF st en) ⟨[], 0, 0, colW u⟩ = S0 at *
      rw [ef]
      have hl := (rv_word u zu).len
      rw [List.length_map] at hi
      walk_at "go"
      refine w_ite (fun e => ?_) (fun e => ?_)
      · have hpos := of_decide_eq_true e
        have e6 : partF st en S0 m = ⟨S0.L ++ [(if S0.b + m < en then S0.b + m else en) - (if S0.b > st then S0.b else st)], if S0.L = [] then S0.c else S0.f, S0.b + m, 1 - S0.c⟩ := by
          unfold partF
          exact if_pos hpos
        rw [e6]
        walk_at "go"
        refine w_newA (by show (0 : Nat) ≤ sizeLine; decide) fun p5 H5 e7 n5 h8 => ?_
        refine w_eqNilI (l := S0.L) (sl_of (e7 _ _ h7)) (sl_of h8) ?_
        walk_at "go"
        refine w_ite (fun e => ?_) (fun e => ?_)
        · walk_at "go"
          refine w_apq (e7 _ _ h7) (by rw [List.length_map]; omega) fun H6 m6 h9 => ?_
          walk_at "go"
          refine ⟨?x1, ?x2, ?ca, m6 H (e5.trans e7) n3, ?cb, ?cc⟩
          case ca => rw [if_pos (of_decide_eq_true e)]; rfl
          case cb => rw [h9, List.map_append]; rfl
          case cc => show (S0.L ++ [_]).length ≤ i + 1; rw [List.length_append, List.length_singleton]; omega
        · walk_at "go"
          refine w_apq (e7 _ _ h7) (by rw [List.length_map]; omega) fun H6 m6 h9 => ?_
          walk_at "go"
          refine ⟨?x1, ?x2, ?ca, m6 H (e5.trans e7) n3, ?cb, ?cc⟩
          case ca => rw [if_neg (of_decide_eq_false e)]; rfl
          case cb => rw [h9, List.map_append]; rfl
          case cc => show (S0.L ++ [_]).length ≤ i + 1; rw [List.length_append, List.length_singleton]; omega
      · have hpos := of_decide_eq_false e
        have e6 : partF st en S0 m = ⟨S0.L, S0.f, S0.b + m, 1 - S0.c⟩ := by
          unfold partF
          exact if_neg hpos
        rw [e6]
        walk_at "go"
        exact ⟨_, _, rfl, e5, h7, Nat.le_succ_of_le z7⟩
    case id =>
      rintro σ' H' ⟨x1, x2, rfl, e5, h7, z7⟩
      rw [List.length_map, List.take_length] at *
      have hp := part_word u zu st en hse heu
      generalize (runsW u).foldl (partF st en) ⟨[], 0, 0, colW u⟩ = S0 at *
      have hf : S0.f = colW (cutW u st en) := congrArg Prod.fst hp
      have hL : S0.L = runsW (cutW u st en) := congrArg Prod.snd hp
      rw [hf]
      rw [hL] at h7
      have zc := cutW_len u st en zu
      walk_at "go"
      refine w_mkRow h7 (rv_word _ zc) fun t H6 e6 hr => ?_
      walk_at "go"
      exact q t H6 (e5.trans e6) ⟨zc, hr⟩
end Tcf

set_option Elab.async false
set_option linter.all false
set_option maxRecDepth 100000
set_option maxHeartbeats 4000000
/-! DF: borders, rows and texts (printed from DF.tmpl by gen_der.py). -/
namespace Tcf
open PySem PySem.Spec PyProof.Rows L2
open Evl (Ex)
set_option hygiene false in
local macro_rules | `(tactic| walk_at "lkT") => `(tactic| first | (with_reducible exact T.l_GAMES _) | (with_reducible exact T.l_GOALS _))
set_option hygiene false in
local macro_rules | `(tactic| walk_at "isx") => `(tactic| first | (with_reducible exact T.is_Row (by walk_at "lk")) | (with_reducible exact T.is_Flip (by walk_at "lk")) | (with_reducible exact T.is_Table (by walk_at "lk")))
local macro_rules | `(tactic| walk_at "lk") => `(tactic| first
  | assumption
  | walk_at "lkT"
  | ((with_reducible refine' ex_at (by assumption) ?wk); (case wk => walk_at "lk"))
  | ((with_reducible refine' sl_of ?wk); (case wk => walk_at "lk"))
  | ((with_reducible refine' st_of ?wk); (case wk => walk_at "lk"))
  | ((with_reducible refine' ex_l (by assumption) ?wk); (case wk => walk_at "lk"))
  | ((with_reducible refine' ex_t (by assumption) ?wk); (case wk => walk_at "lk"))
  | ((with_reducible refine' mu_at (by assumption) ?wk ?wn); (case wk => walk_at "lk"); (case wn => assumption)))
set_option hygiene false in
local macro_rules | `(tactic| walk_at "sd") => `(tactic| first
  | exact rfl | assumption | (with_reducible exact T.c_Row) | (with_reducible exact T.c_Flip) | (with_reducible exact T.c_Table) | (with_reducible exact T.c_Trial)
  | (with_reducible exact T.n_Row_colour) | (with_reducible exact T.n_Row_sizes) | (with_reducible exact T.n_Flip_begin) | (with_reducible exact T.n_Flip_finish) | (with_reducible exact T.n_Trial_home) | (with_reducible exact T.n_Trial_kept)
  | (with_reducible exact T.n_Table_beginning) | (with_reducible exact T.n_Table_words) | (with_reducible exact T.n_Table_state))
local macro_rules | `(tactic| walk_at "w") => `(tactic| first
  | (with_reducible refine w_seq ?_) | (with_reducible refine w_asg ?_) | (with_reducible refine w_gName ?_) | (with_reducible refine w_ret ?_) | (with_reducible refine w_ifS ?_) | (with_reducible refine w_drop ?_) | (with_reducible refine w_next ?_)
  | ((with_reducible refine' w_aug ?wh ?_); (case wh => exact rfl)) | (with_reducible refine w_match ?_) | (with_reducible refine w_case ?_)
  | ((with_reducible refine' w_var ?wh ?_); (case wh => exact rfl))
  | (with_reducible refine w_c ?_) | (with_reducible refine w_op ?_) | (with_reducible refine w_un ?_) | (with_reducible refine w_nil ?_) | (with_reducible refine w_cons ?_) | (with_reducible refine w_star ?_) | (with_reducible refine w_tup ?_) | (with_reducible refine w_lst ?_)
  | (with_reducible refine w_if ?_) | (with_reducible refine w_and ?_) | (with_reducible refine w_or ?_) | (with_reducible refine w_not ?_) | (with_reducible refine w_bq ?_) | (with_reducible refine w_B ?_) | (with_reducible refine w_test ?_) | (with_reducible refine w_andV ?_) | (with_reducible refine w_orV ?_) | (with_reducible refine w_notV ?_)
  | (with_reducible refine w_chain ?_) | (with_reducible refine w_rI0 ?_) | (with_reducible refine w_rU ?_) | (with_reducible refine w_ipI ?_)
  | (with_reducible refine w_eqI ?_) | (with_reducible refine w_neI ?_) | (with_reducible refine w_eqS ?_) | (with_reducible refine w_neS ?_) | (with_reducible refine w_eqB ?_) | (with_reducible refine w_neB ?_) | (with_reducible refine w_isNr ?_) | (with_reducible refine w_isNn ?_)
  | (with_reducible refine w_sl ?_) | (with_reducible refine w_noPart ?_) | (with_reducible refine w_part ?_) | (with_reducible refine w_pq ?_) | (with_reducible refine w_revL ?_) | (with_reducible refine w_revS ?_)
  | (with_reducible refine w_cb ?_) | (with_reducible refine w_min2 ?_) | (with_reducible refine w_max2 ?_) | (with_reducible refine w_intB ?_)
  | (with_reducible refine w_fn ?_) | (with_reducible refine w_me ?_) | (with_reducible refine w_pr ?_) | (with_reducible refine w_mk ?_) | (with_reducible refine w_fld ?_)
  | (with_reducible refine w_isi_ii ?_) | (with_reducible refine w_isi_ib ?_) | (with_reducible refine w_isi_ss ?_)
  | ((with_reducible refine' w_isi_ll ?wh ?_); (case wh => walk_at "lk"))
  | ((with_reducible refine' w_isi_own ?wh ?wq); (case wh => walk_at "isx"))
  | ((with_reducible refine' w_lenL ?wh ?_); (case wh => walk_at "lk")) | ((with_reducible refine' w_ixL ?wh ?wi ?_); (case wh => walk_at "lk"); (case wi => first | assumption | exact rfl)) | ((with_reducible refine' w_ixT ?wh ?wi ?_); (case wh => walk_at "lk"); (case wi => first | assumption | exact rfl))
  | ((with_reducible refine' w_slL ?wh ?_); (case wh => walk_at "lk")) | ((with_reducible refine' w_rvq ?wh ?_); (case wh => walk_at "lk")) | ((with_reducible refine' w_listO ?wh ?_); (case wh => walk_at "lk")) | ((with_reducible refine' w_starL ?wh ?_); (case wh => walk_at "lk"))
  | ((with_reducible refine' w_fq ?wh ?wc ?wn ?wl ?_); (case wh => walk_at "lk"); (case wc => walk_at "sd"); (case wn => walk_at "sd"); (case wl => exact rfl))
  | ((with_reducible refine' w_sum ?wh ?_); (case wh => walk_at "lk"))
  | ((with_reducible refine' w_all ?wh ?_); (case wh => walk_at "lk"))
  | (with_reducible refine w_forL ?_) | ((with_reducible refine' w_forLq ?wh ?_); (case wh => walk_at "lk")) | (with_reducible refine w_forS ?_) | (with_reducible refine w_forSq ?_) | (with_reducible refine w_forR1 ?_) | ((with_reducible refine' w_forR1q ?wh ?_); (case wh => omega)) | (with_reducible refine w_forR2 ?_) | ((with_reducible refine' w_forR2q ?wh ?_); (case wh => omega)) | (with_reducible refine w_forE ?_) | ((with_reducible refine' w_forEq ?wh ?_); (case wh => walk_at "lk"))
  | (with_reducible refine w_lcL ?_) | ((with_reducible refine' w_lcLq ?wh ?_); (case wh => walk_at "lk")) | (with_reducible refine w_lcS ?_) | (with_reducible refine w_lcSq ?_) | (with_reducible refine w_lcR2 ?_) | ((with_reducible refine' w_lcR2q ?wh ?_); (case wh => omega))
  | (with_reducible refine w_bm ?_) | ((with_reducible refine' w_bmq ?wh ?_); (case wh => walk_at "lk")) | (with_reducible refine w_bm0 ?_) | ((with_reducible refine' w_bm0q ?wh ?_); (case wh => walk_at "lk"))
  | ((with_reducible refine' w_getL ?wh ?wi ?_); (case wh => walk_at "lk"); (case wi => first | assumption | exact rfl)) | (with_reducible refine w_gSub ?_) | (with_reducible refine w_augS ?_)
  | ((with_reducible refine' w_gTup ?wh ?wl ?_); (case wh => walk_at "lk"); (case wl => exact rfl)) | (with_reducible refine w_gCons ?_) | (with_reducible refine w_gNil ?_)
  | (with_reducible refine w_parT ?_) | (with_reducible refine w_parq ?_) | (with_reducible refine w_par3T ?_) | (with_reducible refine w_par3q ?_) | (with_reducible refine w_sfld ?_) | (with_reducible refine w_ob ?_) | (with_reducible refine w_obq ?_)
  | ((with_reducible refine' w_sfq ?wh ?wc ?wn ?wl ?wq); (case wh => walk_at "lk"); (case wc => walk_at "sd"); (case wn => walk_at "sd"); (case wl => exact Nat.le_of_ble_eq_true rfl))
  | ((with_reducible refine' w_rI ?wh ?wq); (case wh => first | decide | exact ⟨by decide, by decide⟩)) | (with_reducible refine w_pairsC ?_) | (with_reducible refine w_pairsN ?_) | ((with_reducible refine' w_cat ?wh ?wk ?wl ?wq); (case wh => walk_at "lk"); (case wk => walk_at "lk"); (case wl => walk_at "sz"))
  | ((with_reducible refine' w_mqRow ?wh ?wl ?wk ?wq); (case wh => walk_at "rw"); (case wl => exact rfl); (case wk => exact rfl))
  | ((with_reducible refine' w_mq ?wh ?wl ?wq); (case wh => walk_at "lk"); (case wl => exact rfl))
  | ((with_reducible refine' w_wipe ?wh ?wq); (case wh => exact rfl)) | (with_reducible refine w_yesT ?_)
  | (with_reducible refine w_isNumber ?_) | (with_reducible refine w_isCount ?_) | (with_reducible refine w_isColour ?_) | (with_reducible refine w_checkGame ?_) | (with_reducible refine w_checkGoal ?_) | (with_reducible refine w_checkWords ?_)
  | (with_reducible refine iteT ?_) | (with_reducible refine iteF ?_) | ((with_reducible refine' w_yes ?wh ?_); (case wh => exact rfl)) | ((with_reducible refine' w_no ?wh ?_); (case wh => exact rfl)))
local macro_rules | `(tactic| walk_at "sz") => `(tactic| first | (refine sz_le ?_; first | assumption | (simp only [List.length_map, List.length_append, List.length_cons, List.length_nil]; omega) | omega) | (refine sz_lt ?_; first | assumption | (simp only [List.length_map, List.length_append, List.length_cons, List.length_nil]; omega) | omega))
local macro_rules | `(tactic| walk_at "go") => `(tactic| repeat (walk_at "w"))
local macro_rules | `(tactic| walk_at "bt") => `(tactic| first | exact rfl | assumption | (simp [*]; done) | (simp; omega) | (simp [*]; omega))
local macro_rules | `(tactic| walk_at "yes") => `(tactic| ((with_reducible refine' w_yes ?wh ?wq); (case wh => walk_at "bt"); walk_at "go"))
local macro_rules | `(tactic| walk_at "no") => `(tactic| ((with_reducible refine' w_no ?wh ?wq); (case wh => walk_at "bt"); walk_at "go"))
local macro_rules | `(tactic| walk_at "st") => `(tactic| ((try dsimp only [L2.cxOf, L2.Cx.nox, L2.Cx.wish]); walk_at "go"))
local macro_rules | `(tactic| walk_at "rw") => `(tactic| first | assumption | ((with_reducible refine' IsRow.rw ?wk); (case wk => walk_at "rw")) | ((with_reducible refine' IsRw.ex (by assumption) ?wk); (case wk => walk_at "rw")) | ((with_reducible refine' IsRow.ex (by assumption) ?wk); (case wk => walk_at "rw")))
local macro_rules | `(tactic| walk_at "ro") => `(tactic| first | assumption | ((with_reducible refine' IsRow.ex (by assumption) ?wk); (case wk => walk_at "ro")))
local macro_rules | `(tactic| walk_at "fl") => `(tactic| first | assumption | ((with_reducible refine' IsFlip.ex (by assumption) ?wk); (case wk => walk_at "fl")))
local macro_rules | `(tactic| walk_at "w") => `(tactic| first
  | ((with_reducible refine' w_first ?wh ?wq); (case wh => walk_at "rw")) | ((with_reducible refine' w_runs ?wh ?wq); (case wh => walk_at "rw")) | ((with_reducible refine' w_length ?wh ?wq); (case wh => walk_at "rw")) | ((with_reducible refine' w_lengths ?wh ?wq); (case wh => walk_at "rw")))
def bordF (F : List Int) (x : Int) : List Int := F ++ [F.getLastD 0 + x]
def bordersL (l : List Int) : List Int := l.foldl bordF [0]
def spBorders (K : PySem.W.Frag) : Sp := fun vs H Q _ => ∃ (r : Addr) (c : Int) (l : List Int), vs = [.ref r] ∧ IsRw K H r c l ∧ l.length ≤ 1000 ∧ ∀ p H', Ex H H' → H p = none → H' p = some (.lst ((bordersL l).map V.int)) → Q (.ref p) H'
theorem sc_Row_borders : FnScope ["self", "found", "size"] ["self"] (defScope (inClass (top 22) 16)) := ⟨rfl, rfl, rfl, by decide +kernel, rfl, by decide +kernel, by decide +kernel⟩
theorem ok_Row_borders {P : Program} {w : World} {K : PySem.W.Frag} {mg : Str → Option Value} {base : Heap} (T : Tx P K mg) : Ok P w K mg base 1 (He.ma K (He.ga K "Row") "borders") (spBorders K) := by
  refine ok_mk T.d_Row_borders sc_Row_borders (fun vs H Q E h => ?len) (fun _ _ _ _ _ _ us hl => match us, hl with | [_], _ => rfl) (fun cdv A outer s H vs Q E hr h => ⟨_, (pss_cons (ps_set (i := 1) sc_Row_borders.nd rfl (.inl rfl) (pe_lst (pa_cons pe_int pa_nil))) (pss_cons (ps_for PassesOwn.never rfl (pi_list (pe_fld (pv 0) rfl)) (pg_name (i := 2) sc_Row_borders.nd rfl (Or.inl rfl)) (pss_one (ps_expr (pe_bm PySem.F.plainAttrs_list PySem.F.slot_list_append PySem.F.type_list_append mt_append (pv 1) (pa_cons (pe_op op_add (pe_ix ix_list (pv 1) (pe_un un_neg pe_int) (fun _ _ => rfl)) (pv 2)) pa_nil))))) (pss_one (ps_ret (pv 1))))), ?body⟩)
  case len => obtain ⟨r, c, l, rfl, _⟩ := h; rfl
  case body =>
    obtain ⟨r, c, l, rfl, ⟨dx, p, h1, h2⟩, zl, q⟩ := h
    walk_at "st"
    refine w_newA (by show (1 : Nat) ≤ sizeLine; decide) fun L H3 e3 n3 h5 => ?_
    walk_at "go"
    refine w_forW (walk_list (xs := l.map V.int)) (fun i σ' H' => ∃ x1, σ' = [some (.ref r), some (.ref L), x1] ∧ Ex H H' ∧ H' L = some (.lst (((l.take i).foldl bordF [0]).map V.int)) ∧ ((l.take i).foldl bordF [0]).length = i + 1) ?i0 ?iG ?is ?id
    case i0 => exact ⟨none, rfl, e3, h5, rfl⟩
    case iG =>
      rintro i σ' H' _ ⟨x1, _, e5, _⟩
      exact sl_of (e5 _ _ h2)
    case is =>
      rintro i x σ' H' H'' hi ⟨x1, rfl, e5, h7, z7⟩ ⟨rfl, hx⟩
      obtain ⟨m, hm, rfl⟩ := map_at hx
      have ef := take_fold (f := bordF) (b := [0]) hm
      generalize (l.take i).foldl bordF [0] = S0 at *
      rw [ef]
      rw [List.length_map] at hi
      have hne : S0 ≠ [] := fun z => by rw [z] at z7; cases z7
      obtain ⟨F, y, rfl⟩ := snoc_of hne
      have h8 := h7
      rw [List.map_append] at h8
      walk_at "go"
      refine w_ixL (K := K) (sl_of h8) (atI_last _ _) ?_
      walk_at "go"
      refine w_apq h8 (by rw [← List.map_append, List.length_map]; omega) fun H6 m6 h9 => ?_
      walk_at "go"
      refine ⟨_, rfl, m6 H e5 n3, ?_, ?_⟩
      · rw [h9]
        show _ = some (HO.lst (((F ++ [y]) ++ [(F ++ [y]).getLastD 0 + m]).map V.int))
        simp
      · show ((F ++ [y]) ++ [_]).length = i + 1 + 1
        rw [List.length_append, z7]
        rfl
    case id =>
      rintro σ' H' ⟨x1, rfl, e5, h7, z7⟩
      rw [List.length_map, List.take_length] at *
      walk_at "go"
      exact q L H' e5 n3 h7
/-! ### texts -/
theorem ixN_last (n : Nat) : ixN (n + 1) (-1) = some n := by
  unfold ixN
  rw [if_neg (by decide), if_pos (by omega)]
  exact congrArg some (by omega)
theorem walk_S (l : List Nat) : Walk (Its (S l)) l.length (fun _ => True) (fun i H v H' => H' = H ∧ ∃ c, l[i]? = some c ∧ v = .str ⟨#[c]⟩) := by
  have w := walk_str (z := S l)
  have e : (S l).cps.size = l.length := by simp
  rw [e] at w
  exact w.mono (fun _ h => h) fun i H v H' _ _ y => by
    obtain ⟨y1, c, hc, y2⟩ := y
    exact ⟨y1, c, by simpa using hc, y2⟩
def sg (b : Bool) : Nat := if b then 49 else 48
def tx (w : Wd) : List Nat := w.map sg
theorem tx_len (w : Wd) : (S (tx w)).length = w.length := by simp [Str.length, tx]
def rowOfF (st : List Int × Str) (c : Nat) : List Int × Str := (if (⟨#[c]⟩ : Str) = st.2 then st.1.dropLast ++ [st.1.getLastD 0 + 1] else st.1 ++ [1], ⟨#[c]⟩)
theorem rowOf_word (w : Wd) (h : w.length ≤ 7) : ((tx w).foldl rowOfF ([], "")).1 = runsW w := by
  have := all7 (p := fun w => decide (((tx w).foldl rowOfF ([], "")).1 = runsW w)) (by decide +kernel) w h
  exact of_decide_eq_true this
def spRowOf (K : PySem.W.Frag) : Sp := fun vs H Q _ => ∃ (u : Wd), vs = [.str (S (tx u))] ∧ u.length ≤ 7 ∧ ∀ t H', Ex H H' → IsRow K H' t u → Q (.ref t) H'
theorem sc_row_of : FnScope ["text", "sign", "lengths", "before"] ["text"] (defScope (top 23)) := ⟨rfl, rfl, rfl, by decide +kernel, rfl, by decide +kernel, by decide +kernel⟩
theorem ok_row_of {P : Program} {w : World} {K : PySem.W.Frag} {mg : Str → Option Value} {base : Heap} (T : Tx P K mg) : Ok P w K mg base 5 (He.ga K "row_of") (spRowOf K) := by
  refine ok_mk T.d_row_of sc_row_of (fun vs H Q E h => ?len) (fun _ _ _ _ _ _ us hl => match us, hl with | [_], _ => rfl) (fun cdv A outer s H vs Q E hr h => ⟨_, (pss_cons (ps_if (PW.pt (pw_or (pt_not (pt_val (pe_callB call_isi (by rfl) T.z_isinstance (by decide +kernel) (pa_cons (pv 0) (pa_cons (pe_bltn (v := .ty "str") rfl T.z_str (by decide +kernel) rfl) pa_nil))))) (pw_or (pt_cmpR op_gt (pe_callB cq_lenT (by rfl) T.z_len (by decide +kernel) (pa_cons (pv 0) pa_nil)) (pe_glob (v := .int 2000) rfl (T.i_MAX_ITEMS).choose_spec ⟨_, rfl⟩) (nomark _)) (pw_or1 (pt_not (pt_val (pe_callB (cr_all rfl) (by rfl) T.z_all (by decide +kernel) (pa_cons (pe_lc (own := [("sign", 1)]) (by rfl) sc_row_of.nd (pi_str (pv 0)) (blkOk_by (own := [("sign", 1)]) (N := ["text", "sign", "lengths", "before"]) (sc := defScope (top 23)) (by decide +kernel)) (fun _ _ _ _ _ => (pg_name (i := 1) sc_row_of.nd rfl (Or.inl rfl))) (fun _ _ _ _ _ => pts_nil) (fun _ _ _ _ _ => (pe_cmpR oq_inSg (pv 1) pe_str (by rfl)))) pa_nil)))))))) (pss_one ps_never) pss_nil) (pss_cons (ps_par (i := 2) (j := 3) (by rfl) sc_row_of.nd rfl rfl (by decide) rfl rfl (pa_cons (pe_lst pa_nil) (pa_cons pe_str pa_nil)) (by rfl)) (pss_cons (ps_for PassesOwn.never rfl (pi_str (pv 0)) (pg_name (i := 1) sc_row_of.nd rfl (Or.inl rfl)) (pss_cons (ps_if (pt_cmpR op_eq (pv 1) (pv 3) (nomark _)) (pss_one (ps_augS (pv 2) (pe_un un_neg pe_int) get_list pe_int ip_add set_list)) (pss_one (ps_expr (pe_bm PySem.F.plainAttrs_list PySem.F.slot_list_append PySem.F.type_list_append mt_append (pv 2) (pa_cons pe_int pa_nil))))) (pss_one (ps_set (i := 3) sc_row_of.nd rfl (.inl rfl) (pv 1))))) (pss_one (ps_ret (pe_new T.k_Row (ok_Row_dinitd T) hr T.gc_Row (pa_cons (pe_ifExp (pt_cmpR op_ne (pv 0) pe_str (nomark _)) (pe_callTy cq_intS (by rfl) T.z_int (by decide +kernel) (pa_cons (pe_ix ix_str (pv 0) pe_int (fun _ _ => rfl)) pa_nil)) pe_int) (pa_cons (pv 2) pa_nil)))))))), ?body⟩)
  case len => obtain ⟨u, rfl, _⟩ := h; rfl
  case body =>
    obtain ⟨u, rfl, zu, q⟩ := h
    have zt := tx_len u
    walk_at "st"
    refine w_lenS (sz_le (by omega)) ?_
    rw [zt]
    walk_at "go"
    walk_at "no"
    refine w_lcW walk_str (fun _ => true) (fun _ v _ => v = .bl true) (by show (S (tx u)).length ≤ 50000; omega) (fun _ _ _ _ y => y.1) (fun _ _ _ _ _ h => h) (fun _ _ _ _ _ _ _ h => h) (fun H' e => trivial) (fun i y H1 hi e1 hy QE k h1 h2 => ?_) (fun D H1 ys e1 nD hD pr => ?_)
    · obtain ⟨_, cc, hc, rfl⟩ := hy
      have hc2 : (tx u)[i]? = some cc := by simpa using hc
      unfold tx at hc2
      rw [List.getElem?_map] at hc2
      obtain ⟨b, hb, rfl⟩ : ∃ b, u[i]? = some b ∧ cc = sg b := by
        cases q : u[i]? with
        | none => rw [q] at hc2; cases hc2
        | some b => rw [q] at hc2; exact ⟨b, rfl, (Option.some.inj hc2).symm⟩
      walk_at "go"
      refine w_inSg ?_
      refine h1 rfl _ _ (Ex.refl _) ?_
      cases b <;> rfl
    · walk_at "go"
      refine w_allT hD pr ?_
      walk_at "go"
      refine w_newA (by show (0 : Nat) ≤ sizeLine; decide) fun L H3 e3 n3 h5 => ?_
      walk_at "go"
      refine w_forW (walk_S (tx u)) (fun i σ' H' => ∃ x1, σ' = [some (.str (S (tx u))), x1, some (.ref L), some (.str (((tx u).take i).foldl rowOfF ([], "")).2)] ∧ Ex H1 H' ∧
        H' L = some (.lst ((((tx u).take i).foldl rowOfF ([], "")).1.map V.int)) ∧ (((tx u).take i).foldl rowOfF ([], "")).1.length ≤ i ∧ ((((tx u).take i).foldl rowOfF ([], "")).1 = [] → (((tx u).take i).foldl rowOfF ([], "")).2 = "")) ?i0 ?iG ?is ?id
      case i0 => exact ⟨none, rfl, e3, h5, Nat.le_refl _, fun _ => rfl⟩
      case iG => exact fun _ _ _ _ _ => trivial
      case is =>
        rintro i x σ' H' H'' hi ⟨x1, rfl, e5, h7, z7, k7⟩ ⟨rfl, cc, hc, rfl⟩
        have hc2 : (tx u)[i]? = some cc := hc
        have ef := take_fold (f := rowOfF) (b := ([], ("" : Str))) hc2
        generalize ((tx u).take i).foldl rowOfF ([], "") = S0 at *
        rw [ef]
        have zi : i < 7 := by
          have := tx_len u
          simp [Str.length] at this
          omega
        walk_at "go"
        refine w_ite (fun e => ?_) (fun e => ?_)
        · have he : (⟨#[cc]⟩ : Str) = S0.2 := of_decide_eq_true e
          have hne : S0.1 ≠ [] := fun z => by
            have z2 := he.trans (k7 z)
            cases z2
          obtain ⟨F, y, hF⟩ := snoc_of hne
          have e6 : rowOfF S0 cc = (F ++ [y + 1], ⟨#[cc]⟩) := by
            unfold rowOfF
            rw [if_pos he, hF]
            simp
          rw [e6]
          rw [hF, List.map_append] at h7
          walk_at "go"
          refine w_getL (K := K) (sl_of h7) (atI_last _ _) ?_
          walk_at "go"
          refine w_setL h7 (k := F.length) ?_ fun H6 m6 h9 => ?_
          · rw [List.length_append, List.length_map]
            exact ixN_last _
          walk_at "go"
          refine ⟨_, rfl, m6 H1 e5 n3, ?_, ?_, ?_⟩
          · rw [h9]
            show some (HO.lst ((F.map V.int ++ [V.int y]).set F.length (V.int (y + 1)))) = some (HO.lst ((F ++ [y + 1]).map V.int))
            rw [List.set_append_right _ _ (by simp)]
            simp
          · rw [hF] at z7
            simp at z7 ⊢
            omega
          · intro z
            exact absurd z (by simp)
        · have he : ¬ (⟨#[cc]⟩ : Str) = S0.2 := of_decide_eq_false e
          have e6 : rowOfF S0 cc = (S0.1 ++ [1], ⟨#[cc]⟩) := by
            unfold rowOfF
            rw [if_neg he]
          rw [e6]
          walk_at "go"
          refine w_apq h7 (by rw [List.length_map]; omega) fun H6 m6 h9 => ?_
          walk_at "go"
          refine ⟨_, rfl, m6 H1 e5 n3, ?_, ?_, ?_⟩
          · rw [h9, List.map_append]
            rfl
          · rw [List.length_append, List.length_singleton]
            omega
          · intro z
            exact absurd z (by simp)
      case id =>
        rintro σ' H' ⟨x1, rfl, e5, h7, z7, _⟩
        rw [List.take_length, rowOf_word u zu] at h7
        rw [List.take_length]
        walk_at "go"
        have fin : ∀ (c : Int), c = colW u → MkQ (He.ga K "Row") (spRowInit K) E0 [.int c, .ref L] ({ nx := fun _ H' => Q .non H', rt := Q } : Ends).rt H' := fun c hc => by
          rw [hc]
          exact w_mkRow h7 (rv_word u zu) fun t H6 e6 hr => q t H6 ((e1.trans e5).trans e6) ⟨zu, hr⟩
        cases u with
        | nil =>
          walk_at "go"
          exact fin _ rfl
        | cons b r =>
          walk_at "yes"
          refine w_ixS (d := sg b) (sz_le (by omega)) (at0 _ _) ?_
          walk_at "go"
          refine w_intS (n := if b then 1 else 0) ?_ ?_ ?_
          · cases b <;> decide +kernel
          · show (1 : Nat) ≤ 640
            decide
          walk_at "go"
          exact fin _ rfl
def textF (st : List Str × Int) (n : Int) : List Str × Int := (st.1 ++ [S (List.replicate n.toNat (if st.2 = 1 then 49 else 48))], 1 - st.2)
theorem text_word (w : Wd) (h : w.length ≤ 7) : Txt.join "" ((runsW w).foldl textF ([], colW w)).1 = S (tx w) ∧ ((((runsW w).foldl textF ([], colW w)).1.map (·.length)).sum + ((runsW w).foldl textF ([], colW w)).1.length * (("" : Str).length) ≤ 16777216) := by
  have := all7 (p := fun w => decide (Txt.join "" ((runsW w).foldl textF ([], colW w)).1 = S (tx w) ∧ ((((runsW w).foldl textF ([], colW w)).1.map (·.length)).sum + ((runsW w).foldl textF ([], colW w)).1.length * (("" : Str).length) ≤ 16777216))) (by decide +kernel) w h
  exact of_decide_eq_true this
def spTextOf (K : PySem.W.Frag) : Sp := fun vs H Q _ => ∃ (r : Addr) (u : Wd), vs = [.ref r] ∧ IsRow K H r u ∧ ∀ H', Ex H H' → Q (.str (S (tx u))) H'
theorem str01 (c : Int) (h0 : 0 ≤ c) (h1 : c ≤ 1) : (toString c : Str) = S [if c = 1 then 49 else 48] := by
  have : c = 0 ∨ c = 1 := by omega
  rcases this with rfl | rfl <;> decide +kernel
def JoinQ (K : PySem.W.Frag) : V → List V → Hp → VK → Prop := fun x xs H Q => ∃ a p, ∃ ys : List Str, x = .str a ∧ xs = [.ref p] ∧ (SqL K H p (ys.map V.str) ∨ SqT K H p (ys.map V.str)) ∧ (ys.map (·.length)).sum + ys.length * a.length ≤ 16777216 ∧ Q (.str (Txt.join a ys)) H
theorem sc_text_of : FnScope ["row", "parts", "colour", "size"] ["row"] (defScope (top 24)) := ⟨rfl, rfl, rfl, by decide +kernel, rfl, by decide +kernel, by decide +kernel⟩
theorem ok_text_of {P : Program} {w : World} {K : PySem.W.Frag} {mg : Str → Option Value} {base : Heap} (T : Tx P K mg) : Ok P w K mg base 3 (He.ga K "text_of") (spTextOf K) := by
  refine ok_mk T.d_text_of sc_text_of (fun vs H Q E h => ?len) (fun _ _ _ _ _ _ us hl => match us, hl with | [_], _ => rfl) (fun cdv A outer s H vs Q E hr h => ⟨_, (pss_cons (ps_if (pt_cmpR op_gt (pe_pr T.c_Row T.p_Row_length (ok_Row_length T) hr (pv 0)) (pe_glob (v := .int 2000) rfl (T.i_MAX_ITEMS).choose_spec ⟨_, rfl⟩) (nomark _)) (pss_one ps_never) pss_nil) (pss_cons (ps_par (i := 1) (j := 2) (by rfl) sc_text_of.nd rfl rfl (by decide) rfl rfl (pa_cons (pe_lst pa_nil) (pa_cons (pe_pr T.c_Row T.p_Row_first (ok_Row_first T) hr (pv 0)) pa_nil)) (by rfl)) (pss_cons (ps_for PassesOwn.never rfl (pi_list (pe_pr T.c_Row T.p_Row_lengths (ok_Row_lengths T) hr (pv 0))) (pg_name (i := 3) sc_text_of.nd rfl (Or.inl rfl)) (pss_cons (ps_expr (pe_bm PySem.F.plainAttrs_list PySem.F.slot_list_append PySem.F.type_list_append mt_append (pv 1) (pa_cons (pe_op op_mulS (pe_callTy cq_strI (by rfl) T.z_str (by decide +kernel) (pa_cons (pv 2) pa_nil)) (pv 3)) pa_nil))) (pss_one (ps_set (i := 2) sc_text_of.nd rfl (.inl rfl) (pe_op op_sub pe_int (pv 2)))))) (pss_one (ps_ret (pe_join pe_str (pv 1))))))), ?body⟩)
  case len => obtain ⟨r, u, rfl, _⟩ := h; rfl
  case body =>
    obtain ⟨r, u, rfl, hr0, q⟩ := h
    have zu := hr0.1
    have hsum := sum_word u zu
    walk_at "st"
    rw [hsum]
    walk_at "no"
    refine w_newA (by show (0 : Nat) ≤ sizeLine; decide) fun L H3 e3 n3 h5 => ?_
    walk_at "go"
    intro p4 H4 e4 n4 h6
    walk_at "go"
    have rv := rv_word u zu
    refine w_forW (walk_list (xs := (runsW u).map V.int)) (fun i σ' H' => ∃ x1, σ' = [some (.ref r), some (.ref L), some (.int (((runsW u).take i).foldl textF ([], colW u)).2), x1] ∧ Ex H H' ∧ H' p4 = some (.lst ((runsW u).map V.int)) ∧
        H' L = some (.lst ((((runsW u).take i).foldl textF ([], colW u)).1.map V.str)) ∧ (((runsW u).take i).foldl textF ([], colW u)).1.length ≤ i ∧ 0 ≤ (((runsW u).take i).foldl textF ([], colW u)).2 ∧ (((runsW u).take i).foldl textF ([], colW u)).2 ≤ 1) ?i0 ?iG ?is ?id
    case i0 => exact ⟨none, rfl, e3.trans e4, h6, e4 _ _ h5, Nat.le_refl _, rv.c0, rv.c1⟩
    case iG =>
      rintro i σ' H' _ ⟨x1, _, _, h7, _⟩
      exact sl_of h7
    case is =>
      rintro i x σ' H' H'' hi ⟨x1, rfl, e5, hl, h7, z7, c0, c1⟩ ⟨rfl, hx⟩
      obtain ⟨m, hm, rfl⟩ := map_at hx
      have ef := take_fold (f := textF) (b := ([], colW u)) hm
      generalize ((runsW u).take i).foldl textF ([], colW u) = S0 at *
      rw [ef]
      obtain ⟨m1, m2⟩ := rv.pos m (List.mem_of_getElem? hm)
      have hl7 := rv.len
      rw [List.length_map] at hi
      have ne : p4 ≠ L := fun z => by rw [z] at n4; rw [h5] at n4; cases n4
      walk_at "go"
      refine w_strI ?_ ?_
      · have : S0.2 = 0 ∨ S0.2 = 1 := by omega
        rcases this with z | z <;> rw [z] <;> decide
      rw [str01 _ c0 c1]
      walk_at "go"
      refine ⟨_, m, rfl, rfl, m1, by omega, ?_⟩
      walk_at "go"
      refine w_apq h7 (by rw [List.length_map]; omega) fun H6 m6 h9 => ?_
      walk_at "go"
      refine ⟨_, rfl, m6 H e5 n3, mu_at m6 hl ne, ?_, ?_, ?_, ?_⟩
      · rw [h9]
        show some (HO.lst (S0.1.map V.str ++ [_])) = some (HO.lst ((S0.1 ++ [_]).map V.str))
        rw [List.map_append]
        rfl
      · show (S0.1 ++ [_]).length ≤ i + 1
        rw [List.length_append, List.length_singleton]
        omega
      · show 0 ≤ 1 - S0.2
        omega
      · show 1 - S0.2 ≤ 1
        omega
    case id =>
      rintro σ' H' ⟨x1, rfl, e5, hl, h7, z7, _⟩
      rw [List.length_map, List.take_length] at *
      obtain ⟨ej, zj⟩ := text_word u zu
      refine ⟨⟨_, rfl⟩, ?_⟩
      walk_at "go"
      refine ⟨_, L, _, rfl, rfl, .inl (sl_of h7), zj, ?_⟩
      rw [ej]
      exact q H' e5
def spCheckRow (K : PySem.W.Frag) : Sp := fun vs H Q _ => ∃ (r : Addr) (c : Int) (l : List Int), vs = [.ref r] ∧ IsRw K H r c l ∧ Q .non H
theorem sc_check_row : FnScope ["candidate"] ["candidate"] (defScope (top 25)) := ⟨rfl, rfl, rfl, by decide +kernel, rfl, by decide +kernel, by decide +kernel⟩
theorem ok_check_row {P : Program} {w : World} {K : PySem.W.Frag} {mg : Str → Option Value} {base : Heap} (T : Tx P K mg) : Ok P w K mg base 1 (He.ga K "check_row") (spCheckRow K) := by
  refine ok_mk T.d_check_row sc_check_row (fun vs H Q E h => ?len) (fun _ _ _ _ _ _ us hl => match us, hl with | [_], _ => rfl) (fun cdv A outer s H vs Q E hr h => ⟨_, (pss_one (ps_if (pt_not (pt_val (pe_callB call_isi (by rfl) T.z_isinstance (by decide +kernel) (pa_cons (pv 0) (pa_cons (pe_glob (v := .ref (He.ga K "Row")) rfl T.gc_Row rfl) pa_nil))))) (pss_one ps_never) pss_nil)), ?body⟩)
  case len => obtain ⟨r, c, l, rfl, _⟩ := h; rfl
  case body =>
    obtain ⟨r, c, l, rfl, ⟨dx, p, h1, h2⟩, q⟩ := h
    walk_at "st"
    exact q
end Tcf

set_option Elab.async false
set_option linter.all false
set_option maxRecDepth 100000
set_option maxHeartbeats 4000000
/-! DG: flips (printed from DG.tmpl by gen_der.py). -/
namespace Tcf
open PySem PySem.Spec PyProof.Rows L2
open Evl (Ex)
set_option hygiene false in
local macro_rules | `(tactic| walk_at "lkT") => `(tactic| first | (with_reducible exact T.l_GAMES _) | (with_reducible exact T.l_GOALS _))
set_option hygiene false in
local macro_rules | `(tactic| walk_at "isx") => `(tactic| first | (with_reducible exact T.is_Row (by walk_at "lk")) | (with_reducible exact T.is_Flip (by walk_at "lk")) | (with_reducible exact T.is_Table (by walk_at "lk")))
local macro_rules | `(tactic| walk_at "lk") => `(tactic| first
  | assumption
  | walk_at "lkT"
  | ((with_reducible refine' ex_at (by assumption) ?wk); (case wk => walk_at "lk"))
  | ((with_reducible refine' sl_of ?wk); (case wk => walk_at "lk"))
  | ((with_reducible refine' st_of ?wk); (case wk => walk_at "lk"))
  | ((with_reducible refine' ex_l (by assumption) ?wk); (case wk => walk_at "lk"))
  | ((with_reducible refine' ex_t (by assumption) ?wk); (case wk => walk_at "lk"))
  | ((with_reducible refine' mu_at (by assumption) ?wk ?wn); (case wk => walk_at "lk"); (case wn => assumption)))
set_option hygiene false in
local macro_rules | `(tactic| walk_at "sd") => `(tactic| first
  | exact rfl | assumption | (with_reducible exact T.c_Row) | (with_reducible exact T.c_Flip) | (with_reducible exact T.c_Table) | (with_reducible exact T.c_Trial)
  | (with_reducible exact T.n_Row_colour) | (with_reducible exact T.n_Row_sizes) | (with_reducible exact T.n_Flip_begin) | (with_reducible exact T.n_Flip_finish) | (with_reducible exact T.n_Trial_home) | (with_reducible exact T.n_Trial_kept)
  | (with_reducible exact T.n_Table_beginning) | (with_reducible exact T.n_Table_words) | (with_reducible exact T.n_Table_state))
local macro_rules | `(tactic| walk_at "w") => `(tactic| first
  | (with_reducible refine w_seq ?_) | (with_reducible refine w_asg ?_) | (with_reducible refine w_gName ?_) | (with_reducible refine w_ret ?_) | (with_reducible refine w_ifS ?_) | (with_reducible refine w_drop ?_) | (with_reducible refine w_next ?_)
  | ((with_reducible refine' w_aug ?wh ?_); (case wh => exact rfl)) | (with_reducible refine w_match ?_) | (with_reducible refine w_case ?_)
  | ((with_reducible refine' w_var ?wh ?_); (case wh => exact rfl))
  | (with_reducible refine w_c ?_) | (with_reducible refine w_op ?_) | (with_reducible refine w_un ?_) | (with_reducible refine w_nil ?_) | (with_reducible refine w_cons ?_) | (with_reducible refine w_star ?_) | (with_reducible refine w_tup ?_) | (with_reducible refine w_lst ?_)
  | (with_reducible refine w_if ?_) | (with_reducible refine w_and ?_) | (with_reducible refine w_or ?_) | (with_reducible refine w_not ?_) | (with_reducible refine w_bq ?_) | (with_reducible refine w_B ?_) | (with_reducible refine w_test ?_) | (with_reducible refine w_andV ?_) | (with_reducible refine w_orV ?_) | (with_reducible refine w_notV ?_)
  | (with_reducible refine w_chain ?_) | (with_reducible refine w_rI0 ?_) | (with_reducible refine w_rU ?_) | (with_reducible refine w_ipI ?_)
  | (with_reducible refine w_eqI ?_) | (with_reducible refine w_neI ?_) | (with_reducible refine w_eqS ?_) | (with_reducible refine w_neS ?_) | (with_reducible refine w_eqB ?_) | (with_reducible refine w_neB ?_) | (with_reducible refine w_isNr ?_) | (with_reducible refine w_isNn ?_)
  | (with_reducible refine w_sl ?_) | (with_reducible refine w_noPart ?_) | (with_reducible refine w_part ?_) | (with_reducible refine w_pq ?_) | (with_reducible refine w_revL ?_) | (with_reducible refine w_revS ?_)
  | (with_reducible refine w_cb ?_) | (with_reducible refine w_min2 ?_) | (with_reducible refine w_max2 ?_) | (with_reducible refine w_intB ?_)
  | (with_reducible refine w_fn ?_) | (with_reducible refine w_me ?_) | (with_reducible refine w_pr ?_) | (with_reducible refine w_mk ?_) | (with_reducible refine w_fld ?_)
  | (with_reducible refine w_isi_ii ?_) | (with_reducible refine w_isi_ib ?_) | (with_reducible refine w_isi_ss ?_)
  | ((with_reducible refine' w_isi_ll ?wh ?_); (case wh => walk_at "lk"))
  | ((with_reducible refine' w_isi_own ?wh ?wq); (case wh => walk_at "isx"))
  | ((with_reducible refine' w_lenL ?wh ?_); (case wh => walk_at "lk")) | ((with_reducible refine' w_ixL ?wh ?wi ?_); (case wh => walk_at "lk"); (case wi => first | assumption | exact rfl)) | ((with_reducible refine' w_ixT ?wh ?wi ?_); (case wh => walk_at "lk"); (case wi => first | assumption | exact rfl))
  | ((with_reducible refine' w_slL ?wh ?_); (case wh => walk_at "lk")) | ((with_reducible refine' w_rvq ?wh ?_); (case wh => walk_at "lk")) | ((with_reducible refine' w_listO ?wh ?_); (case wh => walk_at "lk")) | ((with_reducible refine' w_starL ?wh ?_); (case wh => walk_at "lk"))
  | ((with_reducible refine' w_fq ?wh ?wc ?wn ?wl ?_); (case wh => walk_at "lk"); (case wc => walk_at "sd"); (case wn => walk_at "sd"); (case wl => exact rfl))
  | ((with_reducible refine' w_sum ?wh ?_); (case wh => walk_at "lk"))
  | ((with_reducible refine' w_all ?wh ?_); (case wh => walk_at "lk"))
  | (with_reducible refine w_forL ?_) | ((with_reducible refine' w_forLq ?wh ?_); (case wh => walk_at "lk")) | (with_reducible refine w_forS ?_) | (with_reducible refine w_forSq ?_) | (with_reducible refine w_forR1 ?_) | ((with_reducible refine' w_forR1q ?wh ?_); (case wh => omega)) | (with_reducible refine w_forR2 ?_) | ((with_reducible refine' w_forR2q ?wh ?_); (case wh => omega)) | (with_reducible refine w_forE ?_) | ((with_reducible refine' w_forEq ?wh ?_); (case wh => walk_at "lk"))
  | (with_reducible refine w_lcL ?_) | ((with_reducible refine' w_lcLq ?wh ?_); (case wh => walk_at "lk")) | (with_reducible refine w_lcS ?_) | (with_reducible refine w_lcSq ?_) | (with_reducible refine w_lcR2 ?_) | ((with_reducible refine' w_lcR2q ?wh ?_); (case wh => omega))
  | (with_reducible refine w_bm ?_) | ((with_reducible refine' w_bmq ?wh ?_); (case wh => walk_at "lk")) | (with_reducible refine w_bm0 ?_) | ((with_reducible refine' w_bm0q ?wh ?_); (case wh => walk_at "lk"))
  | ((with_reducible refine' w_getL ?wh ?wi ?_); (case wh => walk_at "lk"); (case wi => first | assumption | exact rfl)) | (with_reducible refine w_gSub ?_) | (with_reducible refine w_augS ?_)
  | ((with_reducible refine' w_gTup ?wh ?wl ?_); (case wh => walk_at "lk"); (case wl => exact rfl)) | (with_reducible refine w_gCons ?_) | (with_reducible refine w_gNil ?_)
  | (with_reducible refine w_parT ?_) | (with_reducible refine w_parq ?_) | (with_reducible refine w_par3T ?_) | (with_reducible refine w_par3q ?_) | (with_reducible refine w_sfld ?_) | (with_reducible refine w_ob ?_) | (with_reducible refine w_obq ?_)
  | ((with_reducible refine' w_sfq ?wh ?wc ?wn ?wl ?wq); (case wh => walk_at "lk"); (case wc => walk_at "sd"); (case wn => walk_at "sd"); (case wl => exact Nat.le_of_ble_eq_true rfl))
  | ((with_reducible refine' w_rI ?wh ?wq); (case wh => first | decide | exact ⟨by decide, by decide⟩)) | (with_reducible refine w_pairsC ?_) | (with_reducible refine w_pairsN ?_) | ((with_reducible refine' w_cat ?wh ?wk ?wl ?wq); (case wh => walk_at "lk"); (case wk => walk_at "lk"); (case wl => walk_at "sz"))
  | ((with_reducible refine' w_mqRow ?wh ?wl ?wk ?wq); (case wh => walk_at "rw"); (case wl => exact rfl); (case wk => exact rfl))
  | ((with_reducible refine' w_mq ?wh ?wl ?wq); (case wh => walk_at "lk"); (case wl => exact rfl))
  | ((with_reducible refine' w_wipe ?wh ?wq); (case wh => exact rfl)) | (with_reducible refine w_yesT ?_)
  | (with_reducible refine w_isNumber ?_) | (with_reducible refine w_isCount ?_) | (with_reducible refine w_isColour ?_) | (with_reducible refine w_checkGame ?_) | (with_reducible refine w_checkGoal ?_) | (with_reducible refine w_checkWords ?_)
  | (with_reducible refine iteT ?_) | (with_reducible refine iteF ?_) | ((with_reducible refine' w_yes ?wh ?_); (case wh => exact rfl)) | ((with_reducible refine' w_no ?wh ?_); (case wh => exact rfl)))
local macro_rules | `(tactic| walk_at "sz") => `(tactic| first | (refine sz_le ?_; first | assumption | (simp only [List.length_map, List.length_append, List.length_cons, List.length_nil]; omega) | omega) | (refine sz_lt ?_; first | assumption | (simp only [List.length_map, List.length_append, List.length_cons, List.length_nil]; omega) | omega))
local macro_rules | `(tactic| walk_at "go") => `(tactic| repeat (walk_at "w"))
local macro_rules | `(tactic| walk_at "bt") => `(tactic| first | exact rfl | assumption | (simp [*]; done) | (simp; omega) | (simp [*]; omega))
local macro_rules | `(tactic| walk_at "yes") => `(tactic| ((with_reducible refine' w_yes ?wh ?wq); (case wh => walk_at "bt"); walk_at "go"))
local macro_rules | `(tactic| walk_at "no") => `(tactic| ((with_reducible refine' w_no ?wh ?wq); (case wh => walk_at "bt"); walk_at "go"))
local macro_rules | `(tactic| walk_at "st") => `(tactic| ((try dsimp only [L2.cxOf, L2.Cx.nox, L2.Cx.wish]); walk_at "go"))
local macro_rules | `(tactic| walk_at "rw") => `(tactic| first | assumption | ((with_reducible refine' IsRow.rw ?wk); (case wk => walk_at "rw")) | ((with_reducible refine' IsRw.ex (by assumption) ?wk); (case wk => walk_at "rw")) | ((with_reducible refine' IsRow.ex (by assumption) ?wk); (case wk => walk_at "rw")))
local macro_rules | `(tactic| walk_at "ro") => `(tactic| first | assumption | ((with_reducible refine' IsRow.ex (by assumption) ?wk); (case wk => walk_at "ro")))
local macro_rules | `(tactic| walk_at "fl") => `(tactic| first | assumption | ((with_reducible refine' IsFlip.ex (by assumption) ?wk); (case wk => walk_at "fl")))
local macro_rules | `(tactic| walk_at "w") => `(tactic| first
  | ((with_reducible refine' w_first ?wh ?wq); (case wh => walk_at "rw")) | ((with_reducible refine' w_runs ?wh ?wq); (case wh => walk_at "rw")) | ((with_reducible refine' w_length ?wh ?wq); (case wh => walk_at "rw")) | ((with_reducible refine' w_lengths ?wh ?wq); (case wh => walk_at "rw")))
theorem w_inv {K : PySem.W.Frag} {H : Hp} {Q : VK} {r : Addr} {u : Wd} (h : IsRow K H r u) (q : ∀ t H', Ex H H' → IsRow K H' t u.reverse → Q (.ref t) H') : rOwn1 (He.ga K "Row") (spRowInv K) (.ref r) H Q := by
  obtain ⟨dx, fs, h1⟩ := h.ins
  exact ⟨r, dx, fs, rfl, h1, r, u, rfl, h, q⟩
theorem w_add {K : PySem.W.Frag} {H : Hp} {Q : VK} {r s : Addr} {u v : Wd} (h : IsRow K H r u) (k : IsRow K H s v) (z : (u ++ v).length ≤ 7) (q : ∀ t H', Ex H H' → IsRow K H' t (u ++ v) → Q (.ref t) H') : rOwn2 (He.ga K "Row") (spRowAdd K) (.ref r) (.ref s) H Q := by
  obtain ⟨dx, fs, h1⟩ := h.ins
  obtain ⟨dy, gs, h2⟩ := k.ins
  exact ⟨r, s, dx, dy, fs, gs, rfl, rfl, h1, h2, r, s, u, v, rfl, h, k, z, q⟩
def spFlipInit (K : PySem.W.Frag) : Sp := fun vs H Q E => ∃ (x dx : Addr) (a b : Int), vs = [.ref x, .int a, .int b] ∧ H x = some (.ins (He.ga K "Flip") dx []) ∧
  (0 ≤ a → a < b → ∀ H', Mu x H H' → H' x = some (.ins (He.ga K "Flip") dx [("begin", .int a), ("finish", .int b)]) → Q .non H') ∧ (¬ (0 ≤ a ∧ a < b) → E (.ref (He.ga K "InvalidFlip")) none H)
theorem sc_Flip_dinitd : FnScope ["self", "start", "end"] ["self", "start", "end"] (defScope (inClass (top 29) 0)) := ⟨rfl, rfl, rfl, by decide +kernel, rfl, by decide +kernel, by decide +kernel⟩
theorem ok_Flip_dinitd {P : Program} {w : World} {K : PySem.W.Frag} {mg : Str → Option Value} {base : Heap} (T : Tx P K mg) : Ok P w K mg base 2 (He.ma K (He.ga K "Flip") "__init__") (spFlipInit K) := by
  refine ok_mkX T.d_Flip_dinitd sc_Flip_dinitd (fun vs H Q E h => ?len) (fun _ _ _ _ _ _ us hl => match us, hl with | [_, _, _], _ => rfl) (fun cdv A outer s H vs Q E hr h => ⟨_, (pss_cons (ps_if (PW.pt (pw_or (pt_not (pt_val (pe_fn (ok_is_count T) hr T.g_is_count (pa_cons (pv 1) pa_nil)))) (pw_or (pt_not (pt_val (pe_fn (ok_is_count T) hr T.g_is_count (pa_cons (pv 2) pa_nil)))) (pw_or1 (pt_cmpR op_ge (pv 1) (pv 2) (nomark _)))))) (pss_one (ps_raise rfl (takes_of rfl rfl rfl rfl) (pmk_own PySem.F.excBase_ValueError T.e_InvalidFlip T.ge_InvalidFlip T.ke_InvalidFlip (raises_own T.r_InvalidFlip.1 T.r_InvalidFlip.2) rfl))) pss_nil) (pss_cons (ps_fld (pv 0) (pv 1) rfl) (pss_one (ps_fld (pv 0) (pv 2) rfl)))), ?body⟩)
  case len => obtain ⟨x, dx, a, b, rfl, _⟩ := h; rfl
  case body =>
    obtain ⟨x, dx, a, b, rfl, hx, q1, q2⟩ := h
    walk_at "st"
    refine w_ite (fun e => ?_) (fun e => ?_)
    · walk_at "go"
      refine q2 fun z => ?_
      simp at e
      omega
    · walk_at "go"
      refine w_ite (fun e2 => ?_) (fun e2 => ?_)
      · walk_at "go"
        refine q2 fun z => ?_
        simp at e2
        omega
      · walk_at "go"
        refine w_ite (fun e3 => ?_) (fun e3 => ?_)
        · walk_at "go"
          refine q2 fun z => ?_
          simp at e3
          omega
        · walk_at "go"
          intro H3 m3 h3
          walk_at "go"
          intro H4 m4 h4
          walk_at "go"
          simp at e e3
          exact q1 e (by omega) H4 (m3.trans m4) h4
/-- Flip(a, b) -/
theorem w_mkFlip {K : PySem.W.Frag} {H : Hp} {Q : VK} {E : XK} {a b : Int} (q : 0 ≤ a → a < b → ∀ f H2, Ex H H2 → H f = none → IsFlip K H2 f a b → Q (.ref f) H2) (q2 : ¬ (0 ≤ a ∧ a < b) → ∀ H2, Ex H H2 → E (.ref (He.ga K "InvalidFlip")) none H2) : MkQ (He.ga K "Flip") (spFlipInit K) E [.int a, .int b] Q H := by
  intro x dx nx ndx ne
  have e0 : Ex H (upd (upd H dx (.own x)) x (.ins (He.ga K "Flip") dx [])) := (Ex.new ndx).trans (Ex.new (by rw [upd_ne (Ne.symm ne)]; exact nx))
  exact ⟨x, dx, a, b, rfl, upd_same, fun h1 h2 H' m h3 => ⟨rfl, q h1 h2 x H' (m H e0 nx) nx ⟨dx, h3⟩⟩, fun h => q2 h _ e0⟩
def spStart (K : PySem.W.Frag) : Sp := fun vs H Q _ => ∃ f a b, vs = [.ref f] ∧ IsFlip K H f a b ∧ Q (.int a) H
theorem sc_Flip_start : FnScope ["self"] ["self"] (defScope (inClass (top 29) 1)) := ⟨rfl, rfl, rfl, by decide +kernel, rfl, by decide +kernel, by decide +kernel⟩
theorem ok_Flip_start {P : Program} {w : World} {K : PySem.W.Frag} {mg : Str → Option Value} {base : Heap} (T : Tx P K mg) : Ok P w K mg base 1 (pgAd K "Flip" "start") (spStart K) := by
  refine ok_mk T.d_Flip_start sc_Flip_start (fun vs H Q E h => ?len) (fun _ _ _ _ _ _ us hl => match us, hl with | [_], _ => rfl) (fun cdv A outer s H vs Q E hr h => ⟨_, (pss_one (ps_ret (pe_fld (pv 0) rfl))), ?body⟩)
  case len => obtain ⟨f, a, b, rfl, _⟩ := h; rfl
  case body =>
    obtain ⟨f, a, b, rfl, ⟨dx, h1⟩, q⟩ := h
    walk_at "st"
    exact q
def spEnd (K : PySem.W.Frag) : Sp := fun vs H Q _ => ∃ f a b, vs = [.ref f] ∧ IsFlip K H f a b ∧ Q (.int b) H
theorem sc_Flip_end : FnScope ["self"] ["self"] (defScope (inClass (top 29) 2)) := ⟨rfl, rfl, rfl, by decide +kernel, rfl, by decide +kernel, by decide +kernel⟩
theorem ok_Flip_end {P : Program} {w : World} {K : PySem.W.Frag} {mg : Str → Option Value} {base : Heap} (T : Tx P K mg) : Ok P w K mg base 1 (pgAd K "Flip" "end") (spEnd K) := by
  refine ok_mk T.d_Flip_end sc_Flip_end (fun vs H Q E h => ?len) (fun _ _ _ _ _ _ us hl => match us, hl with | [_], _ => rfl) (fun cdv A outer s H vs Q E hr h => ⟨_, (pss_one (ps_ret (pe_fld (pv 0) rfl))), ?body⟩)
  case len => obtain ⟨f, a, b, rfl, _⟩ := h; rfl
  case body =>
    obtain ⟨f, a, b, rfl, ⟨dx, h1⟩, q⟩ := h
    walk_at "st"
    exact q
theorem w_start {K : PySem.W.Frag} {H : Hp} {Q : VK} {a b : Int} {f : Addr} (h : IsFlip K H f a b) (q : Q (.int a) H) : PrQ (He.ga K "Flip") (spStart K) Q (.ref f) H := by
  obtain ⟨dx, h1⟩ := id h
  exact ⟨f, dx, _, rfl, h1, f, a, b, rfl, h, q⟩
theorem w_end {K : PySem.W.Frag} {H : Hp} {Q : VK} {a b : Int} {f : Addr} (h : IsFlip K H f a b) (q : Q (.int b) H) : PrQ (He.ga K "Flip") (spEnd K) Q (.ref f) H := by
  obtain ⟨dx, h1⟩ := id h
  exact ⟨f, dx, _, rfl, h1, f, a, b, rfl, h, q⟩
local macro_rules | `(tactic| walk_at "w") => `(tactic| first
  | ((with_reducible refine' w_start ?wh ?wq); (case wh => walk_at "fl")) | ((with_reducible refine' w_end ?wh ?wq); (case wh => walk_at "fl")))
def spFlipCheck (K : PySem.W.Frag) : Sp := fun vs H Q _ => ∃ (f r : Addr) (a b : Int) (u : Wd), vs = [.ref f, .ref r] ∧ IsFlip K H f a b ∧ IsRow K H r u ∧ b ≤ u.length ∧ Q .non H
theorem sc_Flip_check : FnScope ["self", "row"] ["self", "row"] (defScope (inClass (top 29) 4)) := ⟨rfl, rfl, rfl, by decide +kernel, rfl, by decide +kernel, by decide +kernel⟩
theorem ok_Flip_check {P : Program} {w : World} {K : PySem.W.Frag} {mg : Str → Option Value} {base : Heap} (T : Tx P K mg) : Ok P w K mg base 3 (He.ma K (He.ga K "Flip") "check") (spFlipCheck K) := by
  refine ok_mk T.d_Flip_check sc_Flip_check (fun vs H Q E h => ?len) (fun _ _ _ _ _ _ us hl => match us, hl with | [_, _], _ => rfl) (fun cdv A outer s H vs Q E hr h => ⟨_, (pss_cons (ps_expr (pe_fn (ok_check_row T) hr T.g_check_row (pa_cons (pv 1) pa_nil))) (pss_one (ps_if (pt_cmpR op_gt (pe_fld (pv 0) rfl) (pe_pr T.c_Row T.p_Row_length (ok_Row_length T) hr (pv 1)) (nomark _)) (pss_one ps_never) pss_nil))), ?body⟩)
  case len => obtain ⟨f, r, a, b, u, rfl, _⟩ := h; rfl
  case body =>
    obtain ⟨f, r, a, b, u, rfl, ⟨dx, h1⟩, hr0, hb, q⟩ := h
    have hsum := sum_word u hr0.1
    walk_at "st"
    refine ⟨r, _, _, rfl, hr0.2, ?_⟩
    walk_at "go"
    rw [hsum]
    walk_at "no"
    exact q
def turnW (u : Wd) (a b : Nat) : Wd := cutW u 0 a ++ (cutW u a b).reverse ++ cutW u b u.length
theorem turnW_len (u : Wd) (a b : Nat) (h1 : a ≤ b) (h2 : b ≤ u.length) : (turnW u a b).length = u.length := by
  unfold turnW cutW
  simp
  omega
def spFlipCall (K : PySem.W.Frag) : Sp := fun vs H Q _ => ∃ (f r : Addr) (a b : Nat) (u : Wd), vs = [.ref f, .ref r] ∧ IsFlip K H f a b ∧ IsRow K H r u ∧ a < b ∧ b ≤ u.length ∧ ∀ t H', Ex H H' → IsRow K H' t (turnW u a b) → Q (.ref t) H'
theorem sc_Flip_dcalld : FnScope ["self", "row", "turned"] ["self", "row"] (defScope (inClass (top 29) 5)) := ⟨rfl, rfl, rfl, by decide +kernel, rfl, by decide +kernel, by decide +kernel⟩
theorem ok_Flip_dcalld {P : Program} {w : World} {K : PySem.W.Frag} {mg : Str → Option Value} {base : Heap} (T : Tx P K mg) : Ok P w K mg base 7 (He.ma K (He.ga K "Flip") "__call__") (spFlipCall K) := by
  refine ok_mk T.d_Flip_dcalld sc_Flip_dcalld (fun vs H Q E h => ?len) (fun _ _ _ _ _ _ us hl => match us, hl with | [_, _], _ => rfl) (fun cdv A outer s H vs Q E hr h => ⟨_, (pss_cons (ps_expr (pe_me T.c_Flip T.m_Flip_check (ok_Flip_check T) hr (pv 0) (pa_cons (pv 1) pa_nil))) (pss_cons (ps_set (i := 2) sc_Flip_dcalld.nd rfl (.inl rfl) (pe_un (un_ownInv T.m_Row_dinvertd (ok_Row_dinvertd T) hr) (pe_me T.c_Row T.m_Row_part (ok_Row_part T) hr (pv 1) (pa_cons (pe_fld (pv 0) rfl) (pa_cons (pe_fld (pv 0) rfl) pa_nil))))) (pss_one (ps_ret (pe_op (op_own T.sf_Row T.m_Row_daddd (ok_Row_daddd T) hr) (pe_op (op_own T.sf_Row T.m_Row_daddd (ok_Row_daddd T) hr) (pe_me T.c_Row T.m_Row_part (ok_Row_part T) hr (pv 1) (pa_cons pe_int (pa_cons (pe_fld (pv 0) rfl) pa_nil))) (pv 2)) (pe_me T.c_Row T.m_Row_part (ok_Row_part T) hr (pv 1) (pa_cons (pe_fld (pv 0) rfl) (pa_cons (pe_pr T.c_Row T.p_Row_length (ok_Row_length T) hr (pv 1)) pa_nil)))))))), ?body⟩)
  case len => obtain ⟨f, r, a, b, u, rfl, _⟩ := h; rfl
  case body =>
    obtain ⟨f, r, a, b, u, rfl, ⟨dx, h1⟩, hr0, hab, hb, q⟩ := h
    have zu := hr0.1
    have hsum := sum_word u zu
    obtain ⟨dy, fs, h2⟩ := hr0.ins
    walk_at "st"
    refine ⟨f, r, a, b, u, rfl, ⟨dx, h1⟩, hr0, by omega, ?_⟩
    walk_at "go"
    refine ⟨r, u, a, b, rfl, hr0, by omega, hb, fun t1 H1 e1 ht1 => ?_⟩
    refine w_inv ht1 fun t2 H2 e2 ht2 => ?_
    walk_at "go"
    refine ⟨r, u, 0, a, rfl, by walk_at "ro", by omega, by omega, fun t3 H3 e3 ht3 => ?_⟩
    walk_at "go"
    have z4 : (cutW u 0 a ++ (cutW u a b).reverse).length ≤ 7 := by
      unfold cutW
      simp
      omega
    refine w_add ht3 (by walk_at "ro") z4 fun t4 H4 e4 ht4 => ?_
    walk_at "go"
    rw [hsum]
    walk_at "go"
    refine ⟨r, u, b, u.length, rfl, by walk_at "ro", by omega, by omega, fun t5 H5 e5 ht5 => ?_⟩
    have z5 : (cutW u 0 a ++ (cutW u a b).reverse ++ cutW u b u.length).length ≤ 7 := by
      have := turnW_len u a b (by omega) hb
      unfold turnW at this
      omega
    refine w_add (by walk_at "ro") ht5 z5 fun t6 H6 e6 ht6 => ?_
    walk_at "go"
    exact q t6 H6 (((((e1.trans e2).trans e3).trans e4).trans e5).trans e6) ht6
/-- f(r) -/
theorem w_flip {X : Cx} {K : PySem.W.Frag} {H : Hp} {Q : VK} {E : XK} {f r : Addr} {a b : Nat} {u : Wd} (hf : IsFlip K H f a b) (hr : IsRow K H r u) (h1 : a < b) (h2 : b ≤ u.length) (q : ∀ t H', Ex H H' → IsRow K H' t (turnW u a b) → Q (.ref t) H') :
    StX.InsC X H f (He.ga K "Flip") ∧ spFlipCall K [.ref f, .ref r] H Q E := by
  obtain ⟨dx, h3⟩ := id hf
  exact ⟨.inr ⟨dx, _, h3⟩, f, r, a, b, u, rfl, hf, hr, h1, h2, q⟩
def spCanBe (K : PySem.W.Frag) : Sp := fun vs H Q _ => ∃ (r f : Addr) (a b : Int) (u : Wd), vs = [.ref r, .ref f] ∧ IsFlip K H f a b ∧ IsRow K H r u ∧ Q (.bl (decide (b ≤ u.length))) H
theorem sc_can_be_used : FnScope ["row", "flip"] ["row", "flip"] (defScope (top 30)) := ⟨rfl, rfl, rfl, by decide +kernel, rfl, by decide +kernel, by decide +kernel⟩
theorem ok_can_be_used {P : Program} {w : World} {K : PySem.W.Frag} {mg : Str → Option Value} {base : Heap} (T : Tx P K mg) : Ok P w K mg base 3 (He.ga K "can_be_used") (spCanBe K) := by
  refine ok_mk T.d_can_be_used sc_can_be_used (fun vs H Q E h => ?len) (fun _ _ _ _ _ _ us hl => match us, hl with | [_, _], _ => rfl) (fun cdv A outer s H vs Q E hr h => ⟨_, (pss_one (ps_ret (pe_and (pe_callB call_isi (by rfl) T.z_isinstance (by decide +kernel) (pa_cons (pv 1) (pa_cons (pe_glob (v := .ref (He.ga K "Flip")) rfl T.gc_Flip rfl) pa_nil))) (pe_one (pe_cmpR op_le (pe_pr T.c_Flip T.p_Flip_end (ok_Flip_end T) hr (pv 1)) (pe_pr T.c_Row T.p_Row_length (ok_Row_length T) hr (pv 0)) (nomark _)))))), ?body⟩)
  case len => obtain ⟨r, f, a, b, u, rfl, _⟩ := h; rfl
  case body =>
    obtain ⟨r, f, a, b, u, rfl, hf0, hr0, q⟩ := h
    have hsum := sum_word u hr0.1
    obtain ⟨dx, h1⟩ := id hf0
    walk_at "st"
    rw [hsum]
    exact q
def allowB (g : Gm) (n : Nat) (a b : Int) : Bool := decide (b ≤ n) && (decide (g = .parts) || decide (a = 0) || (decide (g = .ends) && decide (b = n)))
def spAllowed (K : PySem.W.Frag) : Sp := fun vs H Q _ => ∃ (r f : Addr) (a b : Int) (u : Wd) (g : Gm), vs = [.ref r, .ref f, .str g.s] ∧ IsFlip K H f a b ∧ IsRow K H r u ∧ Q (.bl (allowB g u.length a b)) H
theorem sc_is_allowed : FnScope ["row", "flip", "game"] ["row", "flip", "game"] (defScope (top 31)) := ⟨rfl, rfl, rfl, by decide +kernel, rfl, by decide +kernel, by decide +kernel⟩
theorem ok_is_allowed {P : Program} {w : World} {K : PySem.W.Frag} {mg : Str → Option Value} {base : Heap} (T : Tx P K mg) : Ok P w K mg base 4 (He.ga K "is_allowed") (spAllowed K) := by
  refine ok_mk T.d_is_allowed sc_is_allowed (fun vs H Q E h => ?len) (fun _ _ _ _ _ _ us hl => match us, hl with | [_, _, _], _ => rfl) (fun cdv A outer s H vs Q E hr h => ⟨_, (pss_cons (ps_expr (pe_fn (ok_check_game T) hr T.g_check_game (pa_cons (pv 2) pa_nil))) (pss_cons (ps_if (pt_not (pt_val (pe_fn (ok_can_be_used T) hr T.g_can_be_used (pa_cons (pv 0) (pa_cons (pv 1) pa_nil))))) (pss_one (ps_ret pe_bl)) pss_nil) (pss_one (ps_ret (pe_or (pe_cmpR op_eq (pv 2) pe_str (nomark _)) (pe_or (pe_cmpR op_eq (pe_pr T.c_Flip T.p_Flip_start (ok_Flip_start T) hr (pv 1)) pe_int (nomark _)) (pe_one (pe_and (pe_cmpR op_eq (pv 2) pe_str (nomark _)) (pe_one (pe_cmpR op_eq (pe_pr T.c_Flip T.p_Flip_end (ok_Flip_end T) hr (pv 1)) (pe_pr T.c_Row T.p_Row_length (ok_Row_length T) hr (pv 0)) (nomark _))))))))))), ?body⟩)
  case len => obtain ⟨r, f, a, b, u, g, rfl, _⟩ := h; rfl
  case body =>
    obtain ⟨r, f, a, b, u, g, rfl, hf0, hr0, q⟩ := h
    have hsum := sum_word u hr0.1
    obtain ⟨dx, h1⟩ := id hf0
    walk_at "st"
    refine ⟨r, f, a, b, u, rfl, hf0, hr0, ?_⟩
    walk_at "go"
    unfold allowB at q
    refine w_ite (fun e => ?_) (fun e => ?_)
    · have hb : ¬ b ≤ u.length := by simpa using e
      walk_at "go"
      simpa [hb] using q
    · have hb : b ≤ u.length := by simpa using e
      walk_at "go"
      cases g with
      | parts =>
        walk_at "go"
        simpa [hb] using q
      | front =>
        walk_at "go"
        by_cases ha : a = 0
        · walk_at "yes"
          simpa [hb, ha] using q
        · walk_at "no"
          simpa [hb, ha] using q
      | ends =>
        walk_at "go"
        by_cases ha : a = 0
        · walk_at "yes"
          simpa [hb, ha] using q
        · walk_at "no"
          rw [hsum]
          simpa [hb, ha] using q
end Tcf

set_option Elab.async false
set_option linter.all false
set_option maxRecDepth 100000
set_option maxHeartbeats 4000000
/-! DH: costs, kinds (printed from DH.tmpl by gen_der.py). -/
namespace Tcf
open PySem PySem.Spec PyProof.Rows L2
open Evl (Ex)
set_option hygiene false in
local macro_rules | `(tactic| walk_at "lkT") => `(tactic| first | (with_reducible exact T.l_GAMES _) | (with_reducible exact T.l_GOALS _))
set_option hygiene false in
local macro_rules | `(tactic| walk_at "isx") => `(tactic| first | (with_reducible exact T.is_Row (by walk_at "lk")) | (with_reducible exact T.is_Flip (by walk_at "lk")) | (with_reducible exact T.is_Table (by walk_at "lk")))
local macro_rules | `(tactic| walk_at "lk") => `(tactic| first
  | assumption
  | walk_at "lkT"
  | ((with_reducible refine' ex_at (by assumption) ?wk); (case wk => walk_at "lk"))
  | ((with_reducible refine' sl_of ?wk); (case wk => walk_at "lk"))
  | ((with_reducible refine' st_of ?wk); (case wk => walk_at "lk"))
  | ((with_reducible refine' ex_l (by assumption) ?wk); (case wk => walk_at "lk"))
  | ((with_reducible refine' ex_t (by assumption) ?wk); (case wk => walk_at "lk"))
  | ((with_reducible refine' mu_at (by assumption) ?wk ?wn); (case wk => walk_at "lk"); (case wn => assumption)))
set_option hygiene false in
local macro_rules | `(tactic| walk_at "sd") => `(tactic| first
  | exact rfl | assumption | (with_reducible exact T.c_Row) | (with_reducible exact T.c_Flip) | (with_reducible exact T.c_Table) | (with_reducible exact T.c_Trial)
  | (with_reducible exact T.n_Row_colour) | (with_reducible exact T.n_Row_sizes) | (with_reducible exact T.n_Flip_begin) | (with_reducible exact T.n_Flip_finish) | (with_reducible exact T.n_Trial_home) | (with_reducible exact T.n_Trial_kept)
  | (with_reducible exact T.n_Table_beginning) | (with_reducible exact T.n_Table_words) | (with_reducible exact T.n_Table_state))
local macro_rules | `(tactic| walk_at "w") => `(tactic| first
  | (with_reducible refine w_seq ?_) | (with_reducible refine w_asg ?_) | (with_reducible refine w_gName ?_) | (with_reducible refine w_ret ?_) | (with_reducible refine w_ifS ?_) | (with_reducible refine w_drop ?_) | (with_reducible refine w_next ?_)
  | ((with_reducible refine' w_aug ?wh ?_); (case wh => exact rfl)) | (with_reducible refine w_match ?_) | (with_reducible refine w_case ?_)
  | ((with_reducible refine' w_var ?wh ?_); (case wh => exact rfl))
  | (with_reducible refine w_c ?_) | (with_reducible refine w_op ?_) | (with_reducible refine w_un ?_) | (with_reducible refine w_nil ?_) | (with_reducible refine w_cons ?_) | (with_reducible refine w_star ?_) | (with_reducible refine w_tup ?_) | (with_reducible refine w_lst ?_)
  | (with_reducible refine w_if ?_) | (with_reducible refine w_and ?_) | (with_reducible refine w_or ?_) | (with_reducible refine w_not ?_) | (with_reducible refine w_bq ?_) | (with_reducible refine w_B ?_) | (with_reducible refine w_test ?_) | (with_reducible refine w_andV ?_) | (with_reducible refine w_orV ?_) | (with_reducible refine w_notV ?_)
  | (with_reducible refine w_chain ?_) | (with_reducible refine w_rI0 ?_) | (with_reducible refine w_rU ?_) | (with_reducible refine w_ipI ?_)
  | (with_reducible refine w_eqI ?_) | (with_reducible refine w_neI ?_) | (with_reducible refine w_eqS ?_) | (with_reducible refine w_neS ?_) | (with_reducible refine w_eqB ?_) | (with_reducible refine w_neB ?_) | (with_reducible refine w_isNr ?_) | (with_reducible refine w_isNn ?_)
  | (with_reducible refine w_sl ?_) | (with_reducible refine w_noPart ?_) | (with_reducible refine w_part ?_) | (with_reducible refine w_pq ?_) | (with_reducible refine w_revL ?_) | (with_reducible refine w_revS ?_)
  | (with_reducible refine w_cb ?_) | (with_reducible refine w_min2 ?_) | (with_reducible refine w_max2 ?_) | (with_reducible refine w_intB ?_)
  | (with_reducible refine w_fn ?_) | (with_reducible refine w_me ?_) | (with_reducible refine w_pr ?_) | (with_reducible refine w_mk ?_) | (with_reducible refine w_fld ?_)
  | (with_reducible refine w_isi_ii ?_) | (with_reducible refine w_isi_ib ?_) | (with_reducible refine w_isi_ss ?_)
  | ((with_reducible refine' w_isi_ll ?wh ?_); (case wh => walk_at "lk"))
  | ((with_reducible refine' w_isi_own ?wh ?wq); (case wh => walk_at "isx"))
  | ((with_reducible refine' w_lenL ?wh ?_); (case wh => walk_at "lk")) | ((with_reducible refine' w_ixL ?wh ?wi ?_); (case wh => walk_at "lk"); (case wi => first | assumption | exact rfl)) | ((with_reducible refine' w_ixT ?wh ?wi ?_); (case wh => walk_at "lk"); (case wi => first | assumption | exact rfl))
  | ((with_reducible refine' w_slL ?wh ?_); (case wh => walk_at "lk")) | ((with_reducible refine' w_rvq ?wh ?_); (case wh => walk_at "lk")) | ((with_reducible refine' w_listO ?wh ?_); (case wh => walk_at "lk")) | ((with_reducible refine' w_starL ?wh ?_); (case wh => walk_at "lk"))
  | ((with_reducible refine' w_fq ?wh ?wc ?wn ?wl ?_); (case wh => walk_at "lk"); (case wc => walk_at "sd"); (case wn => walk_at "sd"); (case wl => exact rfl))
  | ((with_reducible refine' w_sum ?wh ?_); (case wh => walk_at "lk"))
  | ((with_reducible refine' w_all ?wh ?_); (case wh => walk_at "lk"))
  | (with_reducible refine w_forL ?_) | ((with_reducible refine' w_forLq ?wh ?_); (case wh => walk_at "lk")) | (with_reducible refine w_forS ?_) | (with_reducible refine w_forSq ?_) | (with_reducible refine w_forR1 ?_) | ((with_reducible refine' w_forR1q ?wh ?_); (case wh => omega)) | (with_reducible refine w_forR2 ?_) | ((with_reducible refine' w_forR2q ?wh ?_); (case wh => omega)) | (with_reducible refine w_forE ?_) | ((with_reducible refine' w_forEq ?wh ?_); (case wh => walk_at "lk"))
  | (with_reducible refine w_lcL ?_) | ((with_reducible refine' w_lcLq ?wh ?_); (case wh => walk_at "lk")) | (with_reducible refine w_lcS ?_) | (with_reducible refine w_lcSq ?_) | (with_reducible refine w_lcR2 ?_) | ((with_reducible refine' w_lcR2q ?wh ?_); (case wh => omega))
  | (with_reducible refine w_bm ?_) | ((with_reducible refine' w_bmq ?wh ?_); (case wh => walk_at "lk")) | (with_reducible refine w_bm0 ?_) | ((with_reducible refine' w_bm0q ?wh ?_); (case wh => walk_at "lk"))
  | ((with_reducible refine' w_getL ?wh ?wi ?_); (case wh => walk_at "lk"); (case wi => first | assumption | exact rfl)) | (with_reducible refine w_gSub ?_) | (with_reducible refine w_augS ?_)
  | ((with_reducible refine' w_gTup ?wh ?wl ?_); (case wh => walk_at "lk"); (case wl => exact rfl)) | (with_reducible refine w_gCons ?_) | (with_reducible refine w_gNil ?_)
  | (with_reducible refine w_parT ?_) | (with_reducible refine w_parq ?_) | (with_reducible refine w_par3T ?_) | (with_reducible refine w_par3q ?_) | (with_reducible refine w_sfld ?_) | (with_reducible refine w_ob ?_) | (with_reducible refine w_obq ?_)
  | ((with_reducible refine' w_sfq ?wh ?wc ?wn ?wl ?wq); (case wh => walk_at "lk"); (case wc => walk_at "sd"); (case wn => walk_at "sd"); (case wl => exact Nat.le_of_ble_eq_true rfl))
  | ((with_reducible refine' w_rI ?wh ?wq); (case wh => first | decide | exact ⟨by decide, by decide⟩)) | (with_reducible refine w_pairsC ?_) | (with_reducible refine w_pairsN ?_) | ((with_reducible refine' w_cat ?wh ?wk ?wl ?wq); (case wh => walk_at "lk"); (case wk => walk_at "lk"); (case wl => walk_at "sz"))
  | ((with_reducible refine' w_mqRow ?wh ?wl ?wk ?wq); (case wh => walk_at "rw"); (case wl => exact rfl); (case wk => exact rfl))
  | ((with_reducible refine' w_mq ?wh ?wl ?wq); (case wh => walk_at "lk"); (case wl => exact rfl))
  | ((with_reducible refine' w_wipe ?wh ?wq); (case wh => exact rfl)) | (with_reducible refine w_yesT ?_)
  | (with_reducible refine w_isNumber ?_) | (with_reducible refine w_isCount ?_) | (with_reducible refine w_isColour ?_) | (with_reducible refine w_checkGame ?_) | (with_reducible refine w_checkGoal ?_) | (with_reducible refine w_checkWords ?_)
  | (with_reducible refine iteT ?_) | (with_reducible refine iteF ?_) | ((with_reducible refine' w_yes ?wh ?_); (case wh => exact rfl)) | ((with_reducible refine' w_no ?wh ?_); (case wh => exact rfl)))
local macro_rules | `(tactic| walk_at "sz") => `(tactic| first | (refine sz_le ?_; first | assumption | (simp only [List.length_map, List.length_append, List.length_cons, List.length_nil]; omega) | omega) | (refine sz_lt ?_; first | assumption | (simp only [List.length_map, List.length_append, List.length_cons, List.length_nil]; omega) | omega))
local macro_rules | `(tactic| walk_at "go") => `(tactic| repeat (walk_at "w"))
local macro_rules | `(tactic| walk_at "bt") => `(tactic| first | exact rfl | assumption | (simp [*]; done) | (simp; omega) | (simp [*]; omega))
local macro_rules | `(tactic| walk_at "yes") => `(tactic| ((with_reducible refine' w_yes ?wh ?wq); (case wh => walk_at "bt"); walk_at "go"))
local macro_rules | `(tactic| walk_at "no") => `(tactic| ((with_reducible refine' w_no ?wh ?wq); (case wh => walk_at "bt"); walk_at "go"))
local macro_rules | `(tactic| walk_at "st") => `(tactic| ((try dsimp only [L2.cxOf, L2.Cx.nox, L2.Cx.wish]); walk_at "go"))
local macro_rules | `(tactic| walk_at "rw") => `(tactic| first | assumption | ((with_reducible refine' IsRow.rw ?wk); (case wk => walk_at "rw")) | ((with_reducible refine' IsRw.ex (by assumption) ?wk); (case wk => walk_at "rw")) | ((with_reducible refine' IsRow.ex (by assumption) ?wk); (case wk => walk_at "rw")))
local macro_rules | `(tactic| walk_at "ro") => `(tactic| first | assumption | ((with_reducible refine' IsRow.ex (by assumption) ?wk); (case wk => walk_at "ro")))
local macro_rules | `(tactic| walk_at "fl") => `(tactic| first | assumption | ((with_reducible refine' IsFlip.ex (by assumption) ?wk); (case wk => walk_at "fl")))
local macro_rules | `(tactic| walk_at "w") => `(tactic| first
  | ((with_reducible refine' w_first ?wh ?wq); (case wh => walk_at "rw")) | ((with_reducible refine' w_runs ?wh ?wq); (case wh => walk_at "rw")) | ((with_reducible refine' w_length ?wh ?wq); (case wh => walk_at "rw")) | ((with_reducible refine' w_lengths ?wh ?wq); (case wh => walk_at "rw")))
local macro_rules | `(tactic| walk_at "w") => `(tactic| first
  | ((with_reducible refine' w_start ?wh ?wq); (case wh => walk_at "fl")) | ((with_reducible refine' w_end ?wh ?wq); (case wh => walk_at "fl")))
def b2 (b : Bool) : Int := if b then 1 else 0
def sortC (n c : Int) : Gm → Int
  | .front => n - 2 + b2 (decide ((c + n - 1).fmod 2 = 0))
  | .ends => n - 2 + b2 (decide (n = 2) && decide (c = 1))
  | .parts => (n - 2 + c + b2 (decide ((c + n - 1).fmod 2 = 0))).fdiv 2
def spSortC : Sp := fun vs H Q _ => ∃ (n c : Int) (g : Gm), vs = [.int n, .int c, .str g.s] ∧ Q (.int (sortC n c g)) H
theorem sc_sorting_cost : FnScope ["runs", "first", "game", "last"] ["runs", "first", "game"] (defScope (top 36)) := ⟨rfl, rfl, rfl, by decide +kernel, rfl, by decide +kernel, by decide +kernel⟩
theorem ok_sorting_cost {P : Program} {w : World} {K : PySem.W.Frag} {mg : Str → Option Value} {base : Heap} (T : Tx P K mg) : Ok P w K mg base 1 (He.ga K "sorting_cost") (spSortC) := by
  refine ok_mk T.d_sorting_cost sc_sorting_cost (fun vs H Q E h => ?len) (fun _ _ _ _ _ _ us hl => match us, hl with | [_, _, _], _ => rfl) (fun cdv A outer s H vs Q E hr h => ⟨_, (pss_cons (ps_set (i := 3) sc_sorting_cost.nd rfl (.inl rfl) (pe_op op_modN (pe_op op_sub (pe_op op_add (pv 1) (pv 0)) pe_int) pe_int)) (pss_one (ps_match (pv 2) (pm_str (pss_one (ps_ret (pe_op op_add (pe_op op_sub (pv 0) pe_int) (pe_callTy cq_int1 (by rfl) T.z_int (by decide +kernel) (pa_cons (pe_cmpR op_eq (pv 3) pe_int (nomark _)) pa_nil))))) (pm_str (pss_one (ps_ret (pe_op op_add (pe_op op_sub (pv 0) pe_int) (pe_callTy cq_int1 (by rfl) T.z_int (by decide +kernel) (pa_cons (pe_and (pe_cmpR op_eq (pv 0) pe_int (nomark _)) (pe_one (pe_cmpR op_eq (pv 1) pe_int (nomark _)))) pa_nil))))) (pm_rest (pss_one (ps_ret (pe_op op_fdivN (pe_op op_add (pe_op op_add (pe_op op_sub (pv 0) pe_int) (pv 1)) (pe_callTy cq_int1 (by rfl) T.z_int (by decide +kernel) (pa_cons (pe_cmpR op_eq (pv 3) pe_int (nomark _)) pa_nil))) pe_int))))))))), ?body⟩)
  case len => obtain ⟨n, c, g, rfl, _⟩ := h; rfl
  case body =>
    obtain ⟨n, c, g, rfl, q⟩ := h
    cases g with
    | front =>
      walk_at "st"
      exact q
    | ends =>
      walk_at "st"
      refine w_ite (fun e => ?_) (fun e => ?_)
      · walk_at "go"
        simpa [sortC, b2, e] using q
      · walk_at "go"
        simpa [sortC, b2, e] using q
    | parts =>
      walk_at "st"
      exact q
def plainC (n c : Int) (g : Gm) (o : Go) : Int := if n < 2 then 0 else match o with
  | .sorted => sortC n c g
  | .grouped => if g = .parts then (n - 1).fdiv 2 else n - 2
def spPlainC : Sp := fun vs H Q _ => ∃ (n c : Int) (g : Gm) (o : Go), vs = [.int n, .int c, .str g.s, .str o.s] ∧ Q (.int (plainC n c g o)) H
theorem sc_plain_cost : FnScope ["runs", "first", "game", "goal"] ["runs", "first", "game", "goal"] (defScope (top 37)) := ⟨rfl, rfl, rfl, by decide +kernel, rfl, by decide +kernel, by decide +kernel⟩
theorem ok_plain_cost {P : Program} {w : World} {K : PySem.W.Frag} {mg : Str → Option Value} {base : Heap} (T : Tx P K mg) : Ok P w K mg base 2 (He.ga K "plain_cost") (spPlainC) := by
  refine ok_mk T.d_plain_cost sc_plain_cost (fun vs H Q E h => ?len) (fun _ _ _ _ _ _ us hl => match us, hl with | [_, _, _, _], _ => rfl) (fun cdv A outer s H vs Q E hr h => ⟨_, (pss_cons (ps_if (pt_cmpR op_lt (pv 0) pe_int (nomark _)) (pss_one (ps_ret pe_int)) pss_nil) (pss_cons (ps_if (pt_cmpR op_eq (pv 3) pe_str (nomark _)) (pss_one (ps_ret (pe_fn (ok_sorting_cost T) hr T.g_sorting_cost (pa_cons (pv 0) (pa_cons (pv 1) (pa_cons (pv 2) pa_nil)))))) pss_nil) (pss_one (ps_ret (pe_ifExp (pt_cmpR op_eq (pv 2) pe_str (nomark _)) (pe_op op_fdivN (pe_op op_sub (pv 0) pe_int) pe_int) (pe_op op_sub (pv 0) pe_int)))))), ?body⟩)
  case len => obtain ⟨n, c, g, o, rfl, _⟩ := h; rfl
  case body =>
    obtain ⟨n, c, g, o, rfl, q⟩ := h
    walk_at "st"
    refine w_ite (fun e => ?_) (fun e => ?_)
    · walk_at "go"
      simpa [plainC, of_decide_eq_true e] using q
    · have hn : ¬ n < 2 := of_decide_eq_false e
      cases o with
      | sorted =>
        walk_at "go"
        refine ⟨n, c, g, rfl, ?_⟩
        simpa [plainC, hn] using q
      | grouped =>
        cases g with
        | parts =>
          walk_at "go"
          simpa [plainC, hn] using q
        | front =>
          walk_at "go"
          simpa [plainC, hn] using q
        | ends =>
          walk_at "go"
          simpa [plainC, hn] using q
theorem w_plain {H : Hp} {Q : VK} {E : XK} {n c : Int} {g : Gm} {o : Go} (q : Q (.int (plainC n c g o)) H) : spPlainC [.int n, .int c, .str g.s, .str o.s] H Q E := ⟨n, c, g, o, rfl, q⟩
inductive Kd where
  | inner | left | right | whole
  deriving DecidableEq
def Kd.s : Kd → Str
  | .inner => "inner" | .left => "left" | .right => "right" | .whole => "whole"
def numK (n : Int) : Kd → Int
  | .inner => if n = 0 then 0 else if 2 ≤ n then ((n - 2) ^ (2 : Int).toNat).fdiv 4 else 0
  | .left => if n = 0 then 0 else (n - 1).fdiv 2
  | .right => if n = 0 then 0 else (n - 1).fdiv 2
  | .whole => if n = 0 then 0 else 1
def numD (n : Int) : List (Key × V) := [(.inr "inner", .int (numK n .inner)), (.inr "left", .int (numK n .left)), (.inr "right", .int (numK n .right)), (.inr "whole", .int (numK n .whole))]
def spNums : Sp := fun vs H Q _ => ∃ n : Int, vs = [.int n] ∧ n.natAbs ≤ 1000 ∧ ∀ p H', Ex H H' → H p = none → H' p = some (.dK (numD n)) → Q (.ref p) H'
theorem sc_numbers_by_kind : FnScope ["runs", "inner"] ["runs"] (defScope (top 39)) := ⟨rfl, rfl, rfl, by decide +kernel, rfl, by decide +kernel, by decide +kernel⟩
theorem ok_numbers_by_kind {P : Program} {w : World} {K : PySem.W.Frag} {mg : Str → Option Value} {base : Heap} (T : Tx P K mg) : Ok P w K mg base 1 (He.ga K "numbers_by_kind") (spNums) := by
  refine ok_mk T.d_numbers_by_kind sc_numbers_by_kind (fun vs H Q E h => ?len) (fun _ _ _ _ _ _ us hl => match us, hl with | [_], _ => rfl) (fun cdv A outer s H vs Q E hr h => ⟨_, (pss_cons (ps_if (pt_cmpR op_eq (pv 0) pe_int (nomark _)) (pss_one (ps_ret (pe_disp (pps_cons pe_str pe_int (pps_cons pe_str pe_int (pps_cons pe_str pe_int (pps_cons pe_str pe_int pps_nil)))) (by rfl) (by rfl) (fun z => by cases z) (by decide)))) pss_nil) (pss_cons (ps_set (i := 1) sc_numbers_by_kind.nd rfl (.inl rfl) (pe_ifExp (pt_cmpR op_ge (pv 0) pe_int (nomark _)) (pe_op op_fdivN (pe_op op_pow (pe_op op_sub (pv 0) pe_int) pe_int) pe_int) pe_int)) (pss_one (ps_ret (pe_disp (pps_cons pe_str (pv 1) (pps_cons pe_str (pe_op op_fdivN (pe_op op_sub (pv 0) pe_int) pe_int) (pps_cons pe_str (pe_op op_fdivN (pe_op op_sub (pv 0) pe_int) pe_int) (pps_cons pe_str pe_int pps_nil)))) (by rfl) (by rfl) (fun z => by cases z) (by decide)))))), ?body⟩)
  case len => obtain ⟨n, rfl, _⟩ := h; rfl
  case body =>
    obtain ⟨n, rfl, zn, q⟩ := h
    walk_at "st"
    refine w_ite (fun e => ?_) (fun e => ?_)
    · have hn : n = 0 := of_decide_eq_true e
      subst hn
      walk_at "go"
      intro p np
      walk_at "go"
      exact ⟨upd_same, numD 0, rfl, by decide, q p _ (Evl.Ex.mut (Ex.new np) np) np upd_same⟩
    · have hn : n ≠ 0 := of_decide_eq_false e
      walk_at "go"
      refine w_ite (fun e => ?_) (fun e => ?_)
      · have h2 : 2 ≤ n := of_decide_eq_true e
        walk_at "go"
        refine w_rI (n := 2) ⟨by decide, by decide, by omega⟩ ?_
        walk_at "go"
        intro p np
        walk_at "go"
        refine ⟨upd_same, numD n, ?_, by show (4 : Nat) ≤ 15; decide, q p _ (Evl.Ex.mut (Ex.new np) np) np upd_same⟩
        simp [numD, numK, hn, h2, kV]
      · have h2 : ¬ 2 ≤ n := of_decide_eq_false e
        walk_at "go"
        intro p np
        walk_at "go"
        refine ⟨upd_same, numD n, ?_, by show (4 : Nat) ≤ 15; decide, q p _ (Evl.Ex.mut (Ex.new np) np) np upd_same⟩
        simp [numD, numK, hn, h2, kV]
def aftK (n c : Int) : Kd → Int × Int
  | .inner => (n - 2, c)
  | .left => (n - 1, 1 - c)
  | .right => (n - 1, c)
  | .whole => (n, (c + n - 1).fmod 2)
def spAfter : Sp := fun vs H Q _ => ∃ (n c : Int) (k : Kd), vs = [.int n, .int c, .str k.s] ∧ ∀ p H', Ex H H' → H' p = some (.tup [.int (aftK n c k).1, .int (aftK n c k).2]) → Q (.ref p) H'
theorem sc_state_after : FnScope ["runs", "first", "kind"] ["runs", "first", "kind"] (defScope (top 40)) := ⟨rfl, rfl, rfl, by decide +kernel, rfl, by decide +kernel, by decide +kernel⟩
theorem ok_state_after {P : Program} {w : World} {K : PySem.W.Frag} {mg : Str → Option Value} {base : Heap} (T : Tx P K mg) : Ok P w K mg base 1 (He.ga K "state_after") (spAfter) := by
  refine ok_mk T.d_state_after sc_state_after (fun vs H Q E h => ?len) (fun _ _ _ _ _ _ us hl => match us, hl with | [_, _, _], _ => rfl) (fun cdv A outer s H vs Q E hr h => ⟨_, (pss_one (ps_match (pv 2) (pm_str (pss_one (ps_ret (pe_tup (pa_cons (pe_op op_sub (pv 0) pe_int) (pa_cons (pv 1) pa_nil))))) (pm_str (pss_one (ps_ret (pe_tup (pa_cons (pe_op op_sub (pv 0) pe_int) (pa_cons (pe_op op_sub pe_int (pv 1)) pa_nil))))) (pm_str (pss_one (ps_ret (pe_tup (pa_cons (pe_op op_sub (pv 0) pe_int) (pa_cons (pv 1) pa_nil))))) (pm_rest (pss_one (ps_ret (pe_tup (pa_cons (pv 0) (pa_cons (pe_op op_modN (pe_op op_sub (pe_op op_add (pv 1) (pv 0)) pe_int) pe_int) pa_nil))))))))))), ?body⟩)
  case len => obtain ⟨n, c, k, rfl, _⟩ := h; rfl
  case body =>
    obtain ⟨n, c, k, rfl, q⟩ := h
    cases k <;> (walk_at "st"; exact w_newA (by show (2 : Nat) ≤ sizeLine; decide) fun p H2 e2 n2 h2 => q p H2 e2 h2)
def kindsG : Gm → List Kd
  | .front => [.left, .whole]
  | .ends => [.left, .right, .whole]
  | .parts => [.inner, .left, .right, .whole]
def spKinds : Sp := fun vs H Q _ => ∃ (g : Gm), vs = [.str g.s] ∧ ∀ p H', Ex H H' → H' p = some (.lst ((kindsG g).map fun k => V.str k.s)) → Q (.ref p) H'
theorem sc_kinds_of_game : FnScope ["game"] ["game"] (defScope (top 41)) := ⟨rfl, rfl, rfl, by decide +kernel, rfl, by decide +kernel, by decide +kernel⟩
theorem ok_kinds_of_game {P : Program} {w : World} {K : PySem.W.Frag} {mg : Str → Option Value} {base : Heap} (T : Tx P K mg) : Ok P w K mg base 1 (He.ga K "kinds_of_game") (spKinds) := by
  refine ok_mk T.d_kinds_of_game sc_kinds_of_game (fun vs H Q E h => ?len) (fun _ _ _ _ _ _ us hl => match us, hl with | [_], _ => rfl) (fun cdv A outer s H vs Q E hr h => ⟨_, (pss_one (ps_match (pv 0) (pm_str (pss_one (ps_ret (pe_lst (pa_cons pe_str (pa_cons pe_str pa_nil))))) (pm_str (pss_one (ps_ret (pe_lst (pa_cons pe_str (pa_cons pe_str (pa_cons pe_str pa_nil)))))) (pm_rest (pss_one (ps_ret (pe_lst (pa_cons pe_str (pa_cons pe_str (pa_cons pe_str (pa_cons pe_str pa_nil)))))))))))), ?body⟩)
  case len => obtain ⟨g, rfl, _⟩ := h; rfl
  case body =>
    obtain ⟨g, rfl, q⟩ := h
    cases g
    · walk_at "st"; exact w_newA (by show (2 : Nat) ≤ sizeLine; decide) fun p H2 e2 n2 h2 => q p H2 e2 h2
    · walk_at "st"; exact w_newA (by show (3 : Nat) ≤ sizeLine; decide) fun p H2 e2 n2 h2 => q p H2 e2 h2
    · walk_at "st"; exact w_newA (by show (4 : Nat) ≤ sizeLine; decide) fun p H2 e2 n2 h2 => q p H2 e2 h2
end Tcf

set_option Elab.async false
set_option linter.all false
set_option maxRecDepth 100000
set_option maxHeartbeats 4000000
/-! DI: best kinds, first flips (printed from DI.tmpl by gen_der.py). -/
namespace Tcf
open PySem PySem.Spec PyProof.Rows L2
open Evl (Ex)
theorem w_dget {td ty : TE} {σ : L2.St} {H : Hp} {Q : VK} (q : td σ H fun x H1 => ty σ H1 fun y H2 => ∃ a v, x = .ref a ∧ DGet H2 a y (some v) ∧ Q v H2) : tDGet td ty σ H Q := q
set_option hygiene false in
local macro_rules | `(tactic| walk_at "lkT") => `(tactic| first | (with_reducible exact T.l_GAMES _) | (with_reducible exact T.l_GOALS _))
set_option hygiene false in
local macro_rules | `(tactic| walk_at "isx") => `(tactic| first | (with_reducible exact T.is_Row (by walk_at "lk")) | (with_reducible exact T.is_Flip (by walk_at "lk")) | (with_reducible exact T.is_Table (by walk_at "lk")))
local macro_rules | `(tactic| walk_at "lk") => `(tactic| first
  | assumption
  | walk_at "lkT"
  | ((with_reducible refine' ex_at (by assumption) ?wk); (case wk => walk_at "lk"))
  | ((with_reducible refine' sl_of ?wk); (case wk => walk_at "lk"))
  | ((with_reducible refine' st_of ?wk); (case wk => walk_at "lk"))
  | ((with_reducible refine' ex_l (by assumption) ?wk); (case wk => walk_at "lk"))
  | ((with_reducible refine' ex_t (by assumption) ?wk); (case wk => walk_at "lk"))
  | ((with_reducible refine' mu_at (by assumption) ?wk ?wn); (case wk => walk_at "lk"); (case wn => assumption)))
set_option hygiene false in
local macro_rules | `(tactic| walk_at "sd") => `(tactic| first
  | exact rfl | assumption | (with_reducible exact T.c_Row) | (with_reducible exact T.c_Flip) | (with_reducible exact T.c_Table) | (with_reducible exact T.c_Trial)
  | (with_reducible exact T.n_Row_colour) | (with_reducible exact T.n_Row_sizes) | (with_reducible exact T.n_Flip_begin) | (with_reducible exact T.n_Flip_finish) | (with_reducible exact T.n_Trial_home) | (with_reducible exact T.n_Trial_kept)
  | (with_reducible exact T.n_Table_beginning) | (with_reducible exact T.n_Table_words) | (with_reducible exact T.n_Table_state))
local macro_rules | `(tactic| walk_at "w") => `(tactic| first
  | (with_reducible refine w_seq ?_) | (with_reducible refine w_asg ?_) | (with_reducible refine w_gName ?_) | (with_reducible refine w_ret ?_) | (with_reducible refine w_ifS ?_) | (with_reducible refine w_drop ?_) | (with_reducible refine w_next ?_)
  | ((with_reducible refine' w_aug ?wh ?_); (case wh => exact rfl)) | (with_reducible refine w_match ?_) | (with_reducible refine w_case ?_)
  | ((with_reducible refine' w_var ?wh ?_); (case wh => exact rfl))
  | (with_reducible refine w_c ?_) | (with_reducible refine w_op ?_) | (with_reducible refine w_un ?_) | (with_reducible refine w_nil ?_) | (with_reducible refine w_cons ?_) | (with_reducible refine w_star ?_) | (with_reducible refine w_tup ?_) | (with_reducible refine w_lst ?_)
  | (with_reducible refine w_if ?_) | (with_reducible refine w_and ?_) | (with_reducible refine w_or ?_) | (with_reducible refine w_not ?_) | (with_reducible refine w_bq ?_) | (with_reducible refine w_B ?_) | (with_reducible refine w_test ?_) | (with_reducible refine w_andV ?_) | (with_reducible refine w_orV ?_) | (with_reducible refine w_notV ?_)
  | (with_reducible refine w_chain ?_) | (with_reducible refine w_rI0 ?_) | (with_reducible refine w_rU ?_) | (with_reducible refine w_ipI ?_)
  | (with_reducible refine w_eqI ?_) | (with_reducible refine w_neI ?_) | (with_reducible refine w_eqS ?_) | (with_reducible refine w_neS ?_) | (with_reducible refine w_eqB ?_) | (with_reducible refine w_neB ?_) | (with_reducible refine w_isNr ?_) | (with_reducible refine w_isNn ?_)
  | (with_reducible refine w_sl ?_) | (with_reducible refine w_noPart ?_) | (with_reducible refine w_part ?_) | (with_reducible refine w_pq ?_) | (with_reducible refine w_revL ?_) | (with_reducible refine w_revS ?_)
  | (with_reducible refine w_cb ?_) | (with_reducible refine w_min2 ?_) | (with_reducible refine w_max2 ?_) | (with_reducible refine w_intB ?_)
  | (with_reducible refine w_fn ?_) | (with_reducible refine w_me ?_) | (with_reducible refine w_pr ?_) | (with_reducible refine w_mk ?_) | (with_reducible refine w_fld ?_)
  | (with_reducible refine w_isi_ii ?_) | (with_reducible refine w_isi_ib ?_) | (with_reducible refine w_isi_ss ?_)
  | ((with_reducible refine' w_isi_ll ?wh ?_); (case wh => walk_at "lk"))
  | ((with_reducible refine' w_isi_own ?wh ?wq); (case wh => walk_at "isx"))
  | ((with_reducible refine' w_lenL ?wh ?_); (case wh => walk_at "lk")) | ((with_reducible refine' w_ixL ?wh ?wi ?_); (case wh => walk_at "lk"); (case wi => first | assumption | exact rfl)) | ((with_reducible refine' w_ixT ?wh ?wi ?_); (case wh => walk_at "lk"); (case wi => first | assumption | exact rfl))
  | ((with_reducible refine' w_slL ?wh ?_); (case wh => walk_at "lk")) | ((with_reducible refine' w_rvq ?wh ?_); (case wh => walk_at "lk")) | ((with_reducible refine' w_listO ?wh ?_); (case wh => walk_at "lk")) | ((with_reducible refine' w_starL ?wh ?_); (case wh => walk_at "lk"))
  | ((with_reducible refine' w_fq ?wh ?wc ?wn ?wl ?_); (case wh => walk_at "lk"); (case wc => walk_at "sd"); (case wn => walk_at "sd"); (case wl => exact rfl))
  | ((with_reducible refine' w_sum ?wh ?_); (case wh => walk_at "lk"))
  | ((with_reducible refine' w_all ?wh ?_); (case wh => walk_at "lk"))
  | (with_reducible refine w_forL ?_) | ((with_reducible refine' w_forLq ?wh ?_); (case wh => walk_at "lk")) | (with_reducible refine w_forS ?_) | (with_reducible refine w_forSq ?_) | (with_reducible refine w_forR1 ?_) | ((with_reducible refine' w_forR1q ?wh ?_); (case wh => omega)) | (with_reducible refine w_forR2 ?_) | ((with_reducible refine' w_forR2q ?wh ?_); (case wh => omega)) | (with_reducible refine w_forE ?_) | ((with_reducible refine' w_forEq ?wh ?_); (case wh => walk_at "lk"))
  | (with_reducible refine w_lcL ?_) | ((with_reducible refine' w_lcLq ?wh ?_); (case wh => walk_at "lk")) | (with_reducible refine w_lcS ?_) | (with_reducible refine w_lcSq ?_) | (with_reducible refine w_lcR2 ?_) | ((with_reducible refine' w_lcR2q ?wh ?_); (case wh => omega))
  | (with_reducible refine w_bm ?_) | ((with_reducible refine' w_bmq ?wh ?_); (case wh => walk_at "lk")) | (with_reducible refine w_bm0 ?_) | ((with_reducible refine' w_bm0q ?wh ?_); (case wh => walk_at "lk"))
  | ((with_reducible refine' w_getL ?wh ?wi ?_); (case wh => walk_at "lk"); (case wi => first | assumption | exact rfl)) | (with_reducible refine w_gSub ?_) | (with_reducible refine w_augS ?_)
  | ((with_reducible refine' w_gTup ?wh ?wl ?_); (case wh => walk_at "lk"); (case wl => exact rfl)) | (with_reducible refine w_gCons ?_) | (with_reducible refine w_gNil ?_)
  | (with_reducible refine w_parT ?_) | (with_reducible refine w_parq ?_) | (with_reducible refine w_par3T ?_) | (with_reducible refine w_par3q ?_) | (with_reducible refine w_sfld ?_) | (with_reducible refine w_ob ?_) | (with_reducible refine w_obq ?_)
  | ((with_reducible refine' w_sfq ?wh ?wc ?wn ?wl ?wq); (case wh => walk_at "lk"); (case wc => walk_at "sd"); (case wn => walk_at "sd"); (case wl => exact Nat.le_of_ble_eq_true rfl))
  | ((with_reducible refine' w_rI ?wh ?wq); (case wh => first | decide | exact ⟨by decide, by decide⟩)) | (with_reducible refine w_pairsC ?_) | (with_reducible refine w_pairsN ?_) | ((with_reducible refine' w_cat ?wh ?wk ?wl ?wq); (case wh => walk_at "lk"); (case wk => walk_at "lk"); (case wl => walk_at "sz"))
  | ((with_reducible refine' w_mqRow ?wh ?wl ?wk ?wq); (case wh => walk_at "rw"); (case wl => exact rfl); (case wk => exact rfl))
  | ((with_reducible refine' w_mq ?wh ?wl ?wq); (case wh => walk_at "lk"); (case wl => exact rfl))
  | ((with_reducible refine' w_wipe ?wh ?wq); (case wh => exact rfl)) | (with_reducible refine w_yesT ?_)
  | (with_reducible refine w_isNumber ?_) | (with_reducible refine w_isCount ?_) | (with_reducible refine w_isColour ?_) | (with_reducible refine w_checkGame ?_) | (with_reducible refine w_checkGoal ?_) | (with_reducible refine w_checkWords ?_)
  | (with_reducible refine iteT ?_) | (with_reducible refine iteF ?_) | ((with_reducible refine' w_yes ?wh ?_); (case wh => exact rfl)) | ((with_reducible refine' w_no ?wh ?_); (case wh => exact rfl)))
local macro_rules | `(tactic| walk_at "sz") => `(tactic| first | (refine sz_le ?_; first | assumption | (simp only [List.length_map, List.length_append, List.length_cons, List.length_nil]; omega) | omega) | (refine sz_lt ?_; first | assumption | (simp only [List.length_map, List.length_append, List.length_cons, List.length_nil]; omega) | omega))
local macro_rules | `(tactic| walk_at "go") => `(tactic| repeat (walk_at "w"))
local macro_rules | `(tactic| walk_at "bt") => `(tactic| first | exact rfl | assumption | (simp [*]; done) | (simp; omega) | (simp [*]; omega))
local macro_rules | `(tactic| walk_at "yes") => `(tactic| ((with_reducible refine' w_yes ?wh ?wq); (case wh => walk_at "bt"); walk_at "go"))
local macro_rules | `(tactic| walk_at "no") => `(tactic| ((with_reducible refine' w_no ?wh ?wq); (case wh => walk_at "bt"); walk_at "go"))
local macro_rules | `(tactic| walk_at "st") => `(tactic| ((try dsimp only [L2.cxOf, L2.Cx.nox, L2.Cx.wish]); walk_at "go"))
local macro_rules | `(tactic| walk_at "rw") => `(tactic| first | assumption | ((with_reducible refine' IsRow.rw ?wk); (case wk => walk_at "rw")) | ((with_reducible refine' IsRw.ex (by assumption) ?wk); (case wk => walk_at "rw")) | ((with_reducible refine' IsRow.ex (by assumption) ?wk); (case wk => walk_at "rw")))
local macro_rules | `(tactic| walk_at "ro") => `(tactic| first | assumption | ((with_reducible refine' IsRow.ex (by assumption) ?wk); (case wk => walk_at "ro")))
local macro_rules | `(tactic| walk_at "fl") => `(tactic| first | assumption | ((with_reducible refine' IsFlip.ex (by assumption) ?wk); (case wk => walk_at "fl")))
local macro_rules | `(tactic| walk_at "w") => `(tactic| first
  | ((with_reducible refine' w_first ?wh ?wq); (case wh => walk_at "rw")) | ((with_reducible refine' w_runs ?wh ?wq); (case wh => walk_at "rw")) | ((with_reducible refine' w_length ?wh ?wq); (case wh => walk_at "rw")) | ((with_reducible refine' w_lengths ?wh ?wq); (case wh => walk_at "rw")))
local macro_rules | `(tactic| walk_at "w") => `(tactic| first
  | ((with_reducible refine' w_start ?wh ?wq); (case wh => walk_at "fl")) | ((with_reducible refine' w_end ?wh ?wq); (case wh => walk_at "fl")))
local macro_rules | `(tactic| walk_at "w") => `(tactic| first | (with_reducible refine w_dget ?_))
def isBest (n c : Int) (g : Gm) (o : Go) (k : Kd) : Bool := decide (0 < numK n k) && decide (plainC (aftK n c k).1 (aftK n c k).2 g o < plainC n c g o)
def bestF (n c : Int) (g : Gm) (o : Go) (F : List Kd) (k : Kd) : List Kd := if isBest n c g o k then F ++ [k] else F
def bestK (n c : Int) (g : Gm) (o : Go) : List Kd := (kindsG g).foldl (bestF n c g o) []
theorem numGet (n : Int) (k : Kd) {H : Hp} {p : Addr} (h : H p = some (.dK (numD n))) : DGet H p (.str k.s) (some (.int (numK n k))) := by
  have := DGet.k (k := Sum.inr k.s) h
  cases k <;> exact this
def spBest : Sp := fun vs H Q _ => ∃ (n c : Int) (g : Gm) (o : Go), vs = [.int n, .int c, .str g.s, .str o.s] ∧ n.natAbs ≤ 1000 ∧ ∀ p H', Ex H H' → H p = none → H' p = some (.lst ((bestK n c g o).map fun k => V.str k.s)) → Q (.ref p) H'
theorem sc_best_kinds : FnScope ["runs", "first", "game", "goal", "before", "found", "kind", "later", "colour"] ["runs", "first", "game", "goal"] (defScope (top 42)) := ⟨rfl, rfl, rfl, by decide +kernel, rfl, by decide +kernel, by decide +kernel⟩
theorem ok_best_kinds {P : Program} {w : World} {K : PySem.W.Frag} {mg : Str → Option Value} {base : Heap} (T : Tx P K mg) : Ok P w K mg base 3 (He.ga K "best_kinds") (spBest) := by
  refine ok_mk T.d_best_kinds sc_best_kinds (fun vs H Q E h => ?len) (fun _ _ _ _ _ _ us hl => match us, hl with | [_, _, _, _], _ => rfl) (fun cdv A outer s H vs Q E hr h => ⟨_, (pss_cons (ps_set (i := 4) sc_best_kinds.nd rfl (.inl rfl) (pe_fn (ok_plain_cost T) hr T.g_plain_cost (pa_cons (pv 0) (pa_cons (pv 1) (pa_cons (pv 2) (pa_cons (pv 3) pa_nil)))))) (pss_cons (ps_set (i := 5) sc_best_kinds.nd rfl (.inl rfl) (pe_lst pa_nil)) (pss_cons (ps_for PassesOwn.never rfl (pi_list (pe_fn (ok_kinds_of_game T) hr T.g_kinds_of_game (pa_cons (pv 2) pa_nil))) (pg_name (i := 6) sc_best_kinds.nd rfl (Or.inl rfl)) (pss_one (ps_if (pt_cmpR op_gt (pe_dget (hu_of hr) (pe_fn (ok_numbers_by_kind T) hr T.g_numbers_by_kind (pa_cons (pv 0) pa_nil)) (pv 6) (fun _ _ => rfl)) pe_int (nomark _)) (pss_cons (ps_asg (pe_fn (ok_state_after T) hr T.g_state_after (pa_cons (pv 0) (pa_cons (pv 1) (pa_cons (pv 6) pa_nil)))) (pg_tup rfl (pgs_cons (pg_name (i := 7) sc_best_kinds.nd rfl (Or.inl rfl)) (pgs_cons (pg_name (i := 8) sc_best_kinds.nd rfl (Or.inl rfl)) pgs_nil)))) (pss_one (ps_if (pt_cmpR op_lt (pe_fn (ok_plain_cost T) hr T.g_plain_cost (pa_cons (pv 7) (pa_cons (pv 8) (pa_cons (pv 2) (pa_cons (pv 3) pa_nil))))) (pv 4) (nomark _)) (pss_one (ps_expr (pe_bm PySem.F.plainAttrs_list PySem.F.slot_list_append PySem.F.type_list_append mt_append (pv 5) (pa_cons (pv 6) pa_nil)))) pss_nil))) pss_nil))) (pss_one (ps_ret (pv 5)))))), ?body⟩)
  case len => obtain ⟨n, c, g, o, rfl, _⟩ := h; rfl
  case body =>
    obtain ⟨n, c, g, o, rfl, zn, q⟩ := h
    walk_at "st"
    refine w_plain ?_
    walk_at "go"
    refine w_newA (by show (0 : Nat) ≤ sizeLine; decide) fun L H3 e3 n3 h5 => ?_
    walk_at "go"
    refine ⟨g, rfl, fun p4 H4 e4 h6 => ?_⟩
    walk_at "go"
    refine w_forW (walk_list (xs := (kindsG g).map fun k => V.str k.s)) (fun i σ' H' => ∃ x1 x2 x3, σ' = [some (.int n), some (.int c), some (.str g.s), some (.str o.s), some (.int (plainC n c g o)), some (.ref L), x1, x2, x3] ∧ Ex H H' ∧ H' p4 = some (.lst ((kindsG g).map fun k => V.str k.s)) ∧
      H' L = some (.lst ((((kindsG g).take i).foldl (bestF n c g o) []).map fun k => V.str k.s)) ∧ (((kindsG g).take i).foldl (bestF n c g o) []).length ≤ i ∧ p4 ≠ L) ?i0 ?iG ?is ?id
    case i0 => exact ⟨none, none, none, rfl, e3.trans e4, h6, e4 _ _ h5, Nat.le_refl _, fun z => by rw [z] at h6; rw [e4 _ _ h5] at h6; cases g <;> cases h6⟩
    case iG =>
      rintro i σ' H' _ ⟨x1, x2, x3, _, _, h7, _⟩
      exact sl_of h7
    case is =>
      rintro i x σ' H' H'' hi ⟨x1, x2, x3, rfl, e5, hk, h7, z7, ne⟩ ⟨rfl, hx⟩
      obtain ⟨m, hm, rfl⟩ := map_at hx
      have ef := take_fold (f := bestF n c g o) (b := []) hm
      generalize ((kindsG g).take i).foldl (bestF n c g o) [] = S0 at *
      rw [ef]
      have zi : i < 4 := by
        rw [List.length_map] at hi
        cases g <;> (simp [kindsG] at hi; omega)
      walk_at "go"
      refine ⟨n, rfl, zn, fun p5 H5 e7 n5 h8 => ?_⟩
      walk_at "go"
      refine ⟨p5, _, rfl, numGet n m h8, ?_⟩
      walk_at "go"
      refine w_ite (fun e => ?_) (fun e => ?_)
      · have hpos := of_decide_eq_true e
        walk_at "go"
        refine ⟨n, c, m, rfl, fun p6 H6 e8 h9 => ?_⟩
        walk_at "go"
        refine w_plain ?_
        walk_at "go"
        have e9 := e7.trans e8
        refine w_ite (fun e => ?_) (fun e => ?_)
        · have hb : isBest n c g o m = true := by unfold isBest; rw [decide_eq_true hpos, e]; rfl
          have e6 : bestF n c g o S0 m = S0 ++ [m] := by unfold bestF; rw [if_pos hb]
          rw [e6]
          walk_at "go"
          refine w_apq (e9 _ _ h7) (by rw [List.length_map]; omega) fun H7 m7 h10 => ?_
          walk_at "go"
          refine ⟨_, _, _, rfl, m7 H (e5.trans e9) n3, mu_at m7 (e9 _ _ hk) ne, ?_, ?_, ne⟩
          · rw [h10, List.map_append]
            rfl
          · rw [List.length_append, List.length_singleton]
            omega
        · have hb : isBest n c g o m = false := by unfold isBest; rw [e]; simp
          have e6 : bestF n c g o S0 m = S0 := by unfold bestF; rw [hb]; rfl
          rw [e6]
          walk_at "go"
          exact ⟨_, _, _, rfl, e5.trans e9, e9 _ _ hk, e9 _ _ h7, by omega, ne⟩
      · have hpos := of_decide_eq_false e
        have hb : isBest n c g o m = false := by unfold isBest; rw [decide_eq_false hpos]; rfl
        have e6 : bestF n c g o S0 m = S0 := by unfold bestF; rw [hb]; rfl
        rw [e6]
        walk_at "go"
        exact ⟨_, _, _, rfl, e5.trans e7, e7 _ _ hk, e7 _ _ h7, by omega, ne⟩
    case id =>
      rintro σ' H' ⟨x1, x2, x3, rfl, e5, hk, h7, z7, ne⟩
      rw [List.length_map, List.take_length] at h7
      walk_at "go"
      exact q L H' e5 n3 h7
/-- the borders of the first flip of a kind -/
def ffW (B : List Int) (n : Nat) : Kd → Option (Int × Int)
  | .left => (B[2]?).map fun b => (0, b)
  | .right => match B[n - (n - 1) / 2 * 2]?, B[n]? with
    | some a, some b => some (a, b)
    | _, _ => none
  | .inner => match B[1]?, B[3]? with
    | some a, some b => some (a, b)
    | _, _ => none
  | .whole => (B[n]?).map fun b => (0, b)
def spFirstFlip (K : PySem.W.Frag) : Sp := fun vs H Q _ => ∃ (r : Addr) (c : Int) (l : List Int) (k : Kd) (a b : Int), vs = [.ref r, .str k.s] ∧ IsRw K H r c l ∧ l.length ≤ 1000 ∧ 1 ≤ l.length ∧ ffW (bordersL l) l.length k = some (a, b) ∧
  ∀ p H', Ex H H' → H p = none → H' p = some (.tup [.int a, .int b]) → Q (.ref p) H'
theorem sc_first_flip : FnScope ["row", "kind", "borders", "runs"] ["row", "kind"] (defScope (top 44)) := ⟨rfl, rfl, rfl, by decide +kernel, rfl, by decide +kernel, by decide +kernel⟩
theorem ok_first_flip {P : Program} {w : World} {K : PySem.W.Frag} {mg : Str → Option Value} {base : Heap} (T : Tx P K mg) : Ok P w K mg base 3 (He.ga K "first_flip") (spFirstFlip K) := by
  refine ok_mk T.d_first_flip sc_first_flip (fun vs H Q E h => ?len) (fun _ _ _ _ _ _ us hl => match us, hl with | [_, _], _ => rfl) (fun cdv A outer s H vs Q E hr h => ⟨_, (pss_cons (ps_par (i := 2) (j := 3) (by rfl) sc_first_flip.nd rfl rfl (by decide) rfl rfl (pa_cons (pe_me0 T.c_Row T.m_Row_borders (ok_Row_borders T) hr (pv 0)) (pa_cons (pe_pr T.c_Row T.p_Row_runs (ok_Row_runs T) hr (pv 0)) pa_nil)) (by rfl)) (pss_one (ps_match (pv 1) (pm_str (pss_one (ps_ret (pe_tup (pa_cons pe_int (pa_cons (pe_ix ix_list (pv 2) pe_int (fun _ _ => rfl)) pa_nil))))) (pm_str (pss_one (ps_ret (pe_tup (pa_cons (pe_ix ix_list (pv 2) (pe_op op_sub (pv 3) (pe_op op_mul (pe_op op_fdivN (pe_op op_sub (pv 3) pe_int) pe_int) pe_int)) (fun _ _ => rfl)) (pa_cons (pe_ix ix_list (pv 2) (pv 3) (fun _ _ => rfl)) pa_nil))))) (pm_str (pss_one (ps_ret (pe_tup (pa_cons (pe_ix ix_list (pv 2) pe_int (fun _ _ => rfl)) (pa_cons (pe_ix ix_list (pv 2) pe_int (fun _ _ => rfl)) pa_nil))))) (pm_rest (pss_one (ps_ret (pe_tup (pa_cons pe_int (pa_cons (pe_ix ix_list (pv 2) (pv 3) (fun _ _ => rfl)) pa_nil)))))))))))), ?body⟩)
  case len => obtain ⟨r, c, l, k, a, b, rfl, _⟩ := h; rfl
  case body =>
    obtain ⟨r, c, l, k, a, b, rfl, hr0, zl, z1, hf, q⟩ := h
    walk_at "st"
    refine ⟨r, c, l, rfl, hr0, zl, fun p1 H1 e1 n1 h1 => ?_⟩
    walk_at "go"
    have hb : ∀ (i : Int) (j : Nat) (y : Int), i = (j : Int) → (bordersL l)[j]? = some y → atI ((bordersL l).map V.int) i = some (.int y) := fun i j y e h => at_nat (by rw [List.getElem?_map, h]; rfl) e
    have fin : ∀ {E2 : Ends} {σ : L2.St} {H2 : Hp} {x y : Int}, Ex H H2 → x = a → y = b → (∀ v H', E2.rt v H' = Q v H') → [V.int x, V.int y].length ≤ sizeLine ∧ NewQ (.tup [.int x, .int y]) E2.rt H2 := fun {E2 σ H2 x y} e hx hy hE => by
      subst hx hy
      exact w_newA (by show (2 : Nat) ≤ sizeLine; decide) fun p2 H3 e3 n3 h3 => by rw [hE]; exact q p2 H3 (e.trans e3) (fr_back e n3) h3
    cases k with
    | left =>
      unfold ffW at hf
      cases hy : (bordersL l)[2]? with
      | none => rw [hy] at hf; cases hf
      | some y =>
        rw [hy] at hf
        cases hf
        walk_at "go"
        refine w_ixL (K := K) (sl_of h1) (hb 2 2 _ rfl hy) ?_
        walk_at "go"
        exact fin (σ := []) e1 rfl rfl fun _ _ => rfl
    | right =>
      unfold ffW at hf
      cases hx : (bordersL l)[l.length - (l.length - 1) / 2 * 2]? with
      | none => rw [hx] at hf; cases hf
      | some x =>
        cases hy : (bordersL l)[l.length]? with
        | none => rw [hx, hy] at hf; cases hf
        | some y =>
          rw [hx, hy] at hf
          cases hf
          walk_at "go"
          refine w_rI ?_ ?_
          · rw [Int.fdiv_eq_ediv_of_nonneg _ (by decide)]
            exact .inl ⟨by omega, by omega⟩
          walk_at "go"
          refine w_ixL (K := K) (sl_of h1) (hb _ _ _ ?_ hx) ?_
          · rw [Int.fdiv_eq_ediv_of_nonneg _ (by decide)]
            omega
          walk_at "go"
          refine w_ixL (K := K) (sl_of h1) (hb _ _ _ rfl hy) ?_
          walk_at "go"
          exact fin (σ := []) e1 rfl rfl fun _ _ => rfl
    | inner =>
      unfold ffW at hf
      cases hx : (bordersL l)[1]? with
      | none => rw [hx] at hf; cases hf
      | some x =>
        cases hy : (bordersL l)[3]? with
        | none => rw [hx, hy] at hf; cases hf
        | some y =>
          rw [hx, hy] at hf
          cases hf
          walk_at "go"
          refine w_ixL (K := K) (sl_of h1) (hb 1 1 _ rfl hx) ?_
          walk_at "go"
          refine w_ixL (K := K) (sl_of h1) (hb 3 3 _ rfl hy) ?_
          walk_at "go"
          exact fin (σ := []) e1 rfl rfl fun _ _ => rfl
    | whole =>
      unfold ffW at hf
      cases hy : (bordersL l)[l.length]? with
      | none => rw [hy] at hf; cases hf
      | some y =>
        rw [hy] at hf
        cases hf
        walk_at "go"
        refine w_ixL (K := K) (sl_of h1) (hb _ _ _ rfl hy) ?_
        walk_at "go"
        exact fin (σ := []) e1 rfl rfl fun _ _ => rfl
end Tcf

set_option Elab.async false
set_option linter.all false
set_option maxRecDepth 100000
set_option maxHeartbeats 4000000
/-! DJ: tables, what they tell (printed from DJ.tmpl by gen_der.py). -/
namespace Tcf
open PySem PySem.Spec PyProof.Rows L2
open Evl (Ex)
set_option hygiene false in
local macro_rules | `(tactic| walk_at "lkT") => `(tactic| first | (with_reducible exact T.l_GAMES _) | (with_reducible exact T.l_GOALS _))
set_option hygiene false in
local macro_rules | `(tactic| walk_at "isx") => `(tactic| first | (with_reducible exact T.is_Row (by walk_at "lk")) | (with_reducible exact T.is_Flip (by walk_at "lk")) | (with_reducible exact T.is_Table (by walk_at "lk")))
local macro_rules | `(tactic| walk_at "lk") => `(tactic| first
  | assumption
  | walk_at "lkT"
  | ((with_reducible refine' ex_at (by assumption) ?wk); (case wk => walk_at "lk"))
  | ((with_reducible refine' sl_of ?wk); (case wk => walk_at "lk"))
  | ((with_reducible refine' st_of ?wk); (case wk => walk_at "lk"))
  | ((with_reducible refine' ex_l (by assumption) ?wk); (case wk => walk_at "lk"))
  | ((with_reducible refine' ex_t (by assumption) ?wk); (case wk => walk_at "lk"))
  | ((with_reducible refine' mu_at (by assumption) ?wk ?wn); (case wk => walk_at "lk"); (case wn => assumption)))
set_option hygiene false in
local macro_rules | `(tactic| walk_at "sd") => `(tactic| first
  | exact rfl | assumption | (with_reducible exact T.c_Row) | (with_reducible exact T.c_Flip) | (with_reducible exact T.c_Table) | (with_reducible exact T.c_Trial)
  | (with_reducible exact T.n_Row_colour) | (with_reducible exact T.n_Row_sizes) | (with_reducible exact T.n_Flip_begin) | (with_reducible exact T.n_Flip_finish) | (with_reducible exact T.n_Trial_home) | (with_reducible exact T.n_Trial_kept)
  | (with_reducible exact T.n_Table_beginning) | (with_reducible exact T.n_Table_words) | (with_reducible exact T.n_Table_state))
local macro_rules | `(tactic| walk_at "w") => `(tactic| first
  | (with_reducible refine w_seq ?_) | (with_reducible refine w_asg ?_) | (with_reducible refine w_gName ?_) | (with_reducible refine w_ret ?_) | (with_reducible refine w_ifS ?_) | (with_reducible refine w_drop ?_) | (with_reducible refine w_next ?_)
  | ((with_reducible refine' w_aug ?wh ?_); (case wh => exact rfl)) | (with_reducible refine w_match ?_) | (with_reducible refine w_case ?_)
  | ((with_reducible refine' w_var ?wh ?_); (case wh => exact rfl))
  | (with_reducible refine w_c ?_) | (with_reducible refine w_op ?_) | (with_reducible refine w_un ?_) | (with_reducible refine w_nil ?_) | (with_reducible refine w_cons ?_) | (with_reducible refine w_star ?_) | (with_reducible refine w_tup ?_) | (with_reducible refine w_lst ?_)
  | (with_reducible refine w_if ?_) | (with_reducible refine w_and ?_) | (with_reducible refine w_or ?_) | (with_reducible refine w_not ?_) | (with_reducible refine w_bq ?_) | (with_reducible refine w_B ?_) | (with_reducible refine w_test ?_) | (with_reducible refine w_andV ?_) | (with_reducible refine w_orV ?_) | (with_reducible refine w_notV ?_)
  | (with_reducible refine w_chain ?_) | (with_reducible refine w_rI0 ?_) | (with_reducible refine w_rU ?_) | (with_reducible refine w_ipI ?_)
  | (with_reducible refine w_eqI ?_) | (with_reducible refine w_neI ?_) | (with_reducible refine w_eqS ?_) | (with_reducible refine w_neS ?_) | (with_reducible refine w_eqB ?_) | (with_reducible refine w_neB ?_) | (with_reducible refine w_isNr ?_) | (with_reducible refine w_isNn ?_)
  | (with_reducible refine w_sl ?_) | (with_reducible refine w_noPart ?_) | (with_reducible refine w_part ?_) | (with_reducible refine w_pq ?_) | (with_reducible refine w_revL ?_) | (with_reducible refine w_revS ?_)
  | (with_reducible refine w_cb ?_) | (with_reducible refine w_min2 ?_) | (with_reducible refine w_max2 ?_) | (with_reducible refine w_intB ?_)
  | (with_reducible refine w_fn ?_) | (with_reducible refine w_me ?_) | (with_reducible refine w_pr ?_) | (with_reducible refine w_mk ?_) | (with_reducible refine w_fld ?_)
  | (with_reducible refine w_isi_ii ?_) | (with_reducible refine w_isi_ib ?_) | (with_reducible refine w_isi_ss ?_)
  | ((with_reducible refine' w_isi_ll ?wh ?_); (case wh => walk_at "lk"))
  | ((with_reducible refine' w_isi_own ?wh ?wq); (case wh => walk_at "isx"))
  | ((with_reducible refine' w_lenL ?wh ?_); (case wh => walk_at "lk")) | ((with_reducible refine' w_ixL ?wh ?wi ?_); (case wh => walk_at "lk"); (case wi => first | assumption | exact rfl)) | ((with_reducible refine' w_ixT ?wh ?wi ?_); (case wh => walk_at "lk"); (case wi => first | assumption | exact rfl))
  | ((with_reducible refine' w_slL ?wh ?_); (case wh => walk_at "lk")) | ((with_reducible refine' w_rvq ?wh ?_); (case wh => walk_at "lk")) | ((with_reducible refine' w_listO ?wh ?_); (case wh => walk_at "lk")) | ((with_reducible refine' w_starL ?wh ?_); (case wh => walk_at "lk"))
  | ((with_reducible refine' w_fq ?wh ?wc ?wn ?wl ?_); (case wh => walk_at "lk"); (case wc => walk_at "sd"); (case wn => walk_at "sd"); (case wl => exact rfl))
  | ((with_reducible refine' w_sum ?wh ?_); (case wh => walk_at "lk"))
  | ((with_reducible refine' w_all ?wh ?_); (case wh => walk_at "lk"))
  | (with_reducible refine w_forL ?_) | ((with_reducible refine' w_forLq ?wh ?_); (case wh => walk_at "lk")) | (with_reducible refine w_forS ?_) | (with_reducible refine w_forSq ?_) | (with_reducible refine w_forR1 ?_) | ((with_reducible refine' w_forR1q ?wh ?_); (case wh => omega)) | (with_reducible refine w_forR2 ?_) | ((with_reducible refine' w_forR2q ?wh ?_); (case wh => omega)) | (with_reducible refine w_forE ?_) | ((with_reducible refine' w_forEq ?wh ?_); (case wh => walk_at "lk"))
  | (with_reducible refine w_lcL ?_) | ((with_reducible refine' w_lcLq ?wh ?_); (case wh => walk_at "lk")) | (with_reducible refine w_lcS ?_) | (with_reducible refine w_lcSq ?_) | (with_reducible refine w_lcR2 ?_) | ((with_reducible refine' w_lcR2q ?wh ?_); (case wh => omega))
  | (with_reducible refine w_bm ?_) | ((with_reducible refine' w_bmq ?wh ?_); (case wh => walk_at "lk")) | (with_reducible refine w_bm0 ?_) | ((with_reducible refine' w_bm0q ?wh ?_); (case wh => walk_at "lk"))
  | ((with_reducible refine' w_getL ?wh ?wi ?_); (case wh => walk_at "lk"); (case wi => first | assumption | exact rfl)) | (with_reducible refine w_gSub ?_) | (with_reducible refine w_augS ?_)
  | ((with_reducible refine' w_gTup ?wh ?wl ?_); (case wh => walk_at "lk"); (case wl => exact rfl)) | (with_reducible refine w_gCons ?_) | (with_reducible refine w_gNil ?_)
  | (with_reducible refine w_parT ?_) | (with_reducible refine w_parq ?_) | (with_reducible refine w_par3T ?_) | (with_reducible refine w_par3q ?_) | (with_reducible refine w_sfld ?_) | (with_reducible refine w_ob ?_) | (with_reducible refine w_obq ?_)
  | ((with_reducible refine' w_sfq ?wh ?wc ?wn ?wl ?wq); (case wh => walk_at "lk"); (case wc => walk_at "sd"); (case wn => walk_at "sd"); (case wl => exact Nat.le_of_ble_eq_true rfl))
  | ((with_reducible refine' w_rI ?wh ?wq); (case wh => first | decide | exact ⟨by decide, by decide⟩)) | (with_reducible refine w_pairsC ?_) | (with_reducible refine w_pairsN ?_) | ((with_reducible refine' w_cat ?wh ?wk ?wl ?wq); (case wh => walk_at "lk"); (case wk => walk_at "lk"); (case wl => walk_at "sz"))
  | ((with_reducible refine' w_mqRow ?wh ?wl ?wk ?wq); (case wh => walk_at "rw"); (case wl => exact rfl); (case wk => exact rfl))
  | ((with_reducible refine' w_mq ?wh ?wl ?wq); (case wh => walk_at "lk"); (case wl => exact rfl))
  | ((with_reducible refine' w_wipe ?wh ?wq); (case wh => exact rfl)) | (with_reducible refine w_yesT ?_)
  | (with_reducible refine w_isNumber ?_) | (with_reducible refine w_isCount ?_) | (with_reducible refine w_isColour ?_) | (with_reducible refine w_checkGame ?_) | (with_reducible refine w_checkGoal ?_) | (with_reducible refine w_checkWords ?_)
  | (with_reducible refine iteT ?_) | (with_reducible refine iteF ?_) | ((with_reducible refine' w_yes ?wh ?_); (case wh => exact rfl)) | ((with_reducible refine' w_no ?wh ?_); (case wh => exact rfl)))
local macro_rules | `(tactic| walk_at "sz") => `(tactic| first | (refine sz_le ?_; first | assumption | (simp only [List.length_map, List.length_append, List.length_cons, List.length_nil]; omega) | omega) | (refine sz_lt ?_; first | assumption | (simp only [List.length_map, List.length_append, List.length_cons, List.length_nil]; omega) | omega))
local macro_rules | `(tactic| walk_at "go") => `(tactic| repeat (walk_at "w"))
local macro_rules | `(tactic| walk_at "bt") => `(tactic| first | exact rfl | assumption | (simp [*]; done) | (simp; omega) | (simp [*]; omega))
local macro_rules | `(tactic| walk_at "yes") => `(tactic| ((with_reducible refine' w_yes ?wh ?wq); (case wh => walk_at "bt"); walk_at "go"))
local macro_rules | `(tactic| walk_at "no") => `(tactic| ((with_reducible refine' w_no ?wh ?wq); (case wh => walk_at "bt"); walk_at "go"))
local macro_rules | `(tactic| walk_at "st") => `(tactic| ((try dsimp only [L2.cxOf, L2.Cx.nox, L2.Cx.wish]); walk_at "go"))
local macro_rules | `(tactic| walk_at "rw") => `(tactic| first | assumption | ((with_reducible refine' IsRow.rw ?wk); (case wk => walk_at "rw")) | ((with_reducible refine' IsRw.ex (by assumption) ?wk); (case wk => walk_at "rw")) | ((with_reducible refine' IsRow.ex (by assumption) ?wk); (case wk => walk_at "rw")))
local macro_rules | `(tactic| walk_at "ro") => `(tactic| first | assumption | ((with_reducible refine' IsRow.ex (by assumption) ?wk); (case wk => walk_at "ro")))
local macro_rules | `(tactic| walk_at "fl") => `(tactic| first | assumption | ((with_reducible refine' IsFlip.ex (by assumption) ?wk); (case wk => walk_at "fl")))
local macro_rules | `(tactic| walk_at "w") => `(tactic| first
  | ((with_reducible refine' w_first ?wh ?wq); (case wh => walk_at "rw")) | ((with_reducible refine' w_runs ?wh ?wq); (case wh => walk_at "rw")) | ((with_reducible refine' w_length ?wh ?wq); (case wh => walk_at "rw")) | ((with_reducible refine' w_lengths ?wh ?wq); (case wh => walk_at "rw")))
local macro_rules | `(tactic| walk_at "w") => `(tactic| first
  | ((with_reducible refine' w_start ?wh ?wq); (case wh => walk_at "fl")) | ((with_reducible refine' w_end ?wh ?wq); (case wh => walk_at "fl")))
local macro_rules | `(tactic| walk_at "w") => `(tactic| first | (with_reducible refine w_dget ?_))
abbrev Pl := Nat × Nat
def FlipsAt (K : PySem.W.Frag) (H : Hp) (fs : List Addr) (ps : List Pl) : Prop := Paired (fun f (p : Pl) => IsFlip K H f p.1 p.2) fs ps
theorem FlipsAt.ex {K : PySem.W.Frag} {H H' : Hp} {fs : List Addr} {ps : List Pl} (e : Ex H H') (h : FlipsAt K H fs ps) : FlipsAt K H' fs ps := paired_mono (fun _ _ k => k.ex e) h
/-- the first row and the words -/
structure BgAt (K : PySem.W.Frag) (H : Hp) (r0 wt : Addr) (u0 : Wd) (g : Gm) (o : Go) : Prop where
  row : IsRow K H r0 u0
  wds : H wt = some (.tup [.str g.s, .str o.s])
/-- a state: the row, the flips done and undone -/
structure StAt (K : PySem.W.Frag) (H : Hp) (st r dl ul : Addr) (dfs ufs : List Addr) (u : Wd) (ds us : List Pl) : Prop where
  tup : H st = some (.tup [.ref r, .ref dl, .ref ul])
  row : IsRow K H r u
  don : H dl = some (.lst (dfs.map V.ref))
  und : H ul = some (.lst (ufs.map V.ref))
  dF : FlipsAt K H dfs ds
  uF : FlipsAt K H ufs us
theorem BgAt.ex {K : PySem.W.Frag} {H H' : Hp} {r0 wt : Addr} {u0 : Wd} {g : Gm} {o : Go} (e : Ex H H') (h : BgAt K H r0 wt u0 g o) : BgAt K H' r0 wt u0 g o := ⟨h.row.ex e, e _ _ h.wds⟩
theorem StAt.ex {K : PySem.W.Frag} {H H' : Hp} {st r dl ul : Addr} {dfs ufs : List Addr} {u : Wd} {ds us : List Pl} (e : Ex H H') (h : StAt K H st r dl ul dfs ufs u ds us) : StAt K H' st r dl ul dfs ufs u ds us :=
  ⟨e _ _ h.tup, h.row.ex e, e _ _ h.don, e _ _ h.und, h.dF.ex e, h.uF.ex e⟩
def tabF (r0 wt st : Addr) : List (Str × V) := [("beginning", .ref r0), ("words", .ref wt), ("state", .ref st)]
/-- the table's own object -/
def TabO (K : PySem.W.Frag) (H : Hp) (t r0 wt st : Addr) : Prop := ∃ dx, H t = some (.ins (He.ga K "Table") dx (tabF r0 wt st))
theorem TabO.ex {K : PySem.W.Frag} {H H' : Hp} {t r0 wt st : Addr} (e : Ex H H') (h : TabO K H t r0 wt st) : TabO K H' t r0 wt st := by
  obtain ⟨dx, h⟩ := h
  exact ⟨dx, e _ _ h⟩
def spTabInit (K : PySem.W.Frag) : Sp := fun vs H Q _ => ∃ (t dx r0 : Addr) (u0 : Wd) (g : Gm) (o : Go), vs = [.ref t, .ref r0, .str g.s, .str o.s] ∧ H t = some (.ins (He.ga K "Table") dx []) ∧ IsRow K H r0 u0 ∧
  ∀ H' wt st dl ul, Mu t H H' → TabO K H' t r0 wt st → (∀ G, Ex G H → G t = none → IsRow K G r0 u0 → BgAt K H' r0 wt u0 g o ∧ StAt K H' st r0 dl ul [] [] u0 [] []) → Q .non H'
theorem sc_Table_dinitd : FnScope ["self", "row", "game", "goal"] ["self", "row", "game", "goal"] (defScope (inClass (top 46) 0)) := ⟨rfl, rfl, rfl, by decide +kernel, rfl, by decide +kernel, by decide +kernel⟩
theorem ok_Table_dinitd {P : Program} {w : World} {K : PySem.W.Frag} {mg : Str → Option Value} {base : Heap} (T : Tx P K mg) : Ok P w K mg base 3 (He.ma K (He.ga K "Table") "__init__") (spTabInit K) := by
  refine ok_mk T.d_Table_dinitd sc_Table_dinitd (fun vs H Q E h => ?len) (fun _ _ _ _ _ _ us hl => match us, hl with | [_, _, _, _], _ => rfl) (fun cdv A outer s H vs Q E hr h => ⟨_, (pss_cons (ps_expr (pe_fn (ok_check_row T) hr T.g_check_row (pa_cons (pv 1) pa_nil))) (pss_cons (ps_expr (pe_fn (ok_check_words T) hr T.g_check_words (pa_cons (pv 2) (pa_cons (pv 3) pa_nil)))) (pss_cons (ps_fld (pv 0) (pv 1) rfl) (pss_cons (ps_fld (pv 0) (pe_tup (pa_cons (pv 2) (pa_cons (pv 3) pa_nil))) rfl) (pss_one (ps_fld (pv 0) (pe_tup (pa_cons (pv 1) (pa_cons (pe_lst pa_nil) (pa_cons (pe_lst pa_nil) pa_nil)))) rfl)))))), ?body⟩)
  case len => obtain ⟨t, dx, r0, u0, g, o, rfl, _⟩ := h; rfl
  case body =>
    obtain ⟨t, dx, r0, u0, g, o, rfl, ht, hr0, q⟩ := h
    walk_at "st"
    refine ⟨r0, _, _, rfl, hr0.2, ?_⟩
    walk_at "go"
    intro H1 m1 h1
    walk_at "go"
    refine w_newA (by show (2 : Nat) ≤ sizeLine; decide) fun wt H2 e2 n2 h2 => ?_
    walk_at "go"
    intro H3 m3 h3
    walk_at "go"
    refine w_newA (by show (0 : Nat) ≤ sizeLine; decide) fun dl H4 e4 n4 h4 => ?_
    walk_at "go"
    refine w_newA (by show (0 : Nat) ≤ sizeLine; decide) fun ul H5 e5 n5 h5 => ?_
    walk_at "go"
    refine w_newA (by show (3 : Nat) ≤ sizeLine; decide) fun st H6 e6 n6 h6 => ?_
    walk_at "go"
    intro H7 m7 h7
    walk_at "go"
    have m3' : Mu t H H3 := (m1.ex e2).trans m3
    have m6' : Mu t H H6 := ((m3'.ex e4).ex e5).ex e6
    have nw : wt ≠ t := fun z => by rw [z, h1] at n2; cases n2
    have nd : dl ≠ t := fun z => by rw [z, h3] at n4; cases n4
    have nu : ul ≠ t := fun z => by rw [z, e4 _ _ h3] at n5; cases n5
    have ns : st ≠ t := fun z => by rw [z, e5 _ _ (e4 _ _ h3)] at n6; cases n6
    refine q H7 wt st dl ul (m6'.trans m7) ⟨dx, h7⟩ fun G eG nG hG => ?_
    have e7 : Ex G H7 := (m6'.trans m7) G eG nG
    refine ⟨⟨hG.ex e7, mu_at m7 (e6 _ _ (e5 _ _ (e4 _ _ (mu_at m3 h2 nw)))) nw⟩, mu_at m7 h6 ns, hG.ex e7, mu_at m7 (e6 _ _ (e5 _ _ h4)) nd, mu_at m7 (e6 _ _ h5) nu, .nil, .nil⟩
/-- Table(r0, g, o) -/
theorem w_mkTab {K : PySem.W.Frag} {H : Hp} {Q : VK} {E : XK} {r0 : Addr} {u0 : Wd} {g : Gm} {o : Go} (hr0 : IsRow K H r0 u0) (q : ∀ t wt st dl ul H2, Ex H H2 → H t = none → TabO K H2 t r0 wt st → BgAt K H2 r0 wt u0 g o → StAt K H2 st r0 dl ul [] [] u0 [] [] → Q (.ref t) H2) :
    MkQ (He.ga K "Table") (spTabInit K) E [.ref r0, .str g.s, .str o.s] Q H := by
  intro x dx nx ndx ne
  have e0 : Ex H (upd (upd H dx (.own x)) x (.ins (He.ga K "Table") dx [])) := (Ex.new ndx).trans (Ex.new (by rw [upd_ne (Ne.symm ne)]; exact nx))
  refine ⟨x, dx, r0, u0, g, o, rfl, upd_same, hr0.ex e0, fun H' wt st dl ul m h1 h2 => ⟨rfl, ?_⟩⟩
  obtain ⟨h3, h4⟩ := h2 H e0 nx hr0
  exact q x wt st dl ul H' (m H e0 nx) nx h1 h3 h4
def spTRow (K : PySem.W.Frag) : Sp := fun vs H Q _ => ∃ t r0 wt st r dl ul, vs = [.ref t] ∧ TabO K H t r0 wt st ∧ H st = some (.tup [.ref r, .ref dl, .ref ul]) ∧ Q (.ref r) H
theorem sc_Table_row : FnScope ["self"] ["self"] (defScope (inClass (top 46) 2)) := ⟨rfl, rfl, rfl, by decide +kernel, rfl, by decide +kernel, by decide +kernel⟩
theorem ok_Table_row {P : Program} {w : World} {K : PySem.W.Frag} {mg : Str → Option Value} {base : Heap} (T : Tx P K mg) : Ok P w K mg base 1 (pgAd K "Table" "row") (spTRow K) := by
  refine ok_mk T.d_Table_row sc_Table_row (fun vs H Q E h => ?len) (fun _ _ _ _ _ _ us hl => match us, hl with | [_], _ => rfl) (fun cdv A outer s H vs Q E hr h => ⟨_, (pss_one (ps_ret (pe_ix ix_tup (pe_fld (pv 0) rfl) pe_int (fun _ _ => rfl)))), ?body⟩)
  case len => obtain ⟨t, r0, wt, st, r, dl, ul, rfl, _⟩ := h; rfl
  case body =>
    obtain ⟨t, r0, wt, st, r, dl, ul, rfl, ⟨dx, ht⟩, hs, q⟩ := h
    walk_at "st"
    exact q
def spTFirst (K : PySem.W.Frag) : Sp := fun vs H Q _ => ∃ t r0 wt st, vs = [.ref t] ∧ TabO K H t r0 wt st ∧ Q (.ref r0) H
theorem sc_Table_first_row : FnScope ["self"] ["self"] (defScope (inClass (top 46) 1)) := ⟨rfl, rfl, rfl, by decide +kernel, rfl, by decide +kernel, by decide +kernel⟩
theorem ok_Table_first_row {P : Program} {w : World} {K : PySem.W.Frag} {mg : Str → Option Value} {base : Heap} (T : Tx P K mg) : Ok P w K mg base 1 (pgAd K "Table" "first_row") (spTFirst K) := by
  refine ok_mk T.d_Table_first_row sc_Table_first_row (fun vs H Q E h => ?len) (fun _ _ _ _ _ _ us hl => match us, hl with | [_], _ => rfl) (fun cdv A outer s H vs Q E hr h => ⟨_, (pss_one (ps_ret (pe_fld (pv 0) rfl))), ?body⟩)
  case len => obtain ⟨t, r0, wt, st, rfl, _⟩ := h; rfl
  case body =>
    obtain ⟨t, r0, wt, st, rfl, ⟨dx, ht⟩, q⟩ := h
    walk_at "st"
    exact q
def spTGame (K : PySem.W.Frag) : Sp := fun vs H Q _ => ∃ t r0 wt st u0 g o, vs = [.ref t] ∧ TabO K H t r0 wt st ∧ BgAt K H r0 wt u0 g o ∧ Q (.str g.s) H
theorem sc_Table_game : FnScope ["self"] ["self"] (defScope (inClass (top 46) 3)) := ⟨rfl, rfl, rfl, by decide +kernel, rfl, by decide +kernel, by decide +kernel⟩
theorem ok_Table_game {P : Program} {w : World} {K : PySem.W.Frag} {mg : Str → Option Value} {base : Heap} (T : Tx P K mg) : Ok P w K mg base 1 (pgAd K "Table" "game") (spTGame K) := by
  refine ok_mk T.d_Table_game sc_Table_game (fun vs H Q E h => ?len) (fun _ _ _ _ _ _ us hl => match us, hl with | [_], _ => rfl) (fun cdv A outer s H vs Q E hr h => ⟨_, (pss_one (ps_ret (pe_ix ix_tup (pe_fld (pv 0) rfl) pe_int (fun _ _ => rfl)))), ?body⟩)
  case len => obtain ⟨t, r0, wt, st, u0, g, o, rfl, _⟩ := h; rfl
  case body =>
    obtain ⟨t, r0, wt, st, u0, g, o, rfl, ⟨dx, ht⟩, hb, q⟩ := h
    have hw := hb.wds
    walk_at "st"
    exact q
def spTFlips (K : PySem.W.Frag) : Sp := fun vs H Q _ => ∃ t r0 wt st r dl ul dfs, vs = [.ref t] ∧ TabO K H t r0 wt st ∧ H st = some (.tup [.ref r, .ref dl, .ref ul]) ∧ H dl = some (.lst (List.map V.ref dfs)) ∧ ∀ p H', Ex H H' → H p = none → H' p = some (.lst (List.map V.ref dfs)) → Q (.ref p) H'
theorem sc_Table_flips : FnScope ["self"] ["self"] (defScope (inClass (top 46) 5)) := ⟨rfl, rfl, rfl, by decide +kernel, rfl, by decide +kernel, by decide +kernel⟩
theorem ok_Table_flips {P : Program} {w : World} {K : PySem.W.Frag} {mg : Str → Option Value} {base : Heap} (T : Tx P K mg) : Ok P w K mg base 1 (pgAd K "Table" "flips") (spTFlips K) := by
  refine ok_mk T.d_Table_flips sc_Table_flips (fun vs H Q E h => ?len) (fun _ _ _ _ _ _ us hl => match us, hl with | [_], _ => rfl) (fun cdv A outer s H vs Q E hr h => ⟨_, (pss_one (ps_ret (pe_callTy cq_listO (by rfl) T.z_list (by decide +kernel) (pa_cons (pe_ix ix_tup (pe_fld (pv 0) rfl) pe_int (fun _ _ => rfl)) pa_nil)))), ?body⟩)
  case len => obtain ⟨t, r0, wt, st, r, dl, ul, dfs, rfl, _⟩ := h; rfl
  case body =>
    obtain ⟨t, r0, wt, st, r, dl, ul, dfs, rfl, ⟨dx, ht⟩, hs, hd, q⟩ := h
    walk_at "st"
    exact w_new q
def spTLen (K : PySem.W.Frag) : Sp := fun vs H Q _ => ∃ t r0 wt st r dl ul dfs, vs = [.ref t] ∧ TabO K H t r0 wt st ∧ H st = some (.tup [.ref r, .ref dl, .ref ul]) ∧ H dl = some (.lst (List.map V.ref dfs)) ∧ Q (.int (dfs.length : Nat)) H
theorem sc_Table_dlend : FnScope ["self"] ["self"] (defScope (inClass (top 46) 6)) := ⟨rfl, rfl, rfl, by decide +kernel, rfl, by decide +kernel, by decide +kernel⟩
theorem ok_Table_dlend {P : Program} {w : World} {K : PySem.W.Frag} {mg : Str → Option Value} {base : Heap} (T : Tx P K mg) : Ok P w K mg base 1 (He.ma K (He.ga K "Table") "__len__") (spTLen K) := by
  refine ok_mk T.d_Table_dlend sc_Table_dlend (fun vs H Q E h => ?len) (fun _ _ _ _ _ _ us hl => match us, hl with | [_], _ => rfl) (fun cdv A outer s H vs Q E hr h => ⟨_, (pss_one (ps_ret (pe_callB cq_lenQ (by rfl) T.z_len (by decide +kernel) (pa_cons (pe_ix ix_tup (pe_fld (pv 0) rfl) pe_int (fun _ _ => rfl)) pa_nil)))), ?body⟩)
  case len => obtain ⟨t, r0, wt, st, r, dl, ul, dfs, rfl, _⟩ := h; rfl
  case body =>
    obtain ⟨t, r0, wt, st, r, dl, ul, dfs, rfl, ⟨dx, ht⟩, hs, hd, q⟩ := h
    walk_at "st"
    rw [List.length_map]
    exact q
def costW (g : Gm) (o : Go) (u : Wd) : Int := plainC (runsW u).length (colW u) g o
def spCostOf (K : PySem.W.Frag) : Sp := fun vs H Q _ => ∃ t r0 wt st u0 g o r u, vs = [.ref t, .ref r] ∧ TabO K H t r0 wt st ∧ BgAt K H r0 wt u0 g o ∧ IsRow K H r u ∧ Q (.int (costW g o u)) H
theorem sc_Table_cost_of : FnScope ["self", "row"] ["self", "row"] (defScope (inClass (top 46) 12)) := ⟨rfl, rfl, rfl, by decide +kernel, rfl, by decide +kernel, by decide +kernel⟩
theorem ok_Table_cost_of {P : Program} {w : World} {K : PySem.W.Frag} {mg : Str → Option Value} {base : Heap} (T : Tx P K mg) : Ok P w K mg base 3 (He.ma K (He.ga K "Table") "cost_of") (spCostOf K) := by
  refine ok_mk T.d_Table_cost_of sc_Table_cost_of (fun vs H Q E h => ?len) (fun _ _ _ _ _ _ us hl => match us, hl with | [_, _], _ => rfl) (fun cdv A outer s H vs Q E hr h => ⟨_, (pss_one (ps_ret (pe_fn (ok_plain_cost T) hr T.g_plain_cost (pa_cons (pe_pr T.c_Row T.p_Row_runs (ok_Row_runs T) hr (pv 1)) (pa_cons (pe_pr T.c_Row T.p_Row_first (ok_Row_first T) hr (pv 1)) (pa_cons (pe_ix ix_tup (pe_fld (pv 0) rfl) pe_int (fun _ _ => rfl)) (pa_cons (pe_ix ix_tup (pe_fld (pv 0) rfl) pe_int (fun _ _ => rfl)) pa_nil))))))), ?body⟩)
  case len => obtain ⟨t, r0, wt, st, u0, g, o, r, u, rfl, _⟩ := h; rfl
  case body =>
    obtain ⟨t, r0, wt, st, u0, g, o, r, u, rfl, ⟨dx, ht⟩, hb, hr0, q⟩ := h
    have hw := hb.wds
    walk_at "st"
    exact w_plain q
def spCost (K : PySem.W.Frag) : Sp := fun vs H Q _ => ∃ t r0 wt st u0 g o r dl ul u, vs = [.ref t] ∧ TabO K H t r0 wt st ∧ BgAt K H r0 wt u0 g o ∧ H st = some (.tup [.ref r, .ref dl, .ref ul]) ∧ IsRow K H r u ∧ Q (.int (costW g o u)) H
theorem sc_Table_cost : FnScope ["self"] ["self"] (defScope (inClass (top 46) 13)) := ⟨rfl, rfl, rfl, by decide +kernel, rfl, by decide +kernel, by decide +kernel⟩
theorem ok_Table_cost {P : Program} {w : World} {K : PySem.W.Frag} {mg : Str → Option Value} {base : Heap} (T : Tx P K mg) : Ok P w K mg base 4 (He.ma K (He.ga K "Table") "cost") (spCost K) := by
  refine ok_mk T.d_Table_cost sc_Table_cost (fun vs H Q E h => ?len) (fun _ _ _ _ _ _ us hl => match us, hl with | [_], _ => rfl) (fun cdv A outer s H vs Q E hr h => ⟨_, (pss_one (ps_ret (pe_me T.c_Table T.m_Table_cost_of (ok_Table_cost_of T) hr (pv 0) (pa_cons (pe_ix ix_tup (pe_fld (pv 0) rfl) pe_int (fun _ _ => rfl)) pa_nil)))), ?body⟩)
  case len => obtain ⟨t, r0, wt, st, u0, g, o, r, dl, ul, u, rfl, _⟩ := h; rfl
  case body =>
    obtain ⟨t, r0, wt, st, u0, g, o, r, dl, ul, u, rfl, ⟨dx, ht⟩, hb, hs, hr0, q⟩ := h
    walk_at "st"
    exact ⟨t, r0, wt, st, u0, g, o, r, u, rfl, ⟨dx, ht⟩, hb, hr0, q⟩
end Tcf

set_option Elab.async false
set_option linter.all false
set_option maxRecDepth 100000
set_option maxHeartbeats 4000000
/-! DK: hints, wasted flips, clones, equality of tables (printed from DK.tmpl by gen_der.py). -/
namespace Tcf
open PySem PySem.Spec PyProof.Rows L2
open Evl (Ex)
set_option hygiene false in
local macro_rules | `(tactic| walk_at "lkT") => `(tactic| first | (with_reducible exact T.l_GAMES _) | (with_reducible exact T.l_GOALS _))
set_option hygiene false in
local macro_rules | `(tactic| walk_at "isx") => `(tactic| first | (with_reducible exact T.is_Row (by walk_at "lk")) | (with_reducible exact T.is_Flip (by walk_at "lk")) | (with_reducible exact T.is_Table (by walk_at "lk")))
local macro_rules | `(tactic| walk_at "lk") => `(tactic| first
  | assumption
  | walk_at "lkT"
  | ((with_reducible refine' ex_at (by assumption) ?wk); (case wk => walk_at "lk"))
  | ((with_reducible refine' sl_of ?wk); (case wk => walk_at "lk"))
  | ((with_reducible refine' st_of ?wk); (case wk => walk_at "lk"))
  | ((with_reducible refine' ex_l (by assumption) ?wk); (case wk => walk_at "lk"))
  | ((with_reducible refine' ex_t (by assumption) ?wk); (case wk => walk_at "lk"))
  | ((with_reducible refine' mu_at (by assumption) ?wk ?wn); (case wk => walk_at "lk"); (case wn => assumption)))
set_option hygiene false in
local macro_rules | `(tactic| walk_at "sd") => `(tactic| first
  | exact rfl | assumption | (with_reducible exact T.c_Row) | (with_reducible exact T.c_Flip) | (with_reducible exact T.c_Table) | (with_reducible exact T.c_Trial)
  | (with_reducible exact T.n_Row_colour) | (with_reducible exact T.n_Row_sizes) | (with_reducible exact T.n_Flip_begin) | (with_reducible exact T.n_Flip_finish) | (with_reducible exact T.n_Trial_home) | (with_reducible exact T.n_Trial_kept)
  | (with_reducible exact T.n_Table_beginning) | (with_reducible exact T.n_Table_words) | (with_reducible exact T.n_Table_state))
local macro_rules | `(tactic| walk_at "w") => `(tactic| first
  | (with_reducible refine w_seq ?_) | (with_reducible refine w_asg ?_) | (with_reducible refine w_gName ?_) | (with_reducible refine w_ret ?_) | (with_reducible refine w_ifS ?_) | (with_reducible refine w_drop ?_) | (with_reducible refine w_next ?_)
  | ((with_reducible refine' w_aug ?wh ?_); (case wh => exact rfl)) | (with_reducible refine w_match ?_) | (with_reducible refine w_case ?_)
  | ((with_reducible refine' w_var ?wh ?_); (case wh => exact rfl))
  | (with_reducible refine w_c ?_) | (with_reducible refine w_op ?_) | (with_reducible refine w_un ?_) | (with_reducible refine w_nil ?_) | (with_reducible refine w_cons ?_) | (with_reducible refine w_star ?_) | (with_reducible refine w_tup ?_) | (with_reducible refine w_lst ?_)
  | (with_reducible refine w_if ?_) | (with_reducible refine w_and ?_) | (with_reducible refine w_or ?_) | (with_reducible refine w_not ?_) | (with_reducible refine w_bq ?_) | (with_reducible refine w_B ?_) | (with_reducible refine w_test ?_) | (with_reducible refine w_andV ?_) | (with_reducible refine w_orV ?_) | (with_reducible refine w_notV ?_)
  | (with_reducible refine w_chain ?_) | (with_reducible refine w_rI0 ?_) | (with_reducible refine w_rU ?_) | (with_reducible refine w_ipI ?_)
  | (with_reducible refine w_eqI ?_) | (with_reducible refine w_neI ?_) | (with_reducible refine w_eqS ?_) | (with_reducible refine w_neS ?_) | (with_reducible refine w_eqB ?_) | (with_reducible refine w_neB ?_) | (with_reducible refine w_isNr ?_) | (with_reducible refine w_isNn ?_)
  | (with_reducible refine w_sl ?_) | (with_reducible refine w_noPart ?_) | (with_reducible refine w_part ?_) | (with_reducible refine w_pq ?_) | (with_reducible refine w_revL ?_) | (with_reducible refine w_revS ?_)
  | (with_reducible refine w_cb ?_) | (with_reducible refine w_min2 ?_) | (with_reducible refine w_max2 ?_) | (with_reducible refine w_intB ?_)
  | (with_reducible refine w_fn ?_) | (with_reducible refine w_me ?_) | (with_reducible refine w_pr ?_) | (with_reducible refine w_mk ?_) | (with_reducible refine w_fld ?_)
  | (with_reducible refine w_isi_ii ?_) | (with_reducible refine w_isi_ib ?_) | (with_reducible refine w_isi_ss ?_)
  | ((with_reducible refine' w_isi_ll ?wh ?_); (case wh => walk_at "lk"))
  | ((with_reducible refine' w_isi_own ?wh ?wq); (case wh => walk_at "isx"))
  | ((with_reducible refine' w_lenL ?wh ?_); (case wh => walk_at "lk")) | ((with_reducible refine' w_ixL ?wh ?wi ?_); (case wh => walk_at "lk"); (case wi => first | assumption | exact rfl)) | ((with_reducible refine' w_ixT ?wh ?wi ?_); (case wh => walk_at "lk"); (case wi => first | assumption | exact rfl))
  | ((with_reducible refine' w_slL ?wh ?_); (case wh => walk_at "lk")) | ((with_reducible refine' w_rvq ?wh ?_); (case wh => walk_at "lk")) | ((with_reducible refine' w_listO ?wh ?_); (case wh => walk_at "lk")) | ((with_reducible refine' w_starL ?wh ?_); (case wh => walk_at "lk"))
  | ((with_reducible refine' w_fq ?wh ?wc ?wn ?wl ?_); (case wh => walk_at "lk"); (case wc => walk_at "sd"); (case wn => walk_at "sd"); (case wl => exact rfl))
  | ((with_reducible refine' w_sum ?wh ?_); (case wh => walk_at "lk"))
  | ((with_reducible refine' w_all ?wh ?_); (case wh => walk_at "lk"))
  | (with_reducible refine w_forL ?_) | ((with_reducible refine' w_forLq ?wh ?_); (case wh => walk_at "lk")) | (with_reducible refine w_forS ?_) | (with_reducible refine w_forSq ?_) | (with_reducible refine w_forR1 ?_) | ((with_reducible refine' w_forR1q ?wh ?_); (case wh => omega)) | (with_reducible refine w_forR2 ?_) | ((with_reducible refine' w_forR2q ?wh ?_); (case wh => omega)) | (with_reducible refine w_forE ?_) | ((with_reducible refine' w_forEq ?wh ?_); (case wh => walk_at "lk"))
  | (with_reducible refine w_lcL ?_) | ((with_reducible refine' w_lcLq ?wh ?_); (case wh => walk_at "lk")) | (with_reducible refine w_lcS ?_) | (with_reducible refine w_lcSq ?_) | (with_reducible refine w_lcR2 ?_) | ((with_reducible refine' w_lcR2q ?wh ?_); (case wh => omega))
  | (with_reducible refine w_bm ?_) | ((with_reducible refine' w_bmq ?wh ?_); (case wh => walk_at "lk")) | (with_reducible refine w_bm0 ?_) | ((with_reducible refine' w_bm0q ?wh ?_); (case wh => walk_at "lk"))
  | ((with_reducible refine' w_getL ?wh ?wi ?_); (case wh => walk_at "lk"); (case wi => first | assumption | exact rfl)) | (with_reducible refine w_gSub ?_) | (with_reducible refine w_augS ?_)
  | ((with_reducible refine' w_gTup ?wh ?wl ?_); (case wh => walk_at "lk"); (case wl => exact rfl)) | (with_reducible refine w_gCons ?_) | (with_reducible refine w_gNil ?_)
  | (with_reducible refine w_parT ?_) | (with_reducible refine w_parq ?_) | (with_reducible refine w_par3T ?_) | (with_reducible refine w_par3q ?_) | (with_reducible refine w_sfld ?_) | (with_reducible refine w_ob ?_) | (with_reducible refine w_obq ?_)
  | ((with_reducible refine' w_sfq ?wh ?wc ?wn ?wl ?wq); (case wh => walk_at "lk"); (case wc => walk_at "sd"); (case wn => walk_at "sd"); (case wl => exact Nat.le_of_ble_eq_true rfl))
  | ((with_reducible refine' w_rI ?wh ?wq); (case wh => first | decide | exact ⟨by decide, by decide⟩)) | (with_reducible refine w_pairsC ?_) | (with_reducible refine w_pairsN ?_) | ((with_reducible refine' w_cat ?wh ?wk ?wl ?wq); (case wh => walk_at "lk"); (case wk => walk_at "lk"); (case wl => walk_at "sz"))
  | ((with_reducible refine' w_mqRow ?wh ?wl ?wk ?wq); (case wh => walk_at "rw"); (case wl => exact rfl); (case wk => exact rfl))
  | ((with_reducible refine' w_mq ?wh ?wl ?wq); (case wh => walk_at "lk"); (case wl => exact rfl))
  | ((with_reducible refine' w_wipe ?wh ?wq); (case wh => exact rfl)) | (with_reducible refine w_yesT ?_)
  | (with_reducible refine w_isNumber ?_) | (with_reducible refine w_isCount ?_) | (with_reducible refine w_isColour ?_) | (with_reducible refine w_checkGame ?_) | (with_reducible refine w_checkGoal ?_) | (with_reducible refine w_checkWords ?_)
  | (with_reducible refine iteT ?_) | (with_reducible refine iteF ?_) | ((with_reducible refine' w_yes ?wh ?_); (case wh => exact rfl)) | ((with_reducible refine' w_no ?wh ?_); (case wh => exact rfl)))
local macro_rules | `(tactic| walk_at "sz") => `(tactic| first | (refine sz_le ?_; first | assumption | (simp only [List.length_map, List.length_append, List.length_cons, List.length_nil]; omega) | omega) | (refine sz_lt ?_; first | assumption | (simp only [List.length_map, List.length_append, List.length_cons, List.length_nil]; omega) | omega))
local macro_rules | `(tactic| walk_at "go") => `(tactic| repeat (walk_at "w"))
local macro_rules | `(tactic| walk_at "bt") => `(tactic| first | exact rfl | assumption | (simp [*]; done) | (simp; omega) | (simp [*]; omega))
local macro_rules | `(tactic| walk_at "yes") => `(tactic| ((with_reducible refine' w_yes ?wh ?wq); (case wh => walk_at "bt"); walk_at "go"))
local macro_rules | `(tactic| walk_at "no") => `(tactic| ((with_reducible refine' w_no ?wh ?wq); (case wh => walk_at "bt"); walk_at "go"))
local macro_rules | `(tactic| walk_at "st") => `(tactic| ((try dsimp only [L2.cxOf, L2.Cx.nox, L2.Cx.wish]); walk_at "go"))
local macro_rules | `(tactic| walk_at "rw") => `(tactic| first | assumption | ((with_reducible refine' IsRow.rw ?wk); (case wk => walk_at "rw")) | ((with_reducible refine' IsRw.ex (by assumption) ?wk); (case wk => walk_at "rw")) | ((with_reducible refine' IsRow.ex (by assumption) ?wk); (case wk => walk_at "rw")))
local macro_rules | `(tactic| walk_at "ro") => `(tactic| first | assumption | ((with_reducible refine' IsRow.ex (by assumption) ?wk); (case wk => walk_at "ro")))
local macro_rules | `(tactic| walk_at "fl") => `(tactic| first | assumption | ((with_reducible refine' IsFlip.ex (by assumption) ?wk); (case wk => walk_at "fl")))
local macro_rules | `(tactic| walk_at "w") => `(tactic| first
  | ((with_reducible refine' w_first ?wh ?wq); (case wh => walk_at "rw")) | ((with_reducible refine' w_runs ?wh ?wq); (case wh => walk_at "rw")) | ((with_reducible refine' w_length ?wh ?wq); (case wh => walk_at "rw")) | ((with_reducible refine' w_lengths ?wh ?wq); (case wh => walk_at "rw")))
local macro_rules | `(tactic| walk_at "w") => `(tactic| first
  | ((with_reducible refine' w_start ?wh ?wq); (case wh => walk_at "fl")) | ((with_reducible refine' w_end ?wh ?wq); (case wh => walk_at "fl")))
local macro_rules | `(tactic| walk_at "w") => `(tactic| first | (with_reducible refine w_dget ?_))
/-! ### the law's hint -/
def okPl (g : Gm) (n a b : Nat) : Bool := decide (g = .parts) || decide (a = 0) || (decide (g = .ends) && decide (b = n))
/-- the places of a game, in order -/
def placesW (n : Nat) (g : Gm) : List Pl := (List.range n).flatMap fun a => ((List.range (n - a)).map fun d => (a, a + 1 + d)).filter fun p => okPl g n p.1 p.2
def hintL (g : Gm) (o : Go) (u : Wd) : Option Pl := if costW g o u = 0 then none else (placesW u.length g).find? fun p => decide (costW g o (turnW u p.1 p.2) < costW g o u)
def mapO {α β : Type} (f : α → Option β) : List α → Option (List β)
  | [] => some []
  | x :: r => match f x, mapO f r with
    | some a, some b => some (a :: b)
    | _, _ => none
theorem mapO_at {α β : Type} {f : α → Option β} : ∀ {l : List α} {m : List β}, mapO f l = some m → m.length = l.length ∧ ∀ (i : Nat) x, l[i]? = some x → ∃ y, m[i]? = some y ∧ f x = some y
  | [], m, h => by
    cases h
    exact ⟨rfl, fun i x e => by simp at e⟩
  | x :: r, m, h => by
    unfold mapO at h
    cases e1 : f x with
    | none => rw [e1] at h; cases h
    | some a =>
      cases e2 : mapO f r with
      | none => rw [e1, e2] at h; cases h
      | some b =>
        rw [e1, e2] at h
        cases h
        obtain ⟨h1, h2⟩ := mapO_at e2
        refine ⟨by simp [h1], fun i z ez => ?_⟩
        cases i with
        | zero =>
          simp at ez
          subst ez
          exact ⟨a, rfl, e1⟩
        | succ i =>
          simp at ez
          obtain ⟨y, h3, h4⟩ := h2 i z ez
          exact ⟨y, by simpa using h3, h4⟩
def hintP (g : Gm) (o : Go) (u : Wd) : Option (Option (Int × Int)) := match bestK (runsW u).length (colW u) g o with
  | [] => some none
  | ks => match mapO (ffW (bordersL (runsW u)) (runsW u).length) ks with
    | some (p :: ps) => some (some (minP p ps))
    | _ => none
def gms : List Gm := [.front, .ends, .parts]
def gos : List Go := [.grouped, .sorted]
theorem mem_gms (g : Gm) : g ∈ gms := by cases g <;> simp [gms]
theorem mem_gos (o : Go) : o ∈ gos := by cases o <;> simp [gos]
theorem all7g {p : Gm → Go → Wd → Bool} (h : (gms.all fun g => gos.all fun o => (wordsN 7).all (p g o)) = true) (g : Gm) (o : Go) (w : Wd) (hw : w.length ≤ 7) : p g o w = true :=
  all7 (List.all_eq_true.mp (List.all_eq_true.mp h g (mem_gms g)) o (mem_gos o)) w hw
theorem hint_word (g : Gm) (o : Go) (u : Wd) (h : u.length ≤ 7) : hintP g o u = some ((hintL g o u).map fun p => ((p.1 : Int), (p.2 : Int))) :=
  of_decide_eq_true (all7g (p := fun g o u => decide (hintP g o u = some ((hintL g o u).map fun p => ((p.1 : Int), (p.2 : Int))))) (by decide +kernel) g o u h)
theorem hint_ok (g : Gm) (o : Go) (u : Wd) (h : u.length ≤ 7) (p : Pl) (e : hintL g o u = some p) : p.1 < p.2 ∧ p.2 ≤ u.length ∧ okPl g u.length p.1 p.2 = true := by
  have := all7g (p := fun g o u => match hintL g o u with
    | some p => decide (p.1 < p.2) && (decide (p.2 ≤ u.length) && okPl g u.length p.1 p.2)
    | none => true) (by decide +kernel) g o u h
  rw [e] at this
  simpa using this
theorem best_runs (g : Gm) (o : Go) (u : Wd) (h : u.length ≤ 7) (n : bestK (runsW u).length (colW u) g o ≠ []) : 1 ≤ (runsW u).length := by
  have := all7g (p := fun g o u => decide (bestK (runsW u).length (colW u) g o = []) || decide (1 ≤ (runsW u).length)) (by decide +kernel) g o u h
  simpa [n] using this
end Tcf

set_option Elab.async false
set_option linter.all false
set_option maxRecDepth 100000
set_option maxHeartbeats 4000000
/-! DL: what tables answer (printed from DL.tmpl by gen_der.py). -/
namespace Tcf
open PySem PySem.Spec PyProof.Rows L2
open Evl (Ex)
set_option hygiene false in
local macro_rules | `(tactic| walk_at "lkT") => `(tactic| first | (with_reducible exact T.l_GAMES _) | (with_reducible exact T.l_GOALS _))
set_option hygiene false in
local macro_rules | `(tactic| walk_at "isx") => `(tactic| first | (with_reducible exact T.is_Row (by walk_at "lk")) | (with_reducible exact T.is_Flip (by walk_at "lk")) | (with_reducible exact T.is_Table (by walk_at "lk")))
local macro_rules | `(tactic| walk_at "lk") => `(tactic| first
  | assumption
  | walk_at "lkT"
  | ((with_reducible refine' ex_at (by assumption) ?wk); (case wk => walk_at "lk"))
  | ((with_reducible refine' sl_of ?wk); (case wk => walk_at "lk"))
  | ((with_reducible refine' st_of ?wk); (case wk => walk_at "lk"))
  | ((with_reducible refine' ex_l (by assumption) ?wk); (case wk => walk_at "lk"))
  | ((with_reducible refine' ex_t (by assumption) ?wk); (case wk => walk_at "lk"))
  | ((with_reducible refine' mu_at (by assumption) ?wk ?wn); (case wk => walk_at "lk"); (case wn => assumption)))
set_option hygiene false in
local macro_rules | `(tactic| walk_at "sd") => `(tactic| first
  | exact rfl | assumption | (with_reducible exact T.c_Row) | (with_reducible exact T.c_Flip) | (with_reducible exact T.c_Table) | (with_reducible exact T.c_Trial)
  | (with_reducible exact T.n_Row_colour) | (with_reducible exact T.n_Row_sizes) | (with_reducible exact T.n_Flip_begin) | (with_reducible exact T.n_Flip_finish) | (with_reducible exact T.n_Trial_home) | (with_reducible exact T.n_Trial_kept)
  | (with_reducible exact T.n_Table_beginning) | (with_reducible exact T.n_Table_words) | (with_reducible exact T.n_Table_state))
local macro_rules | `(tactic| walk_at "w") => `(tactic| first
  | (with_reducible refine w_seq ?_) | (with_reducible refine w_asg ?_) | (with_reducible refine w_gName ?_) | (with_reducible refine w_ret ?_) | (with_reducible refine w_ifS ?_) | (with_reducible refine w_drop ?_) | (with_reducible refine w_next ?_)
  | ((with_reducible refine' w_aug ?wh ?_); (case wh => exact rfl)) | (with_reducible refine w_match ?_) | (with_reducible refine w_case ?_)
  | ((with_reducible refine' w_var ?wh ?_); (case wh => exact rfl))
  | (with_reducible refine w_c ?_) | (with_reducible refine w_op ?_) | (with_reducible refine w_un ?_) | (with_reducible refine w_nil ?_) | (with_reducible refine w_cons ?_) | (with_reducible refine w_star ?_) | (with_reducible refine w_tup ?_) | (with_reducible refine w_lst ?_)
  | (with_reducible refine w_if ?_) | (with_reducible refine w_and ?_) | (with_reducible refine w_or ?_) | (with_reducible refine w_not ?_) | (with_reducible refine w_bq ?_) | (with_reducible refine w_B ?_) | (with_reducible refine w_test ?_) | (with_reducible refine w_andV ?_) | (with_reducible refine w_orV ?_) | (with_reducible refine w_notV ?_)
  | (with_reducible refine w_chain ?_) | (with_reducible refine w_rI0 ?_) | (with_reducible refine w_rU ?_) | (with_reducible refine w_ipI ?_)
  | (with_reducible refine w_eqI ?_) | (with_reducible refine w_neI ?_) | (with_reducible refine w_eqS ?_) | (with_reducible refine w_neS ?_) | (with_reducible refine w_eqB ?_) | (with_reducible refine w_neB ?_) | (with_reducible refine w_isNr ?_) | (with_reducible refine w_isNn ?_)
  | (with_reducible refine w_sl ?_) | (with_reducible refine w_noPart ?_) | (with_reducible refine w_part ?_) | (with_reducible refine w_pq ?_) | (with_reducible refine w_revL ?_) | (with_reducible refine w_revS ?_)
  | (with_reducible refine w_cb ?_) | (with_reducible refine w_min2 ?_) | (with_reducible refine w_max2 ?_) | (with_reducible refine w_intB ?_)
  | (with_reducible refine w_fn ?_) | (with_reducible refine w_me ?_) | (with_reducible refine w_pr ?_) | (with_reducible refine w_mk ?_) | (with_reducible refine w_fld ?_)
  | (with_reducible refine w_isi_ii ?_) | (with_reducible refine w_isi_ib ?_) | (with_reducible refine w_isi_ss ?_)
  | ((with_reducible refine' w_isi_ll ?wh ?_); (case wh => walk_at "lk"))
  | ((with_reducible refine' w_isi_own ?wh ?wq); (case wh => walk_at "isx"))
  | ((with_reducible refine' w_lenL ?wh ?_); (case wh => walk_at "lk")) | ((with_reducible refine' w_ixL ?wh ?wi ?_); (case wh => walk_at "lk"); (case wi => first | assumption | exact rfl)) | ((with_reducible refine' w_ixT ?wh ?wi ?_); (case wh => walk_at "lk"); (case wi => first | assumption | exact rfl))
  | ((with_reducible refine' w_slL ?wh ?_); (case wh => walk_at "lk")) | ((with_reducible refine' w_rvq ?wh ?_); (case wh => walk_at "lk")) | ((with_reducible refine' w_listO ?wh ?_); (case wh => walk_at "lk")) | ((with_reducible refine' w_starL ?wh ?_); (case wh => walk_at "lk"))
  | ((with_reducible refine' w_fq ?wh ?wc ?wn ?wl ?_); (case wh => walk_at "lk"); (case wc => walk_at "sd"); (case wn => walk_at "sd"); (case wl => exact rfl))
  | ((with_reducible refine' w_sum ?wh ?_); (case wh => walk_at "lk"))
  | ((with_reducible refine' w_all ?wh ?_); (case wh => walk_at "lk"))
  | (with_reducible refine w_forL ?_) | ((with_reducible refine' w_forLq ?wh ?_); (case wh => walk_at "lk")) | (with_reducible refine w_forS ?_) | (with_reducible refine w_forSq ?_) | (with_reducible refine w_forR1 ?_) | ((with_reducible refine' w_forR1q ?wh ?_); (case wh => omega)) | (with_reducible refine w_forR2 ?_) | ((with_reducible refine' w_forR2q ?wh ?_); (case wh => omega)) | (with_reducible refine w_forE ?_) | ((with_reducible refine' w_forEq ?wh ?_); (case wh => walk_at "lk"))
  | (with_reducible refine w_lcL ?_) | ((with_reducible refine' w_lcLq ?wh ?_); (case wh => walk_at "lk")) | (with_reducible refine w_lcS ?_) | (with_reducible refine w_lcSq ?_) | (with_reducible refine w_lcR2 ?_) | ((with_reducible refine' w_lcR2q ?wh ?_); (case wh => omega))
  | (with_reducible refine w_bm ?_) | ((with_reducible refine' w_bmq ?wh ?_); (case wh => walk_at "lk")) | (with_reducible refine w_bm0 ?_) | ((with_reducible refine' w_bm0q ?wh ?_); (case wh => walk_at "lk"))
  | ((with_reducible refine' w_getL ?wh ?wi ?_); (case wh => walk_at "lk"); (case wi => first | assumption | exact rfl)) | (with_reducible refine w_gSub ?_) | (with_reducible refine w_augS ?_)
  | ((with_reducible refine' w_gTup ?wh ?wl ?_); (case wh => walk_at "lk"); (case wl => exact rfl)) | (with_reducible refine w_gCons ?_) | (with_reducible refine w_gNil ?_)
  | (with_reducible refine w_parT ?_) | (with_reducible refine w_parq ?_) | (with_reducible refine w_par3T ?_) | (with_reducible refine w_par3q ?_) | (with_reducible refine w_sfld ?_) | (with_reducible refine w_ob ?_) | (with_reducible refine w_obq ?_)
  | ((with_reducible refine' w_sfq ?wh ?wc ?wn ?wl ?wq); (case wh => walk_at "lk"); (case wc => walk_at "sd"); (case wn => walk_at "sd"); (case wl => exact Nat.le_of_ble_eq_true rfl))
  | ((with_reducible refine' w_rI ?wh ?wq); (case wh => first | decide | exact ⟨by decide, by decide⟩)) | (with_reducible refine w_pairsC ?_) | (with_reducible refine w_pairsN ?_) | ((with_reducible refine' w_cat ?wh ?wk ?wl ?wq); (case wh => walk_at "lk"); (case wk => walk_at "lk"); (case wl => walk_at "sz"))
  | ((with_reducible refine' w_mqRow ?wh ?wl ?wk ?wq); (case wh => walk_at "rw"); (case wl => exact rfl); (case wk => exact rfl))
  | ((with_reducible refine' w_mq ?wh ?wl ?wq); (case wh => walk_at "lk"); (case wl => exact rfl))
  | ((with_reducible refine' w_wipe ?wh ?wq); (case wh => exact rfl)) | (with_reducible refine w_yesT ?_)
  | (with_reducible refine w_isNumber ?_) | (with_reducible refine w_isCount ?_) | (with_reducible refine w_isColour ?_) | (with_reducible refine w_checkGame ?_) | (with_reducible refine w_checkGoal ?_) | (with_reducible refine w_checkWords ?_)
  | (with_reducible refine iteT ?_) | (with_reducible refine iteF ?_) | ((with_reducible refine' w_yes ?wh ?_); (case wh => exact rfl)) | ((with_reducible refine' w_no ?wh ?_); (case wh => exact rfl)))
local macro_rules | `(tactic| walk_at "sz") => `(tactic| first | (refine sz_le ?_; first | assumption | (simp only [List.length_map, List.length_append, List.length_cons, List.length_nil]; omega) | omega) | (refine sz_lt ?_; first | assumption | (simp only [List.length_map, List.length_append, List.length_cons, List.length_nil]; omega) | omega))
local macro_rules | `(tactic| walk_at "go") => `(tactic| repeat (walk_at "w"))
local macro_rules | `(tactic| walk_at "bt") => `(tactic| first | exact rfl | assumption | (simp [*]; done) | (simp; omega) | (simp [*]; omega))
local macro_rules | `(tactic| walk_at "yes") => `(tactic| ((with_reducible refine' w_yes ?wh ?wq); (case wh => walk_at "bt"); walk_at "go"))
local macro_rules | `(tactic| walk_at "no") => `(tactic| ((with_reducible refine' w_no ?wh ?wq); (case wh => walk_at "bt"); walk_at "go"))
local macro_rules | `(tactic| walk_at "st") => `(tactic| ((try dsimp only [L2.cxOf, L2.Cx.nox, L2.Cx.wish]); walk_at "go"))
local macro_rules | `(tactic| walk_at "rw") => `(tactic| first | assumption | ((with_reducible refine' IsRow.rw ?wk); (case wk => walk_at "rw")) | ((with_reducible refine' IsRw.ex (by assumption) ?wk); (case wk => walk_at "rw")) | ((with_reducible refine' IsRow.ex (by assumption) ?wk); (case wk => walk_at "rw")))
local macro_rules | `(tactic| walk_at "ro") => `(tactic| first | assumption | ((with_reducible refine' IsRow.ex (by assumption) ?wk); (case wk => walk_at "ro")))
local macro_rules | `(tactic| walk_at "fl") => `(tactic| first | assumption | ((with_reducible refine' IsFlip.ex (by assumption) ?wk); (case wk => walk_at "fl")))
local macro_rules | `(tactic| walk_at "w") => `(tactic| first
  | ((with_reducible refine' w_first ?wh ?wq); (case wh => walk_at "rw")) | ((with_reducible refine' w_runs ?wh ?wq); (case wh => walk_at "rw")) | ((with_reducible refine' w_length ?wh ?wq); (case wh => walk_at "rw")) | ((with_reducible refine' w_lengths ?wh ?wq); (case wh => walk_at "rw")))
local macro_rules | `(tactic| walk_at "w") => `(tactic| first
  | ((with_reducible refine' w_start ?wh ?wq); (case wh => walk_at "fl")) | ((with_reducible refine' w_end ?wh ?wq); (case wh => walk_at "fl")))
local macro_rules | `(tactic| walk_at "w") => `(tactic| first | (with_reducible refine w_dget ?_))
theorem pairs_of {K : PySem.W.Frag} {H : Hp} : ∀ {ffs : List (Int × Int)} {l : List Nat} {ys : List V}, Paired (fun i y => ∃ t p, ffs[i]? = some p ∧ y = V.ref t ∧ H t = some (.tup [.int p.1, .int p.2])) l ys →
    ∃ ts, ys = ts.map V.ref ∧ Paired (fun t i => ∃ p, ffs[i]? = some p ∧ SqT K H t [.int p.1, .int p.2]) ts l
  | _, _, _, .nil => ⟨[], rfl, .nil⟩
  | _, _, _, .cons h r => by
    obtain ⟨ts, e, pr⟩ := pairs_of r
    obtain ⟨t, p, h1, rfl, h2⟩ := h
    exact ⟨t :: ts, by rw [e]; rfl, .cons ⟨p, h1, st_of h2⟩ pr⟩
theorem paired_at {α β : Type} {R : α → β → Prop} : ∀ {l : List α} {r : List β}, Paired R l r → ∀ (i : Nat) a b, l[i]? = some a → r[i]? = some b → R a b
  | _, _, .nil, i, a, b, h, _ => by simp at h
  | _, _, .cons h r, 0, a, b, h1, h2 => by
    simp at h1 h2
    subst h1 h2
    exact h
  | _, _, .cons h r, i + 1, a, b, h1, h2 => paired_at r i a b (by simpa using h1) (by simpa using h2)
theorem paired_mk {α β : Type} {R : α → β → Prop} : ∀ {l : List α} {r : List β}, l.length = r.length → (∀ (i : Nat) a b, l[i]? = some a → r[i]? = some b → R a b) → Paired R l r
  | [], [], _, _ => .nil
  | [], _ :: _, h, _ => by cases h
  | _ :: _, [], h, _ => by cases h
  | a :: l, b :: r, h, k => .cons (k 0 a b rfl rfl) (paired_mk (by simpa using h) fun i x y hx hy => k (i + 1) x y (by simpa using hx) (by simpa using hy))
theorem pairs_at2 {K : PySem.W.Frag} {H : Hp} {ffs : List (Int × Int)} {ts : List Addr} (h : Paired (fun t i => ∃ p, ffs[i]? = some p ∧ SqT K H t [.int p.1, .int p.2]) ts (List.range ffs.length)) : PairsAt K H ts ffs := by
  have hl := paired_len h
  rw [List.length_range] at hl
  refine paired_mk hl fun i t p ht hp => ?_
  have hi : i < ffs.length := (List.getElem?_eq_some_iff.mp hp).1
  obtain ⟨p2, h1, h2⟩ := paired_at h i t i ht (by rw [List.getElem?_range hi])
  rw [hp] at h1
  cases h1
  exact h2
/-- a flip or None -/
def HintV (K : PySem.W.Frag) (H : Hp) (v : V) : Option Pl → Prop
  | none => v = .non
  | some p => ∃ f, v = .ref f ∧ IsFlip K H f p.1 p.2
def spHint (K : PySem.W.Frag) : Sp := fun vs H Q _ => ∃ t r0 wt st u0 g o r dl ul u, vs = [.ref t] ∧ TabO K H t r0 wt st ∧ BgAt K H r0 wt u0 g o ∧ H st = some (.tup [.ref r, .ref dl, .ref ul]) ∧ IsRow K H r u ∧ ∀ v H', Ex H H' → HintV K H' v (hintL g o u) → Q v H'
theorem sc_Table_hint : FnScope ["self", "row", "kinds", "start", "end", "kind"] ["self"] (defScope (inClass (top 46) 14)) := ⟨rfl, rfl, rfl, by decide +kernel, rfl, by decide +kernel, by decide +kernel⟩
theorem ok_Table_hint {P : Program} {w : World} {K : PySem.W.Frag} {mg : Str → Option Value} {base : Heap} (T : Tx P K mg) : Ok P w K mg base 4 (He.ma K (He.ga K "Table") "hint") (spHint K) := by
  refine ok_mk T.d_Table_hint sc_Table_hint (fun vs H Q E h => ?len) (fun _ _ _ _ _ _ us hl => match us, hl with | [_], _ => rfl) (fun cdv A outer s H vs Q E hr h => ⟨_, (pss_cons (ps_set (i := 1) sc_Table_hint.nd rfl (.inr rfl) (pe_ix ix_tup (pe_fld (pv 0) rfl) pe_int (fun _ _ => rfl))) (pss_cons (ps_set (i := 2) sc_Table_hint.nd rfl (.inl rfl) (pe_fn (ok_best_kinds T) hr T.g_best_kinds (pa_cons (pe_pr T.c_Row T.p_Row_runs (ok_Row_runs T) hr (pv 1)) (pa_cons (pe_pr T.c_Row T.p_Row_first (ok_Row_first T) hr (pv 1)) (pa_cons (pe_ix ix_tup (pe_fld (pv 0) rfl) pe_int (fun _ _ => rfl)) (pa_cons (pe_ix ix_tup (pe_fld (pv 0) rfl) pe_int (fun _ _ => rfl)) pa_nil)))))) (pss_cons (ps_if (pt_cmpR (op_eqD hr.units) (pv 2) (pe_lst pa_nil) (nomark _)) (pss_one (ps_ret pe_non)) pss_nil) (pss_cons (ps_asg (pe_callB (cr_minP rfl hr) (by rfl) T.z_min (by decide +kernel) (pa_cons (pe_lc (own := [("kind", 5)]) (by rfl) sc_Table_hint.nd (pi_list (pv 2)) (blkOk_by (own := [("kind", 5)]) (N := ["self", "row", "kinds", "start", "end", "kind"]) (sc := defScope (inClass (top 46) 14)) (by decide +kernel)) (fun _ _ _ _ _ => (pg_name (i := 5) sc_Table_hint.nd rfl (Or.inl rfl))) (fun _ _ _ _ _ => pts_nil) (fun _ _ _ _ _ => (pe_fn (ok_first_flip T) hr T.g_first_flip (pa_cons (pv 1) (pa_cons (pv 5) pa_nil))))) pa_nil)) (pg_tup rfl (pgs_cons (pg_name (i := 3) sc_Table_hint.nd rfl (Or.inl rfl)) (pgs_cons (pg_name (i := 4) sc_Table_hint.nd rfl (Or.inl rfl)) pgs_nil)))) (pss_one (ps_ret (pe_new T.k_Flip (ok_Flip_dinitd T) hr T.gc_Flip (pa_cons (pv 3) (pa_cons (pv 4) pa_nil))))))))), ?body⟩)
  case len => obtain ⟨t, r0, wt, st, u0, g, o, r, dl, ul, u, rfl, _⟩ := h; rfl
  case body =>
    obtain ⟨t, r0, wt, st, u0, g, o, r, dl, ul, u, rfl, ⟨dx, ht⟩, hb, hs, hr0, q⟩ := h
    have hw := hb.wds
    have zu := hr0.1
    have rv := rv_word u zu
    have hl7 := rv.len
    have hh := hint_word g o u zu
    have hm1 := best_runs g o u zu
    walk_at "st"
    refine ⟨_, _, g, o, rfl, by omega, fun p1 H1 e1 n1 h1 => ?_⟩
    unfold hintP at hh
    cases hk : bestK (runsW u).length (colW u) g o with
    | nil =>
      rw [hk] at hh h1
      have hn : hintL g o u = none := by
        cases hx : hintL g o u with
        | none => rfl
        | some p => rw [hx] at hh; cases hh
      rw [hn] at q
      walk_at "go"
      refine w_newA (by show (0 : Nat) ≤ sizeLine; decide) fun p2 H2 e2 n2 h2 => ?_
      refine w_eqD (dp_nil (sl_of (e2 _ _ h1))) (dp_nil (sl_of h2)) fl_nil fl_nil ?_
      walk_at "go"
      exact q _ H2 (e1.trans e2) rfl
    | cons k0 kr =>
      have hne : (runsW u).length ≥ 1 := hm1 (by rw [hk]; simp)
      rw [hk] at hh h1
      dsimp only at hh
      cases hf : mapO (ffW (bordersL (runsW u)) (runsW u).length) (k0 :: kr) with
      | none => rw [hf] at hh; cases hh
      | some ffs =>
        rw [hf] at hh
        obtain ⟨zf, hat⟩ := mapO_at hf
        cases ffs with
        | nil => cases zf
        | cons p0 pr0 =>
          dsimp only at hh
          obtain ⟨pl, hpl⟩ : ∃ pl, hintL g o u = some pl := by
            cases hx : hintL g o u with
            | none => rw [hx] at hh; cases hh
            | some p => exact ⟨p, rfl⟩
          rw [hpl] at hh q
          have hmin : minP p0 pr0 = ((pl.1 : Int), (pl.2 : Int)) := Option.some.inj (Option.some.inj hh)
          obtain ⟨k1, k2, k3⟩ := hint_ok g o u zu pl hpl
          have hkl : (k0 :: kr).length ≤ 4 := by
            rw [← hk]
            cases g <;> (simp only [bestK, kindsG, List.foldl, bestF]; repeat' split) <;> simp
          walk_at "go"
          refine w_newA (by show (0 : Nat) ≤ sizeLine; decide) fun p2 H2 e2 n2 h2 => ?_
          refine w_eqD (d := .list ((k0 :: kr).map fun k => PyData.str k.s)) (e := .list []) (n := 2) (m := 1) ?_ (dp_nil (sl_of h2)) ?_ fl_nil ?_
          · refine .lst (sl_of (e2 _ _ h1)) ?_
            have := dpAll_str (K := K) (H := H2) ((k0 :: kr).map Kd.s)
            rw [List.map_map, List.map_map] at this
            exact this
          · refine fl_list fun d hd => ?_
            obtain ⟨k, _, rfl⟩ := List.mem_map.mp hd
            cases k <;> exact fl_str (by decide +kernel)
          rw [eqv_nil]
          walk_at "go"
          have e12 := e1.trans e2
          refine w_lcW (walk_list (xs := (k0 :: kr).map fun k => V.str k.s)) (fun _ => true) (fun i v H' => ∃ t p, (p0 :: pr0)[i]? = some p ∧ v = V.ref t ∧ H' t = some (.tup [.int p.1, .int p.2])) (by rw [List.length_map]; omega) (fun _ _ _ _ y => y.1)
            (fun i v H3 H4 e k => ?_) (fun i v H3 D l l' hD k => ?_) (fun H' e => ex_l e (sl_of (e2 _ _ h1))) (fun i y H3 hi e3 hy QE k x1 x2 => ?_) (fun D H3 ys e3 nD hD pr => ?_)
          · obtain ⟨t, p, h3, h4, h5⟩ := k
            exact ⟨t, p, h3, h4, e _ _ h5⟩
          · obtain ⟨t, p, h3, h4, h5⟩ := k
            refine ⟨t, p, h3, h4, ?_⟩
            rw [upd_ne (ne_of h5 hD (by intro z; cases z))]
            exact h5
          · obtain ⟨kk, hkk, rfl⟩ := map_at hy.2
            obtain ⟨p, hp1, hp2⟩ := hat i kk hkk
            walk_at "go"
            refine ⟨r, _, _, kk, p.1, p.2, rfl, hr0.2.ex (e12.trans e3), by omega, hne, hp2, fun p5 H5 e5 n5 h5 => ?_⟩
            exact x1 rfl _ _ e5 ⟨p5, p, hp1, rfl, h5⟩
          · obtain ⟨ts, ets, pts⟩ := pairs_of pr
            subst ets
            rw [List.length_map, ← zf] at pts
            have pts2 := pairs_at2 (by
              have ef : (List.range (p0 :: pr0).length).filter (fun _ => true) = List.range (p0 :: pr0).length := List.filter_eq_self.mpr fun _ _ => rfl
              rw [ef] at pts
              exact pts)
            walk_at "go"
            refine ⟨D, ts, p0, pr0, rfl, sl_of hD, pts2, fun t5 h5 => ?_⟩
            rw [hmin] at h5
            walk_at "go"
            refine w_mkFlip (fun _ _ f H6 e6 nf hf6 => ?_) (fun z => absurd ⟨by omega, by omega⟩ z)
            walk_at "go"
            exact q _ H6 ((e12.trans e3).trans e6) ⟨f, rfl, hf6⟩
def OkFl (n : Nat) (ps : List Pl) : Prop := ∀ p ∈ ps, p.1 < p.2 ∧ p.2 ≤ n
def wasteF (g : Gm) (o : Go) (st : Wd × Int) (p : Pl) : Wd × Int := (turnW st.1 p.1 p.2, st.2 + b2 (decide (costW g o st.1 ≤ costW g o (turnW st.1 p.1 p.2))))
theorem turns_len (n : Nat) : ∀ (ps : List Pl) (u : Wd), u.length = n → OkFl n ps → (ps.foldl (fun u p => turnW u p.1 p.2) u).length = n
  | [], _, h, _ => h
  | p :: ps, u, h, k => turns_len n ps _ (by
      obtain ⟨h1, h2⟩ := k p List.mem_cons_self
      rw [turnW_len u p.1 p.2 (by omega) (by omega), h]) fun q hq => k q (List.mem_cons_of_mem _ hq)
theorem waste_fst (g : Gm) (o : Go) : ∀ (ps : List Pl) (st : Wd × Int), (ps.foldl (wasteF g o) st).1 = ps.foldl (fun u p => turnW u p.1 p.2) st.1
  | [], _ => rfl
  | p :: ps, st => waste_fst g o ps _
def spWasted (K : PySem.W.Frag) : Sp := fun vs H Q _ => ∃ t r0 wt st u0 g o r dl ul dfs ds, vs = [.ref t] ∧ TabO K H t r0 wt st ∧ BgAt K H r0 wt u0 g o ∧ H st = some (.tup [.ref r, .ref dl, .ref ul]) ∧ H dl = some (.lst (List.map V.ref dfs)) ∧ FlipsAt K H dfs ds ∧ OkFl u0.length ds ∧
  ∀ H', Ex H H' → Q (.int (ds.foldl (wasteF g o) (u0, 0)).2) H'
theorem sc_Table_wasted : FnScope ["self", "row", "number", "step", "later"] ["self"] (defScope (inClass (top 46) 15)) := ⟨rfl, rfl, rfl, by decide +kernel, rfl, by decide +kernel, by decide +kernel⟩
theorem ok_Table_wasted {P : Program} {w : World} {K : PySem.W.Frag} {mg : Str → Option Value} {base : Heap} (T : Tx P K mg) : Ok P w K mg base 8 (He.ma K (He.ga K "Table") "wasted") (spWasted K) := by
  refine ok_mk T.d_Table_wasted sc_Table_wasted (fun vs H Q E h => ?len) (fun _ _ _ _ _ _ us hl => match us, hl with | [_], _ => rfl) (fun cdv A outer s H vs Q E hr h => ⟨_, (pss_cons (ps_par (i := 1) (j := 2) (by rfl) sc_Table_wasted.nd rfl rfl (by decide) rfl rfl (pa_cons (pe_fld (pv 0) rfl) (pa_cons pe_int pa_nil)) (by rfl)) (pss_cons (ps_for PassesOwn.never rfl (pi_list (pe_ix ix_tup (pe_fld (pv 0) rfl) pe_int (fun _ _ => rfl))) (pg_name (i := 3) sc_Table_wasted.nd rfl (Or.inl rfl)) (pss_cons (ps_set (i := 4) sc_Table_wasted.nd rfl (.inl rfl) (pe_ob T.co_Flip (ok_Flip_dcalld T) hr (pv 3) (pa_cons (pv 1) pa_nil))) (pss_cons (ps_aug (i := 2) sc_Table_wasted.nd rfl (.inl rfl) (pe_callTy cq_int1 (by rfl) T.z_int (by decide +kernel) (pa_cons (pe_cmpR op_ge (pe_me T.c_Table T.m_Table_cost_of (ok_Table_cost_of T) hr (pv 0) (pa_cons (pv 4) pa_nil)) (pe_me T.c_Table T.m_Table_cost_of (ok_Table_cost_of T) hr (pv 0) (pa_cons (pv 1) pa_nil)) (nomark _)) pa_nil)) ip_add) (pss_one (ps_set (i := 1) sc_Table_wasted.nd rfl (.inl rfl) (pv 4)))))) (pss_one (ps_ret (pv 2))))), ?body⟩)
  case len => obtain ⟨t, r0, wt, st, u0, g, o, r, dl, ul, dfs, ds, rfl, _⟩ := h; rfl
  case body =>
    obtain ⟨t, r0, wt, st, u0, g, o, r, dl, ul, dfs, ds, rfl, ⟨dx, ht⟩, hb, hs, hd, hF, hok, q⟩ := h
    have zu := hb.row.1
    walk_at "st"
    refine w_forW (walk_list (xs := List.map V.ref dfs)) (fun i σ' H' => ∃ r1 x1 x2, σ' = [some (.ref t), some (.ref r1), some (.int ((ds.take i).foldl (wasteF g o) (u0, 0)).2), x1, x2] ∧ Ex H H' ∧ IsRow K H' r1 ((ds.take i).foldl (wasteF g o) (u0, 0)).1) ?i0 ?iG ?is ?id
    case i0 => exact ⟨r0, none, none, rfl, Ex.refl _, hb.row⟩
    case iG =>
      rintro i σ' H' _ ⟨r1, x1, x2, _, e5, _⟩
      exact sl_of (e5 _ _ hd)
    case is =>
      rintro i x σ' H' H'' hi ⟨r1, x1, x2, rfl, e5, hr1⟩ ⟨rfl, hx⟩
      obtain ⟨f, hf, rfl⟩ := map_at hx
      have hlen := paired_len hF
      obtain ⟨p, hp⟩ : ∃ p, ds[i]? = some p := by
        have : i < ds.length := by rw [← hlen]; exact (List.getElem?_eq_some_iff.mp hf).1
        exact ⟨ds[i], List.getElem?_eq_getElem this⟩
      have hfp := paired_at hF i f p hf hp
      obtain ⟨k1, k2⟩ := hok p (List.mem_of_getElem? hp)
      have zl : ((ds.take i).foldl (wasteF g o) (u0, 0)).1.length = u0.length := by
        rw [waste_fst]
        exact turns_len _ _ _ rfl fun q hq => hok q (List.mem_of_mem_take hq)
      have ef := take_fold (f := wasteF g o) (b := (u0, (0 : Int))) hp
      generalize (ds.take i).foldl (wasteF g o) (u0, 0) = S0 at *
      rw [ef]
      walk_at "go"
      refine w_flip (hfp.ex e5) hr1 k1 (by omega) fun t1 H1 e1 ht1 => ?_
      walk_at "go"
      refine ⟨t, r0, wt, st, u0, g, o, t1, _, rfl, ⟨dx, e1 _ _ (e5 _ _ ht)⟩, (hb.ex e5).ex e1, ht1, ?_⟩
      walk_at "go"
      refine ⟨t, r0, wt, st, u0, g, o, r1, _, rfl, ⟨dx, e1 _ _ (e5 _ _ ht)⟩, (hb.ex e5).ex e1, hr1.ex e1, ?_⟩
      walk_at "go"
      exact ⟨_, _, _, rfl, e5.trans e1, ht1⟩
    case id =>
      rintro σ' H' ⟨r1, x1, x2, rfl, e5, hr1⟩
      rw [List.length_map, paired_len hF, List.take_length]
      walk_at "go"
      exact q H' e5
def spClone (K : PySem.W.Frag) : Sp := fun vs H Q _ => ∃ t r0 wt st u0 g o, vs = [.ref t] ∧ TabO K H t r0 wt st ∧ BgAt K H r0 wt u0 g o ∧ (∃ u, H st = some u) ∧ ∀ c wt2 H', Ex H H' → H c = none → TabO K H' c r0 wt2 st → BgAt K H' r0 wt2 u0 g o → Q (.ref c) H'
theorem sc_Table_clone : FnScope ["self", "other"] ["self"] (defScope (inClass (top 46) 17)) := ⟨rfl, rfl, rfl, by decide +kernel, rfl, by decide +kernel, by decide +kernel⟩
theorem ok_Table_clone {P : Program} {w : World} {K : PySem.W.Frag} {mg : Str → Option Value} {base : Heap} (T : Tx P K mg) : Ok P w K mg base 5 (He.ma K (He.ga K "Table") "clone") (spClone K) := by
  refine ok_mk T.d_Table_clone sc_Table_clone (fun vs H Q E h => ?len) (fun _ _ _ _ _ _ us hl => match us, hl with | [_], _ => rfl) (fun cdv A outer s H vs Q E hr h => ⟨_, (pss_cons (ps_set (i := 1) sc_Table_clone.nd rfl (.inl rfl) (pe_new T.k_Table (ok_Table_dinitd T) hr T.gc_Table (pa_cons (pe_fld (pv 0) rfl) (pa_cons (pe_ix ix_tup (pe_fld (pv 0) rfl) pe_int (fun _ _ => rfl)) (pa_cons (pe_ix ix_tup (pe_fld (pv 0) rfl) pe_int (fun _ _ => rfl)) pa_nil))))) (pss_cons (ps_fld (pv 1) (pe_fld (pv 0) rfl) rfl) (pss_one (ps_ret (pv 1))))), ?body⟩)
  case len => obtain ⟨t, r0, wt, st, u0, g, o, rfl, _⟩ := h; rfl
  case body =>
    obtain ⟨t, r0, wt, st, u0, g, o, rfl, ⟨dx, ht⟩, hb, ⟨su, hsu⟩, q⟩ := h
    have hw := hb.wds
    walk_at "st"
    refine w_mkTab hb.row fun c wt2 st2 dl2 ul2 H2 e2 nc hc hb2 _ => ?_
    obtain ⟨dy, hc⟩ := hc
    walk_at "go"
    intro H3 m3 h3
    walk_at "go"
    have nt : wt2 ≠ c := fun z => by
      have := hb2.wds
      rw [z, hc] at this
      cases this
    exact q c wt2 H3 (m3 H e2 nc) nc ⟨dy, h3⟩ ⟨hb.row.ex (m3 H e2 nc), mu_at m3 hb2.wds nt⟩
def rEqRL (K : PySem.W.Frag) : R2 := fun x y H Q => rEqRf K x y H Q ∨ rEqLen K x y H Q
theorem op_eqRL {X : Cx} {k : Nat} (hr : Room k X.A) (hk : 1 ≤ k := by decide) : OpR X (compareOp .Eq) (rEqRL X.K) := fun pins s σ H x y v u Q I rx ry h => h.elim (op_eqRf hr hk pins s σ H x y v u Q I rx ry) (op_eqLen hr pins s σ H x y v u Q I rx ry)
def spTabEq (K : PySem.W.Frag) : Sp := fun vs H Q _ => ∃ t r0 wt st s r1 wu su u0 g o r dl ul dfs r' dl' ul' dfs', vs = [.ref t, .ref s] ∧ TabO K H t r0 wt st ∧ TabO K H s r1 wu su ∧ BgAt K H r0 wt u0 g o ∧ BgAt K H r1 wu u0 g o ∧
  H st = some (.tup [.ref r, .ref dl, .ref ul]) ∧ H dl = some (.lst (List.map V.ref dfs)) ∧ H su = some (.tup [.ref r', .ref dl', .ref ul']) ∧ H dl' = some (.lst (List.map V.ref dfs')) ∧ ∃ b, (b = true → dfs = dfs') ∧ (b = false → dfs.length ≠ dfs'.length) ∧ ∀ H', Ex H H' → Q (.bl b) H'
theorem dp_words {K : PySem.W.Frag} {H : Hp} {wt : Addr} {g : Gm} {o : Go} (h : H wt = some (.tup [.str g.s, .str o.s])) : Dp K H (.ref wt) (.tuple [.str g.s, .str o.s]) := .tup (st_of h) (.cons (.str _) (.cons (.str _) .nil))
theorem fl_words (g : Gm) (o : Go) : Fl 2 (.tuple [.str g.s, .str o.s]) := fl_tuple fun d hd => by
  simp at hd
  rcases hd with rfl | rfl
  · cases g <;> exact fl_str (by decide +kernel)
  · cases o <;> exact fl_str (by decide +kernel)
theorem sc_Table_deqd : FnScope ["self", "other"] ["self", "other"] (defScope (inClass (top 46) 7)) := ⟨rfl, rfl, rfl, by decide +kernel, rfl, by decide +kernel, by decide +kernel⟩
theorem ok_Table_deqd {P : Program} {w : World} {K : PySem.W.Frag} {mg : Str → Option Value} {base : Heap} (T : Tx P K mg) : Ok P w K mg base 3 (He.ma K (He.ga K "Table") "__eq__") (spTabEq K) := by
  refine ok_mk T.d_Table_deqd sc_Table_deqd (fun vs H Q E h => ?len) (fun _ _ _ _ _ _ us hl => match us, hl with | [_, _], _ => rfl) (fun cdv A outer s H vs Q E hr h => ⟨_, (pss_cons (ps_if (PW.pt (pw_or (pt_not (pt_val (pe_callB call_isi (by rfl) T.z_isinstance (by decide +kernel) (pa_cons (pv 1) (pa_cons (pe_glob (v := .ref (He.ga K "Table")) rfl T.gc_Table rfl) pa_nil))))) (pw_or1 (pt_cmpR (op_neD hr.units) (pe_fld (pv 0) rfl) (pe_fld (pv 1) rfl) (nomark _))))) (pss_one (ps_ret pe_bl)) pss_nil) (pss_one (ps_ret (pe_and (pe_cmpR (op_ownEq T.m_Row_deqd (ok_Row_deqd T) hr) (pe_fld (pv 0) rfl) (pe_fld (pv 1) rfl) (nomark _)) (pe_one (pe_cmpR (op_eqRL hr) (pe_ix ix_tup (pe_fld (pv 0) rfl) pe_int (fun _ _ => rfl)) (pe_ix ix_tup (pe_fld (pv 1) rfl) pe_int (fun _ _ => rfl)) (nomark _))))))), ?body⟩)
  case len => obtain ⟨t, r0, wt, st, s, r1, wu, su, u0, g, o, r, dl, ul, dfs, r', dl', ul', dfs', rfl, _⟩ := h; rfl
  case body =>
    obtain ⟨t, r0, wt, st, s', r1, wu, su, u0, g, o, r, dl, ul, dfs, r', dl', ul', dfs', rfl, ⟨dx, ht⟩, ⟨dy, hs⟩, hb, hb2, hst, hdl, hsu, hdl', b, hb1, hb0, q⟩ := h
    walk_at "st"
    refine w_neSame (dp_words hb.wds) (dp_words hb2.wds) (fl_words g o) ?_
    walk_at "go"
    obtain ⟨d1, fs1, i1⟩ := hb.row.ins
    obtain ⟨d2, fs2, i2⟩ := hb2.row.ins
    refine ⟨r0, r1, d1, d2, fs1, fs2, rfl, rfl, i1, i2, r0, r1, _, _, rfl, hb.row.2, hb2.row.2, ?_⟩
    walk_at "go"
    cases b with
    | true =>
      cases hb1 rfl
      exact .inl ⟨dl, dl', dfs, rfl, rfl, hdl, hdl', fun H' e => q H' e⟩
    | false => exact .inr ⟨dl, dl', _, _, rfl, rfl, hdl, hdl', by rw [List.length_map, List.length_map]; exact hb0 rfl, q H (Ex.refl _)⟩
end Tcf

set_option Elab.async false
set_option linter.all false
set_option maxRecDepth 100000
set_option maxHeartbeats 4000000
/-! DN: what changes a table (printed from DN.tmpl by gen_der.py). -/
namespace Tcf
open PySem PySem.Spec PyProof.Rows L2
open Evl (Ex)
set_option hygiene false in
local macro_rules | `(tactic| walk_at "lkT") => `(tactic| first | (with_reducible exact T.l_GAMES _) | (with_reducible exact T.l_GOALS _))
set_option hygiene false in
local macro_rules | `(tactic| walk_at "isx") => `(tactic| first | (with_reducible exact T.is_Row (by walk_at "lk")) | (with_reducible exact T.is_Flip (by walk_at "lk")) | (with_reducible exact T.is_Table (by walk_at "lk")))
local macro_rules | `(tactic| walk_at "lk") => `(tactic| first
  | assumption
  | walk_at "lkT"
  | ((with_reducible refine' ex_at (by assumption) ?wk); (case wk => walk_at "lk"))
  | ((with_reducible refine' sl_of ?wk); (case wk => walk_at "lk"))
  | ((with_reducible refine' st_of ?wk); (case wk => walk_at "lk"))
  | ((with_reducible refine' ex_l (by assumption) ?wk); (case wk => walk_at "lk"))
  | ((with_reducible refine' ex_t (by assumption) ?wk); (case wk => walk_at "lk"))
  | ((with_reducible refine' mu_at (by assumption) ?wk ?wn); (case wk => walk_at "lk"); (case wn => assumption)))
set_option hygiene false in
local macro_rules | `(tactic| walk_at "sd") => `(tactic| first
  | exact rfl | assumption | (with_reducible exact T.c_Row) | (with_reducible exact T.c_Flip) | (with_reducible exact T.c_Table) | (with_reducible exact T.c_Trial)
  | (with_reducible exact T.n_Row_colour) | (with_reducible exact T.n_Row_sizes) | (with_reducible exact T.n_Flip_begin) | (with_reducible exact T.n_Flip_finish) | (with_reducible exact T.n_Trial_home) | (with_reducible exact T.n_Trial_kept)
  | (with_reducible exact T.n_Table_beginning) | (with_reducible exact T.n_Table_words) | (with_reducible exact T.n_Table_state))
local macro_rules | `(tactic| walk_at "w") => `(tactic| first
  | (with_reducible refine w_seq ?_) | (with_reducible refine w_asg ?_) | (with_reducible refine w_gName ?_) | (with_reducible refine w_ret ?_) | (with_reducible refine w_ifS ?_) | (with_reducible refine w_drop ?_) | (with_reducible refine w_next ?_)
  | ((with_reducible refine' w_aug ?wh ?_); (case wh => exact rfl)) | (with_reducible refine w_match ?_) | (with_reducible refine w_case ?_)
  | ((with_reducible refine' w_var ?wh ?_); (case wh => exact rfl))
  | (with_reducible refine w_c ?_) | (with_reducible refine w_op ?_) | (with_reducible refine w_un ?_) | (with_reducible refine w_nil ?_) | (with_reducible refine w_cons ?_) | (with_reducible refine w_star ?_) | (with_reducible refine w_tup ?_) | (with_reducible refine w_lst ?_)
  | (with_reducible refine w_if ?_) | (with_reducible refine w_and ?_) | (with_reducible refine w_or ?_) | (with_reducible refine w_not ?_) | (with_reducible refine w_bq ?_) | (with_reducible refine w_B ?_) | (with_reducible refine w_test ?_) | (with_reducible refine w_andV ?_) | (with_reducible refine w_orV ?_) | (with_reducible refine w_notV ?_)
  | (with_reducible refine w_chain ?_) | (with_reducible refine w_rI0 ?_) | (with_reducible refine w_rU ?_) | (with_reducible refine w_ipI ?_)
  | (with_reducible refine w_eqI ?_) | (with_reducible refine w_neI ?_) | (with_reducible refine w_eqS ?_) | (with_reducible refine w_neS ?_) | (with_reducible refine w_eqB ?_) | (with_reducible refine w_neB ?_) | (with_reducible refine w_isNr ?_) | (with_reducible refine w_isNn ?_)
  | (with_reducible refine w_sl ?_) | (with_reducible refine w_noPart ?_) | (with_reducible refine w_part ?_) | (with_reducible refine w_pq ?_) | (with_reducible refine w_revL ?_) | (with_reducible refine w_revS ?_)
  | (with_reducible refine w_cb ?_) | (with_reducible refine w_min2 ?_) | (with_reducible refine w_max2 ?_) | (with_reducible refine w_intB ?_)
  | (with_reducible refine w_fn ?_) | (with_reducible refine w_me ?_) | (with_reducible refine w_pr ?_) | (with_reducible refine w_mk ?_) | (with_reducible refine w_fld ?_)
  | (with_reducible refine w_isi_ii ?_) | (with_reducible refine w_isi_ib ?_) | (with_reducible refine w_isi_ss ?_)
  | ((with_reducible refine' w_isi_ll ?wh ?_); (case wh => walk_at "lk"))
  | ((with_reducible refine' w_isi_own ?wh ?wq); (case wh => walk_at "isx"))
  | ((with_reducible refine' w_lenL ?wh ?_); (case wh => walk_at "lk")) | ((with_reducible refine' w_ixL ?wh ?wi ?_); (case wh => walk_at "lk"); (case wi => first | assumption | exact rfl)) | ((with_reducible refine' w_ixT ?wh ?wi ?_); (case wh => walk_at "lk"); (case wi => first | assumption | exact rfl))
  | ((with_reducible refine' w_slL ?wh ?_); (case wh => walk_at "lk")) | ((with_reducible refine' w_rvq ?wh ?_); (case wh => walk_at "lk")) | ((with_reducible refine' w_listO ?wh ?_); (case wh => walk_at "lk")) | ((with_reducible refine' w_starL ?wh ?_); (case wh => walk_at "lk"))
  | ((with_reducible refine' w_fq ?wh ?wc ?wn ?wl ?_); (case wh => walk_at "lk"); (case wc => walk_at "sd"); (case wn => walk_at "sd"); (case wl => exact rfl))
  | ((with_reducible refine' w_sum ?wh ?_); (case wh => walk_at "lk"))
  | ((with_reducible refine' w_all ?wh ?_); (case wh => walk_at "lk"))
  | (with_reducible refine w_forL ?_) | ((with_reducible refine' w_forLq ?wh ?_); (case wh => walk_at "lk")) | (with_reducible refine w_forS ?_) | (with_reducible refine w_forSq ?_) | (with_reducible refine w_forR1 ?_) | ((with_reducible refine' w_forR1q ?wh ?_); (case wh => omega)) | (with_reducible refine w_forR2 ?_) | ((with_reducible refine' w_forR2q ?wh ?_); (case wh => omega)) | (with_reducible refine w_forE ?_) | ((with_reducible refine' w_forEq ?wh ?_); (case wh => walk_at "lk"))
  | (with_reducible refine w_lcL ?_) | ((with_reducible refine' w_lcLq ?wh ?_); (case wh => walk_at "lk")) | (with_reducible refine w_lcS ?_) | (with_reducible refine w_lcSq ?_) | (with_reducible refine w_lcR2 ?_) | ((with_reducible refine' w_lcR2q ?wh ?_); (case wh => omega))
  | (with_reducible refine w_bm ?_) | ((with_reducible refine' w_bmq ?wh ?_); (case wh => walk_at "lk")) | (with_reducible refine w_bm0 ?_) | ((with_reducible refine' w_bm0q ?wh ?_); (case wh => walk_at "lk"))
  | ((with_reducible refine' w_getL ?wh ?wi ?_); (case wh => walk_at "lk"); (case wi => first | assumption | exact rfl)) | (with_reducible refine w_gSub ?_) | (with_reducible refine w_augS ?_)
  | ((with_reducible refine' w_gTup ?wh ?wl ?_); (case wh => walk_at "lk"); (case wl => exact rfl)) | (with_reducible refine w_gCons ?_) | (with_reducible refine w_gNil ?_)
  | (with_reducible refine w_parT ?_) | (with_reducible refine w_parq ?_) | (with_reducible refine w_par3T ?_) | (with_reducible refine w_par3q ?_) | (with_reducible refine w_sfld ?_) | (with_reducible refine w_ob ?_) | (with_reducible refine w_obq ?_)
  | ((with_reducible refine' w_sfq ?wh ?wc ?wn ?wl ?wq); (case wh => walk_at "lk"); (case wc => walk_at "sd"); (case wn => walk_at "sd"); (case wl => exact Nat.le_of_ble_eq_true rfl))
  | ((with_reducible refine' w_rI ?wh ?wq); (case wh => first | decide | exact ⟨by decide, by decide⟩)) | (with_reducible refine w_pairsC ?_) | (with_reducible refine w_pairsN ?_) | ((with_reducible refine' w_cat ?wh ?wk ?wl ?wq); (case wh => walk_at "lk"); (case wk => walk_at "lk"); (case wl => walk_at "sz"))
  | ((with_reducible refine' w_mqRow ?wh ?wl ?wk ?wq); (case wh => walk_at "rw"); (case wl => exact rfl); (case wk => exact rfl))
  | ((with_reducible refine' w_mq ?wh ?wl ?wq); (case wh => walk_at "lk"); (case wl => exact rfl))
  | ((with_reducible refine' w_wipe ?wh ?wq); (case wh => exact rfl)) | (with_reducible refine w_yesT ?_)
  | (with_reducible refine w_isNumber ?_) | (with_reducible refine w_isCount ?_) | (with_reducible refine w_isColour ?_) | (with_reducible refine w_checkGame ?_) | (with_reducible refine w_checkGoal ?_) | (with_reducible refine w_checkWords ?_)
  | (with_reducible refine iteT ?_) | (with_reducible refine iteF ?_) | ((with_reducible refine' w_yes ?wh ?_); (case wh => exact rfl)) | ((with_reducible refine' w_no ?wh ?_); (case wh => exact rfl)))
local macro_rules | `(tactic| walk_at "sz") => `(tactic| first | (refine sz_le ?_; first | assumption | (simp only [List.length_map, List.length_append, List.length_cons, List.length_nil]; omega) | omega) | (refine sz_lt ?_; first | assumption | (simp only [List.length_map, List.length_append, List.length_cons, List.length_nil]; omega) | omega))
local macro_rules | `(tactic| walk_at "go") => `(tactic| repeat (walk_at "w"))
local macro_rules | `(tactic| walk_at "bt") => `(tactic| first | exact rfl | assumption | (simp [*]; done) | (simp; omega) | (simp [*]; omega))
local macro_rules | `(tactic| walk_at "yes") => `(tactic| ((with_reducible refine' w_yes ?wh ?wq); (case wh => walk_at "bt"); walk_at "go"))
local macro_rules | `(tactic| walk_at "no") => `(tactic| ((with_reducible refine' w_no ?wh ?wq); (case wh => walk_at "bt"); walk_at "go"))
local macro_rules | `(tactic| walk_at "st") => `(tactic| ((try dsimp only [L2.cxOf, L2.Cx.nox, L2.Cx.wish]); walk_at "go"))
local macro_rules | `(tactic| walk_at "rw") => `(tactic| first | assumption | ((with_reducible refine' IsRow.rw ?wk); (case wk => walk_at "rw")) | ((with_reducible refine' IsRw.ex (by assumption) ?wk); (case wk => walk_at "rw")) | ((with_reducible refine' IsRow.ex (by assumption) ?wk); (case wk => walk_at "rw")))
local macro_rules | `(tactic| walk_at "ro") => `(tactic| first | assumption | ((with_reducible refine' IsRow.ex (by assumption) ?wk); (case wk => walk_at "ro")))
local macro_rules | `(tactic| walk_at "fl") => `(tactic| first | assumption | ((with_reducible refine' IsFlip.ex (by assumption) ?wk); (case wk => walk_at "fl")))
local macro_rules | `(tactic| walk_at "w") => `(tactic| first
  | ((with_reducible refine' w_first ?wh ?wq); (case wh => walk_at "rw")) | ((with_reducible refine' w_runs ?wh ?wq); (case wh => walk_at "rw")) | ((with_reducible refine' w_length ?wh ?wq); (case wh => walk_at "rw")) | ((with_reducible refine' w_lengths ?wh ?wq); (case wh => walk_at "rw")))
local macro_rules | `(tactic| walk_at "w") => `(tactic| first
  | ((with_reducible refine' w_start ?wh ?wq); (case wh => walk_at "fl")) | ((with_reducible refine' w_end ?wh ?wq); (case wh => walk_at "fl")))
local macro_rules | `(tactic| walk_at "w") => `(tactic| first | (with_reducible refine w_dget ?_))
theorem IsRow.mu {K : PySem.W.Frag} {H H' : Hp} {r t : Addr} {u : Wd} {r0 wt st : Addr} (m : Mu t H H') (h : IsRow K H r u) (ht : TabO K H t r0 wt st) : IsRow K H' r u := by
  obtain ⟨zu, dx, p, h1, h2⟩ := h
  obtain ⟨dy, ht⟩ := ht
  refine ⟨zu, dx, p, mu_at m h1 (ne_of h1 ht fun z => ?_), mu_at m h2 (ne_of h2 ht (by intro z; cases z))⟩
  injection z with z1 z2 z3
  injection z3 with z4
  injection z4 with z5
  exact absurd z5 (by decide)
theorem BgAt.mu {K : PySem.W.Frag} {H H' : Hp} {t r0 wt st : Addr} {u0 : Wd} {g : Gm} {o : Go} (m : Mu t H H') (h : BgAt K H r0 wt u0 g o) (ht : TabO K H t r0 wt st) : BgAt K H' r0 wt u0 g o := by
  obtain ⟨dy, ht'⟩ := id ht
  exact ⟨h.row.mu m ht, mu_at m h.wds (ne_of h.wds ht' (by intro z; cases z))⟩
theorem IsFlip.mu {K : PySem.W.Frag} {H H' : Hp} {f t : Addr} {a b : Int} {r0 wt st : Addr} (m : Mu t H H') (h : IsFlip K H f a b) (ht : TabO K H t r0 wt st) : IsFlip K H' f a b := by
  obtain ⟨dx, h1⟩ := h
  obtain ⟨dy, ht⟩ := ht
  refine ⟨dx, mu_at m h1 (ne_of h1 ht fun z => ?_)⟩
  injection z with z1 z2 z3
  injection z3 with z4
  injection z4 with z5
  exact absurd z5 (by decide)
theorem FlipsAt.mu {K : PySem.W.Frag} {H H' : Hp} {fs : List Addr} {ps : List Pl} {t r0 wt st : Addr} (m : Mu t H H') (h : FlipsAt K H fs ps) (ht : TabO K H t r0 wt st) : FlipsAt K H' fs ps := paired_mono (fun _ _ k => k.mu m ht) h
theorem StAt.mu {K : PySem.W.Frag} {H H' : Hp} {st r dl ul : Addr} {dfs ufs : List Addr} {u : Wd} {ds us : List Pl} {t r0 wt s2 : Addr} (m : Mu t H H') (h : StAt K H st r dl ul dfs ufs u ds us) (ht : TabO K H t r0 wt s2) : StAt K H' st r dl ul dfs ufs u ds us := by
  obtain ⟨dy, ht'⟩ := id ht
  exact ⟨mu_at m h.tup (ne_of h.tup ht' (by intro z; cases z)), h.row.mu m ht, mu_at m h.don (ne_of h.don ht' (by intro z; cases z)), mu_at m h.und (ne_of h.und ht' (by intro z; cases z)), h.dF.mu m ht, h.uF.mu m ht⟩
theorem FlipsAt.snoc {K : PySem.W.Frag} {H : Hp} {f : Addr} {p : Pl} {fs : List Addr} {ps : List Pl} (h : IsFlip K H f p.1 p.2) (k : FlipsAt K H fs ps) : FlipsAt K H (fs ++ [f]) (ps ++ [p]) := paired_snoc (R := fun f (p : Pl) => IsFlip K H f p.1 p.2) h k
theorem FlipsAt.app {K : PySem.W.Frag} {H : Hp} : ∀ {fs : List Addr} {ps : List Pl} {gs : List Addr} {qs : List Pl}, FlipsAt K H fs ps → FlipsAt K H gs qs → FlipsAt K H (fs ++ gs) (ps ++ qs)
  | _, _, _, _, .nil, h => h
  | _, _, _, _, .cons a b, h => .cons a (FlipsAt.app b h)
theorem FlipsAt.last {K : PySem.W.Frag} {H : Hp} {fs : List Addr} {ps : List Pl} {p : Pl} (h : FlipsAt K H fs (ps ++ [p])) : ∃ gs f, fs = gs ++ [f] ∧ FlipsAt K H gs ps ∧ IsFlip K H f p.1 p.2 := by
  have hl := paired_len h
  have hne : fs ≠ [] := fun z => by rw [z] at hl; simp at hl
  obtain ⟨gs, f, rfl⟩ := snoc_of hne
  have hl2 : gs.length = ps.length := by simp at hl; exact hl
  refine ⟨gs, f, rfl, paired_mk hl2 fun i a b ha hb => ?_, ?_⟩
  · have i1 := (List.getElem?_eq_some_iff.mp ha).1
    have i2 := (List.getElem?_eq_some_iff.mp hb).1
    exact paired_at h i a b (by rw [List.getElem?_append_left i1]; exact ha) (by rw [List.getElem?_append_left i2]; exact hb)
  · exact paired_at h gs.length f p (by simp) (by rw [hl2]; simp)
theorem w_tlen {K : PySem.W.Frag} {H : Hp} {Q : VK} {t r0 wt st r dl ul : Addr} {dfs : List Addr} (ht : TabO K H t r0 wt st) (hs : H st = some (.tup [.ref r, .ref dl, .ref ul])) (hd : H dl = some (.lst (List.map V.ref dfs))) (z : dfs.length ≤ 1000000) (q : Q (.int (dfs.length : Nat)) H) :
    rOwnLen (He.ga K "Table") (spTLen K) [.ref t] H Q := by
  obtain ⟨dx, h1⟩ := id ht
  exact ⟨t, dx, _, rfl, h1, t, r0, wt, st, r, dl, ul, dfs, rfl, ht, hs, hd, _, rfl, z, q⟩
def spTFlip (K : PySem.W.Frag) : Sp := fun vs H Q E => ∃ t r0 wt st u0 g o r dl ul dfs ufs u ds us a b, vs = [.ref t, .int a, .int b] ∧ TabO K H t r0 wt st ∧ BgAt K H r0 wt u0 g o ∧ StAt K H st r dl ul dfs ufs u ds us ∧ ds.length ≤ 5000 ∧
  (¬ (0 ≤ a ∧ a < b) → ∀ H', Ex H H' → E (.ref (He.ga K "InvalidFlip")) none H') ∧
  (0 ≤ a → a < b → allowB g u.length a b = false → ∀ H', Ex H H' → E (.ref (He.ga K "NotAllowed")) none H') ∧
  (∀ a' b' : Nat, a = a' → b = b' → a' < b' → allowB g u.length a b = true → ∀ H' st' r' dl' ul' f, Mu t H H' → TabO K H' t r0 wt st' → BgAt K H' r0 wt u0 g o → StAt K H' st' r' dl' ul' (dfs ++ [f]) [] (turnW u a' b') (ds ++ [(a', b')]) [] → Q (.int ((ds.length + 1 : Nat) : Int)) H')
theorem sc_Table_flip : FnScope ["self", "start", "end", "step"] ["self", "start", "end"] (defScope (inClass (top 46) 9)) := ⟨rfl, rfl, rfl, by decide +kernel, rfl, by decide +kernel, by decide +kernel⟩
theorem ok_Table_flip {P : Program} {w : World} {K : PySem.W.Frag} {mg : Str → Option Value} {base : Heap} (T : Tx P K mg) : Ok P w K mg base 8 (He.ma K (He.ga K "Table") "flip") (spTFlip K) := by
  refine ok_mkX T.d_Table_flip sc_Table_flip (fun vs H Q E h => ?len) (fun _ _ _ _ _ _ us hl => match us, hl with | [_, _, _], _ => rfl) (fun cdv A outer s H vs Q E hr h => ⟨_, (pss_cons (ps_set (i := 3) sc_Table_flip.nd rfl (.inl rfl) (pe_newX T.k_Flip (ok_Flip_dinitd T) hr T.gc_Flip (passes_call (E := E) (takes_of rfl rfl rfl rfl) (fun _ _ _ _ h => h)) (pa_cons (pv 1) (pa_cons (pv 2) pa_nil)))) (pss_cons (ps_if (pt_not (pt_val (pe_fn (ok_is_allowed T) hr T.g_is_allowed (pa_cons (pe_ix ix_tup (pe_fld (pv 0) rfl) pe_int (fun _ _ => rfl)) (pa_cons (pv 3) (pa_cons (pe_ix ix_tup (pe_fld (pv 0) rfl) pe_int (fun _ _ => rfl)) pa_nil)))))) (pss_one (ps_raise rfl (takes_of rfl rfl rfl rfl) (pmk_own PySem.F.excBase_RuntimeError T.e_NotAllowed T.ge_NotAllowed T.ke_NotAllowed (raises_own T.r_NotAllowed.1 T.r_NotAllowed.2) rfl))) pss_nil) (pss_cons (ps_fld (pv 0) (pe_tup (pa_cons (pe_ob T.co_Flip (ok_Flip_dcalld T) hr (pv 3) (pa_cons (pe_ix ix_tup (pe_fld (pv 0) rfl) pe_int (fun _ _ => rfl)) pa_nil)) (pa_cons (pe_lst (StX.pa_star (pe_ix ix_tup (pe_fld (pv 0) rfl) pe_int (fun _ _ => rfl)) (pa_cons (pv 3) pa_nil))) (pa_cons (pe_lst pa_nil) pa_nil)))) rfl) (pss_one (ps_ret (pe_callB (call_ownLen T.m_Table_dlend (ok_Table_dlend T) hr) (by rfl) T.z_len (by decide +kernel) (pa_cons (pv 0) pa_nil))))))), ?body⟩)
  case len => obtain ⟨t, r0, wt, st, u0, g, o, r, dl, ul, dfs, ufs, u, ds, us, a, b, rfl, _⟩ := h; rfl
  case body =>
    obtain ⟨t, r0, wt, st, u0, g, o, r, dl, ul, dfs, ufs, u, ds, us, a, b, rfl, ht0, hb, hst, zd, q1, q2, q3⟩ := h
    obtain ⟨dx, ht⟩ := id ht0
    have hw := hb.wds
    have hsT := hst.tup
    have hdn := hst.don
    have zl := paired_len hst.dF
    walk_at "st"
    refine w_mkFlip (fun ha hab f H2 e2 nf hf => ?_) (fun z H2 e2 => q1 z H2 e2)
    walk_at "go"
    refine ⟨r, f, a, b, u, g, rfl, hf, hst.row.ex e2, ?_⟩
    walk_at "go"
    refine w_ite (fun e => ?_) (fun e => ?_)
    · walk_at "go"
      exact q2 ha hab (by simpa using e) H2 e2
    · have hal : allowB g u.length a b = true := by simpa using e
      obtain ⟨a', rfl⟩ := Int.eq_ofNat_of_zero_le ha
      obtain ⟨b', rfl⟩ := Int.eq_ofNat_of_zero_le (show 0 ≤ b by omega)
      have hbl : b' ≤ u.length := by
        unfold allowB at hal
        simp at hal
        omega
      walk_at "go"
      refine w_flip hf (hst.row.ex e2) (by omega) hbl fun r1 H3 e3 hr1 => ?_
      walk_at "go"
      refine w_newA (by show _ ≤ sizeLine; exact sz_le (by simp; omega)) fun dl1 H4 e4 n4 h4 => ?_
      walk_at "go"
      refine w_newA (by show (0 : Nat) ≤ sizeLine; decide) fun ul1 H5 e5 n5 h5 => ?_
      walk_at "go"
      refine w_newA (by show (3 : Nat) ≤ sizeLine; decide) fun st1 H6 e6 n6 h6 => ?_
      walk_at "go"
      intro H7 m7 h7
      walk_at "go"
      have e26 := (((e2.trans e3).trans e4).trans e5).trans e6
      have mt : Mu t H H7 := (Mu.ofEx e26).trans m7
      have ht6 : TabO K H6 t r0 wt st := ⟨dx, e26 _ _ ht⟩
      have hs6 : StAt K H6 st1 r1 dl1 ul1 (dfs ++ [f]) [] (turnW u a' b') (ds ++ [(a', b')]) [] :=
        ⟨h6, ((hr1.ex e4).ex e5).ex e6, by rw [e6 _ _ (e5 _ _ h4)]; simp, e6 _ _ h5, FlipsAt.snoc ((((hf.ex e3).ex e4).ex e5).ex e6) ((hst.dF).ex e26), .nil⟩
      have hs7 := hs6.mu m7 ht6
      have ht7 : TabO K H7 t r0 wt st1 := ⟨dx, h7⟩
      refine w_tlen ht7 hs7.tup hs7.don (by simp; omega) ?_
      walk_at "go"
      have z2 : (dfs ++ [f]).length = ds.length + 1 := by rw [List.length_append, zl]; rfl
      rw [z2]
      exact q3 a' b' rfl rfl (by omega) hal H7 st1 r1 dl1 ul1 f mt ht7 ((hb.ex e26).mu m7 ht6) hs7
def spUndo (K : PySem.W.Frag) : Sp := fun vs H Q E => ∃ t r0 wt st u0 g o r dl ul dfs ufs u ds us, vs = [.ref t] ∧ TabO K H t r0 wt st ∧ BgAt K H r0 wt u0 g o ∧ StAt K H st r dl ul dfs ufs u ds us ∧ ds.length ≤ 5000 ∧ us.length ≤ 5000 ∧ OkFl u.length ds ∧
  (ds = [] → E (.ref (He.ga K "NothingToUndo")) none H) ∧
  (∀ ds' p, ds = ds' ++ [p] → ∀ H' st' r' dl' ul' dfs' f, Mu t H H' → TabO K H' t r0 wt st' → BgAt K H' r0 wt u0 g o → StAt K H' st' r' dl' ul' dfs' (ufs ++ [f]) (turnW u p.1 p.2) ds' (us ++ [p]) → Q (.int (ds'.length : Nat)) H')
theorem sc_Table_undo : FnScope ["self", "row", "done", "undone", "step"] ["self"] (defScope (inClass (top 46) 10)) := ⟨rfl, rfl, rfl, by decide +kernel, rfl, by decide +kernel, by decide +kernel⟩
theorem ok_Table_undo {P : Program} {w : World} {K : PySem.W.Frag} {mg : Str → Option Value} {base : Heap} (T : Tx P K mg) : Ok P w K mg base 8 (He.ma K (He.ga K "Table") "undo") (spUndo K) := by
  refine ok_mkX T.d_Table_undo sc_Table_undo (fun vs H Q E h => ?len) (fun _ _ _ _ _ _ us hl => match us, hl with | [_], _ => rfl) (fun cdv A outer s H vs Q E hr h => ⟨_, (pss_cons (ps_asg (pe_fld (pv 0) rfl) (pg_tup rfl (pgs_cons (pg_name (i := 1) sc_Table_undo.nd rfl (Or.inl rfl)) (pgs_cons (pg_name (i := 2) sc_Table_undo.nd rfl (Or.inl rfl)) (pgs_cons (pg_name (i := 3) sc_Table_undo.nd rfl (Or.inl rfl)) pgs_nil))))) (pss_cons (ps_if (pt_cmpR op_eq (pe_callB cq_lenQ (by rfl) T.z_len (by decide +kernel) (pa_cons (pv 2) pa_nil)) pe_int (nomark _)) (pss_one (ps_raise rfl (takes_of rfl rfl rfl rfl) (pmk_own PySem.F.excBase_RuntimeError T.e_NothingToUndo T.ge_NothingToUndo T.ke_NothingToUndo (raises_own T.r_NothingToUndo.1 T.r_NothingToUndo.2) rfl))) pss_nil) (pss_cons (ps_set (i := 4) sc_Table_undo.nd rfl (.inl rfl) (pe_ix ix_list (pv 2) (pe_un un_neg pe_int) (fun _ _ => rfl))) (pss_cons (ps_fld (pv 0) (pe_tup (pa_cons (pe_ob T.co_Flip (ok_Flip_dcalld T) hr (pv 4) (pa_cons (pv 1) pa_nil)) (pa_cons (pe_slice sl_list (pv 2) po_none (po_some (pe_un un_neg pe_int))) (pa_cons (pe_lst (StX.pa_star (pv 3) (pa_cons (pv 4) pa_nil))) pa_nil)))) rfl) (pss_one (ps_ret (pe_callB (call_ownLen T.m_Table_dlend (ok_Table_dlend T) hr) (by rfl) T.z_len (by decide +kernel) (pa_cons (pv 0) pa_nil)))))))), ?body⟩)
  case len => obtain ⟨t, r0, wt, st, u0, g, o, r, dl, ul, dfs, ufs, u, ds, us, rfl, _⟩ := h; rfl
  case body =>
    obtain ⟨t, r0, wt, st, u0, g, o, r, dl, ul, dfs, ufs, u, ds, us, rfl, ht0, hb, hst, zd, zu, hok, q1, q2⟩ := h
    obtain ⟨dx, ht⟩ := id ht0
    have hsT := hst.tup
    have hdn := hst.don
    have hun := hst.und
    have zl := paired_len hst.dF
    have zl2 := paired_len hst.uF
    walk_at "st"
    rw [List.length_map, zl]
    refine w_ite (fun e => ?_) (fun e => ?_)
    · walk_at "go"
      refine q1 ?_
      have : ds.length = 0 := by simpa using e
      exact List.eq_nil_of_length_eq_zero this
    · have hne : ds ≠ [] := fun z => by rw [z] at e; simp at e
      obtain ⟨ds', p, rfl⟩ := snoc_of hne
      obtain ⟨gs, f, rfl, hgs, hf⟩ := hst.dF.last
      obtain ⟨k1, k2⟩ := hok p (by simp)
      have hdn2 : H dl = some (.lst (gs.map V.ref ++ [.ref f])) := by rw [hdn]; simp
      walk_at "go"
      refine w_ixL (K := K) (sl_of hdn2) (atI_last _ _) ?_
      walk_at "go"
      refine w_flip hf hst.row k1 k2 fun r1 H3 e3 hr1 => ?_
      walk_at "go"
      refine w_new fun dl1 H4 e4 n4 h4 => ?_
      rw [cutV_init] at h4
      walk_at "go"
      refine w_newA (by show _ ≤ sizeLine; exact sz_le (by simp; omega)) fun ul1 H5 e5 n5 h5 => ?_
      walk_at "go"
      refine w_newA (by show (3 : Nat) ≤ sizeLine; decide) fun st1 H6 e6 n6 h6 => ?_
      walk_at "go"
      intro H7 m7 h7
      walk_at "go"
      have e26 := ((e3.trans e4).trans e5).trans e6
      have mt : Mu t H H7 := (Mu.ofEx e26).trans m7
      have ht6 : TabO K H6 t r0 wt st := ⟨dx, e26 _ _ ht⟩
      have hs6 : StAt K H6 st1 r1 dl1 ul1 gs (ufs ++ [f]) (turnW u p.1 p.2) ds' (us ++ [p]) :=
        ⟨h6, ((hr1.ex e4).ex e5).ex e6, e6 _ _ (e5 _ _ h4), by rw [e6 _ _ h5]; simp, hgs.ex e26, FlipsAt.snoc (hf.ex e26) (hst.uF.ex e26)⟩
      have hs7 := hs6.mu m7 ht6
      have ht7 : TabO K H7 t r0 wt st1 := ⟨dx, h7⟩
      have zg := paired_len hgs
      refine w_tlen ht7 hs7.tup hs7.don (by simp at zd; omega) ?_
      walk_at "go"
      rw [zg]
      exact q2 ds' p rfl H7 st1 r1 dl1 ul1 gs f mt ht7 ((hb.ex e26).mu m7 ht6) hs7
def spRedo (K : PySem.W.Frag) : Sp := fun vs H Q E => ∃ t r0 wt st u0 g o r dl ul dfs ufs u ds us, vs = [.ref t] ∧ TabO K H t r0 wt st ∧ BgAt K H r0 wt u0 g o ∧ StAt K H st r dl ul dfs ufs u ds us ∧ ds.length ≤ 5000 ∧ us.length ≤ 5000 ∧ OkFl u.length us ∧
  (us = [] → E (.ref (He.ga K "NothingToUndo")) none H) ∧
  (∀ us' p, us = us' ++ [p] → ∀ H' st' r' dl' ul' ufs' f, Mu t H H' → TabO K H' t r0 wt st' → BgAt K H' r0 wt u0 g o → StAt K H' st' r' dl' ul' (dfs ++ [f]) ufs' (turnW u p.1 p.2) (ds ++ [p]) us' → Q (.int ((ds.length + 1 : Nat) : Int)) H')
theorem sc_Table_redo : FnScope ["self", "row", "done", "undone", "step"] ["self"] (defScope (inClass (top 46) 11)) := ⟨rfl, rfl, rfl, by decide +kernel, rfl, by decide +kernel, by decide +kernel⟩
theorem ok_Table_redo {P : Program} {w : World} {K : PySem.W.Frag} {mg : Str → Option Value} {base : Heap} (T : Tx P K mg) : Ok P w K mg base 8 (He.ma K (He.ga K "Table") "redo") (spRedo K) := by
  refine ok_mkX T.d_Table_redo sc_Table_redo (fun vs H Q E h => ?len) (fun _ _ _ _ _ _ us hl => match us, hl with | [_], _ => rfl) (fun cdv A outer s H vs Q E hr h => ⟨_, (pss_cons (ps_asg (pe_fld (pv 0) rfl) (pg_tup rfl (pgs_cons (pg_name (i := 1) sc_Table_redo.nd rfl (Or.inl rfl)) (pgs_cons (pg_name (i := 2) sc_Table_redo.nd rfl (Or.inl rfl)) (pgs_cons (pg_name (i := 3) sc_Table_redo.nd rfl (Or.inl rfl)) pgs_nil))))) (pss_cons (ps_if (pt_cmpR op_eq (pe_callB cq_lenQ (by rfl) T.z_len (by decide +kernel) (pa_cons (pv 3) pa_nil)) pe_int (nomark _)) (pss_one (ps_raise rfl (takes_of rfl rfl rfl rfl) (pmk_own PySem.F.excBase_RuntimeError T.e_NothingToUndo T.ge_NothingToUndo T.ke_NothingToUndo (raises_own T.r_NothingToUndo.1 T.r_NothingToUndo.2) rfl))) pss_nil) (pss_cons (ps_set (i := 4) sc_Table_redo.nd rfl (.inl rfl) (pe_ix ix_list (pv 3) (pe_un un_neg pe_int) (fun _ _ => rfl))) (pss_cons (ps_fld (pv 0) (pe_tup (pa_cons (pe_ob T.co_Flip (ok_Flip_dcalld T) hr (pv 4) (pa_cons (pv 1) pa_nil)) (pa_cons (pe_lst (StX.pa_star (pv 2) (pa_cons (pv 4) pa_nil))) (pa_cons (pe_slice sl_list (pv 3) po_none (po_some (pe_un un_neg pe_int))) pa_nil)))) rfl) (pss_one (ps_ret (pe_callB (call_ownLen T.m_Table_dlend (ok_Table_dlend T) hr) (by rfl) T.z_len (by decide +kernel) (pa_cons (pv 0) pa_nil)))))))), ?body⟩)
  case len => obtain ⟨t, r0, wt, st, u0, g, o, r, dl, ul, dfs, ufs, u, ds, us, rfl, _⟩ := h; rfl
  case body =>
    obtain ⟨t, r0, wt, st, u0, g, o, r, dl, ul, dfs, ufs, u, ds, us, rfl, ht0, hb, hst, zd, zu, hok, q1, q2⟩ := h
    obtain ⟨dx, ht⟩ := id ht0
    have hsT := hst.tup
    have hdn := hst.don
    have hun := hst.und
    have zl := paired_len hst.dF
    have zl2 := paired_len hst.uF
    walk_at "st"
    rw [List.length_map, zl2]
    refine w_ite (fun e => ?_) (fun e => ?_)
    · walk_at "go"
      refine q1 ?_
      have : us.length = 0 := by simpa using e
      exact List.eq_nil_of_length_eq_zero this
    · have hne : us ≠ [] := fun z => by rw [z] at e; simp at e
      obtain ⟨us', p, rfl⟩ := snoc_of hne
      obtain ⟨gs, f, rfl, hgs, hf⟩ := hst.uF.last
      obtain ⟨k1, k2⟩ := hok p (by simp)
      have hun2 : H ul = some (.lst (gs.map V.ref ++ [.ref f])) := by rw [hun]; simp
      walk_at "go"
      refine w_ixL (K := K) (sl_of hun2) (atI_last _ _) ?_
      walk_at "go"
      refine w_flip hf hst.row k1 k2 fun r1 H3 e3 hr1 => ?_
      walk_at "go"
      refine w_newA (by show _ ≤ sizeLine; exact sz_le (by simp; omega)) fun dl1 H4 e4 n4 h4 => ?_
      walk_at "go"
      refine w_new fun ul1 H5 e5 n5 h5 => ?_
      rw [cutV_init] at h5
      walk_at "go"
      refine w_newA (by show (3 : Nat) ≤ sizeLine; decide) fun st1 H6 e6 n6 h6 => ?_
      walk_at "go"
      intro H7 m7 h7
      walk_at "go"
      have e26 := ((e3.trans e4).trans e5).trans e6
      have mt : Mu t H H7 := (Mu.ofEx e26).trans m7
      have ht6 : TabO K H6 t r0 wt st := ⟨dx, e26 _ _ ht⟩
      have hs6 : StAt K H6 st1 r1 dl1 ul1 (dfs ++ [f]) gs (turnW u p.1 p.2) (ds ++ [p]) us' :=
        ⟨h6, ((hr1.ex e4).ex e5).ex e6, by rw [e6 _ _ (e5 _ _ h4)]; simp, e6 _ _ h5, FlipsAt.snoc (hf.ex e26) (hst.dF.ex e26), hgs.ex e26⟩
      have hs7 := hs6.mu m7 ht6
      have ht7 : TabO K H7 t r0 wt st1 := ⟨dx, h7⟩
      refine w_tlen ht7 hs7.tup hs7.don (by simp; omega) ?_
      walk_at "go"
      have z2 : (dfs ++ [f]).length = ds.length + 1 := by rw [List.length_append, zl]; rfl
      rw [z2]
      exact q2 us' p rfl H7 st1 r1 dl1 ul1 gs f mt ht7 ((hb.ex e26).mu m7 ht6) hs7
end Tcf

set_option Elab.async false
set_option linter.all false
set_option maxRecDepth 100000
set_option maxHeartbeats 4000000
/-! DO: lists of flips performed, trials (printed from DO.tmpl by gen_der.py). -/
namespace Tcf
open PySem PySem.Spec PyProof.Rows L2
open Evl (Ex)
set_option hygiene false in
local macro_rules | `(tactic| walk_at "lkT") => `(tactic| first | (with_reducible exact T.l_GAMES _) | (with_reducible exact T.l_GOALS _))
set_option hygiene false in
local macro_rules | `(tactic| walk_at "isx") => `(tactic| first | (with_reducible exact T.is_Row (by walk_at "lk")) | (with_reducible exact T.is_Flip (by walk_at "lk")) | (with_reducible exact T.is_Table (by walk_at "lk")))
local macro_rules | `(tactic| walk_at "lk") => `(tactic| first
  | assumption
  | walk_at "lkT"
  | ((with_reducible refine' ex_at (by assumption) ?wk); (case wk => walk_at "lk"))
  | ((with_reducible refine' sl_of ?wk); (case wk => walk_at "lk"))
  | ((with_reducible refine' st_of ?wk); (case wk => walk_at "lk"))
  | ((with_reducible refine' ex_l (by assumption) ?wk); (case wk => walk_at "lk"))
  | ((with_reducible refine' ex_t (by assumption) ?wk); (case wk => walk_at "lk"))
  | ((with_reducible refine' mu_at (by assumption) ?wk ?wn); (case wk => walk_at "lk"); (case wn => assumption)))
set_option hygiene false in
local macro_rules | `(tactic| walk_at "sd") => `(tactic| first
  | exact rfl | assumption | (with_reducible exact T.c_Row) | (with_reducible exact T.c_Flip) | (with_reducible exact T.c_Table) | (with_reducible exact T.c_Trial)
  | (with_reducible exact T.n_Row_colour) | (with_reducible exact T.n_Row_sizes) | (with_reducible exact T.n_Flip_begin) | (with_reducible exact T.n_Flip_finish) | (with_reducible exact T.n_Trial_home) | (with_reducible exact T.n_Trial_kept)
  | (with_reducible exact T.n_Table_beginning) | (with_reducible exact T.n_Table_words) | (with_reducible exact T.n_Table_state))
local macro_rules | `(tactic| walk_at "w") => `(tactic| first
  | (with_reducible refine w_seq ?_) | (with_reducible refine w_asg ?_) | (with_reducible refine w_gName ?_) | (with_reducible refine w_ret ?_) | (with_reducible refine w_ifS ?_) | (with_reducible refine w_drop ?_) | (with_reducible refine w_next ?_)
  | ((with_reducible refine' w_aug ?wh ?_); (case wh => exact rfl)) | (with_reducible refine w_match ?_) | (with_reducible refine w_case ?_)
  | ((with_reducible refine' w_var ?wh ?_); (case wh => exact rfl))
  | (with_reducible refine w_c ?_) | (with_reducible refine w_op ?_) | (with_reducible refine w_un ?_) | (with_reducible refine w_nil ?_) | (with_reducible refine w_cons ?_) | (with_reducible refine w_star ?_) | (with_reducible refine w_tup ?_) | (with_reducible refine w_lst ?_)
  | (with_reducible refine w_if ?_) | (with_reducible refine w_and ?_) | (with_reducible refine w_or ?_) | (with_reducible refine w_not ?_) | (with_reducible refine w_bq ?_) | (with_reducible refine w_B ?_) | (with_reducible refine w_test ?_) | (with_reducible refine w_andV ?_) | (with_reducible refine w_orV ?_) | (with_reducible refine w_notV ?_)
  | (with_reducible refine w_chain ?_) | (with_reducible refine w_rI0 ?_) | (with_reducible refine w_rU ?_) | (with_reducible refine w_ipI ?_)
  | (with_reducible refine w_eqI ?_) | (with_reducible refine w_neI ?_) | (with_reducible refine w_eqS ?_) | (with_reducible refine w_neS ?_) | (with_reducible refine w_eqB ?_) | (with_reducible refine w_neB ?_) | (with_reducible refine w_isNr ?_) | (with_reducible refine w_isNn ?_)
  | (with_reducible refine w_sl ?_) | (with_reducible refine w_noPart ?_) | (with_reducible refine w_part ?_) | (with_reducible refine w_pq ?_) | (with_reducible refine w_revL ?_) | (with_reducible refine w_revS ?_)
  | (with_reducible refine w_cb ?_) | (with_reducible refine w_min2 ?_) | (with_reducible refine w_max2 ?_) | (with_reducible refine w_intB ?_)
  | (with_reducible refine w_fn ?_) | (with_reducible refine w_me ?_) | (with_reducible refine w_pr ?_) | (with_reducible refine w_mk ?_) | (with_reducible refine w_fld ?_)
  | (with_reducible refine w_isi_ii ?_) | (with_reducible refine w_isi_ib ?_) | (with_reducible refine w_isi_ss ?_)
  | ((with_reducible refine' w_isi_ll ?wh ?_); (case wh => walk_at "lk"))
  | ((with_reducible refine' w_isi_own ?wh ?wq); (case wh => walk_at "isx"))
  | ((with_reducible refine' w_lenL ?wh ?_); (case wh => walk_at "lk")) | ((with_reducible refine' w_ixL ?wh ?wi ?_); (case wh => walk_at "lk"); (case wi => first | assumption | exact rfl)) | ((with_reducible refine' w_ixT ?wh ?wi ?_); (case wh => walk_at "lk"); (case wi => first | assumption | exact rfl))
  | ((with_reducible refine' w_slL ?wh ?_); (case wh => walk_at "lk")) | ((with_reducible refine' w_rvq ?wh ?_); (case wh => walk_at "lk")) | ((with_reducible refine' w_listO ?wh ?_); (case wh => walk_at "lk")) | ((with_reducible refine' w_starL ?wh ?_); (case wh => walk_at "lk"))
  | ((with_reducible refine' w_fq ?wh ?wc ?wn ?wl ?_); (case wh => walk_at "lk"); (case wc => walk_at "sd"); (case wn => walk_at "sd"); (case wl => exact rfl))
  | ((with_reducible refine' w_sum ?wh ?_); (case wh => walk_at "lk"))
  | ((with_reducible refine' w_all ?wh ?_); (case wh => walk_at "lk"))
  | (with_reducible refine w_forL ?_) | ((with_reducible refine' w_forLq ?wh ?_); (case wh => walk_at "lk")) | (with_reducible refine w_forS ?_) | (with_reducible refine w_forSq ?_) | (with_reducible refine w_forR1 ?_) | ((with_reducible refine' w_forR1q ?wh ?_); (case wh => omega)) | (with_reducible refine w_forR2 ?_) | ((with_reducible refine' w_forR2q ?wh ?_); (case wh => omega)) | (with_reducible refine w_forE ?_) | ((with_reducible refine' w_forEq ?wh ?_); (case wh => walk_at "lk"))
  | (with_reducible refine w_lcL ?_) | ((with_reducible refine' w_lcLq ?wh ?_); (case wh => walk_at "lk")) | (with_reducible refine w_lcS ?_) | (with_reducible refine w_lcSq ?_) | (with_reducible refine w_lcR2 ?_) | ((with_reducible refine' w_lcR2q ?wh ?_); (case wh => omega))
  | (with_reducible refine w_bm ?_) | ((with_reducible refine' w_bmq ?wh ?_); (case wh => walk_at "lk")) | (with_reducible refine w_bm0 ?_) | ((with_reducible refine' w_bm0q ?wh ?_); (case wh => walk_at "lk"))
  | ((with_reducible refine' w_getL ?wh ?wi ?_); (case wh => walk_at "lk"); (case wi => first | assumption | exact rfl)) | (with_reducible refine w_gSub ?_) | (with_reducible refine w_augS ?_)
  | ((with_reducible refine' w_gTup ?wh ?wl ?_); (case wh => walk_at "lk"); (case wl => exact rfl)) | (with_reducible refine w_gCons ?_) | (with_reducible refine w_gNil ?_)
  | (with_reducible refine w_parT ?_) | (with_reducible refine w_parq ?_) | (with_reducible refine w_par3T ?_) | (with_reducible refine w_par3q ?_) | (with_reducible refine w_sfld ?_) | (with_reducible refine w_ob ?_) | (with_reducible refine w_obq ?_)
  | ((with_reducible refine' w_sfq ?wh ?wc ?wn ?wl ?wq); (case wh => walk_at "lk"); (case wc => walk_at "sd"); (case wn => walk_at "sd"); (case wl => exact Nat.le_of_ble_eq_true rfl))
  | ((with_reducible refine' w_rI ?wh ?wq); (case wh => first | decide | exact ⟨by decide, by decide⟩)) | (with_reducible refine w_pairsC ?_) | (with_reducible refine w_pairsN ?_) | ((with_reducible refine' w_cat ?wh ?wk ?wl ?wq); (case wh => walk_at "lk"); (case wk => walk_at "lk"); (case wl => walk_at "sz"))
  | ((with_reducible refine' w_mqRow ?wh ?wl ?wk ?wq); (case wh => walk_at "rw"); (case wl => exact rfl); (case wk => exact rfl))
  | ((with_reducible refine' w_mq ?wh ?wl ?wq); (case wh => walk_at "lk"); (case wl => exact rfl))
  | ((with_reducible refine' w_wipe ?wh ?wq); (case wh => exact rfl)) | (with_reducible refine w_yesT ?_)
  | (with_reducible refine w_isNumber ?_) | (with_reducible refine w_isCount ?_) | (with_reducible refine w_isColour ?_) | (with_reducible refine w_checkGame ?_) | (with_reducible refine w_checkGoal ?_) | (with_reducible refine w_checkWords ?_)
  | (with_reducible refine iteT ?_) | (with_reducible refine iteF ?_) | ((with_reducible refine' w_yes ?wh ?_); (case wh => exact rfl)) | ((with_reducible refine' w_no ?wh ?_); (case wh => exact rfl)))
local macro_rules | `(tactic| walk_at "sz") => `(tactic| first | (refine sz_le ?_; first | assumption | (simp only [List.length_map, List.length_append, List.length_cons, List.length_nil]; omega) | omega) | (refine sz_lt ?_; first | assumption | (simp only [List.length_map, List.length_append, List.length_cons, List.length_nil]; omega) | omega))
local macro_rules | `(tactic| walk_at "go") => `(tactic| repeat (walk_at "w"))
local macro_rules | `(tactic| walk_at "bt") => `(tactic| first | exact rfl | assumption | (simp [*]; done) | (simp; omega) | (simp [*]; omega))
local macro_rules | `(tactic| walk_at "yes") => `(tactic| ((with_reducible refine' w_yes ?wh ?wq); (case wh => walk_at "bt"); walk_at "go"))
local macro_rules | `(tactic| walk_at "no") => `(tactic| ((with_reducible refine' w_no ?wh ?wq); (case wh => walk_at "bt"); walk_at "go"))
local macro_rules | `(tactic| walk_at "st") => `(tactic| ((try dsimp only [L2.cxOf, L2.Cx.nox, L2.Cx.wish]); walk_at "go"))
local macro_rules | `(tactic| walk_at "rw") => `(tactic| first | assumption | ((with_reducible refine' IsRow.rw ?wk); (case wk => walk_at "rw")) | ((with_reducible refine' IsRw.ex (by assumption) ?wk); (case wk => walk_at "rw")) | ((with_reducible refine' IsRow.ex (by assumption) ?wk); (case wk => walk_at "rw")))
local macro_rules | `(tactic| walk_at "ro") => `(tactic| first | assumption | ((with_reducible refine' IsRow.ex (by assumption) ?wk); (case wk => walk_at "ro")))
local macro_rules | `(tactic| walk_at "fl") => `(tactic| first | assumption | ((with_reducible refine' IsFlip.ex (by assumption) ?wk); (case wk => walk_at "fl")))
local macro_rules | `(tactic| walk_at "w") => `(tactic| first
  | ((with_reducible refine' w_first ?wh ?wq); (case wh => walk_at "rw")) | ((with_reducible refine' w_runs ?wh ?wq); (case wh => walk_at "rw")) | ((with_reducible refine' w_length ?wh ?wq); (case wh => walk_at "rw")) | ((with_reducible refine' w_lengths ?wh ?wq); (case wh => walk_at "rw")))
local macro_rules | `(tactic| walk_at "w") => `(tactic| first
  | ((with_reducible refine' w_start ?wh ?wq); (case wh => walk_at "fl")) | ((with_reducible refine' w_end ?wh ?wq); (case wh => walk_at "fl")))
local macro_rules | `(tactic| walk_at "w") => `(tactic| first | (with_reducible refine w_dget ?_))
def superE : Expr := match defBody sIp with
  | [.Expr (.Call (.Attribute o _ _) _ _ _) _, _] => o
  | _ => .Constant .none 0 ⟨0, 0, 0, 0⟩
theorem pmk_ipT {X : Cx} {k : Nat} {e : Expr} {te : TE} {p pos : Pos} (T : Tx X.prog X.K X.mg) (hr : Room (k + 1) X.A) (hg : Gl X "InvalidPlan") (hte : PE X e te)
    (he : starEach (e :: []) X.env = (false, eval e X.env) :: starEach [] X.env := by rfl) (hpl : (backTo pos (starEach [] X.env)).any (·.1) = false := by rfl) :
    PMk X (.Call (.Name "InvalidPlan" p) (e :: []) [] pos) (tMkIp (He.ga X.K "InvalidPlan") te) := by
  refine pmk_ip (pl := plainOf superE) T.ipC hr rfl ⟨rfl, rfl, rfl, rfl⟩ rfl rfl rfl (by decide +kernel) rfl (fun _ _ _ _ _ _ _ _ _ => rfl) (fun env he => ?a) (fun env he => ?b) (fun env he => ?c) T.z_super hg T.ge_InvalidPlan hte (by decide) he hpl
  case a => rfl
  case b =>
    refine ⟨?_, rfl⟩
    unfold interactive
    rw [he]
    rfl
  case c => rfl
def spTrialInit (K : PySem.W.Frag) : Sp := fun vs H Q _ => ∃ x dx t r0 wt st, vs = [.ref x, .ref t] ∧ H x = some (.ins (He.ga K "Trial") dx []) ∧ TabO K H t r0 wt st ∧ ∀ H', Mu x H H' → H' x = some (.ins (He.ga K "Trial") dx [("home", .ref t), ("kept", .ref st)]) → Q .non H'
theorem sc_Trial_dinitd : FnScope ["self", "table"] ["self", "table"] (defScope (inClass (top 45) 0)) := ⟨rfl, rfl, rfl, by decide +kernel, rfl, by decide +kernel, by decide +kernel⟩
theorem ok_Trial_dinitd {P : Program} {w : World} {K : PySem.W.Frag} {mg : Str → Option Value} {base : Heap} (T : Tx P K mg) : Ok P w K mg base 1 (He.ma K (He.ga K "Trial") "__init__") (spTrialInit K) := by
  refine ok_mk T.d_Trial_dinitd sc_Trial_dinitd (fun vs H Q E h => ?len) (fun _ _ _ _ _ _ us hl => match us, hl with | [_, _], _ => rfl) (fun cdv A outer s H vs Q E hr h => ⟨_, (pss_cons (ps_fld (pv 0) (pv 1) rfl) (pss_one (ps_fld (pv 0) (pe_fld (pv 1) rfl) rfl))), ?body⟩)
  case len => obtain ⟨x, dx, t, r0, wt, st, rfl, _⟩ := h; rfl
  case body =>
    obtain ⟨x, dx, t, r0, wt, st, rfl, hx, ⟨dy, ht⟩, q⟩ := h
    have nt : t ≠ x := ne_of ht hx (by intro z; injection z with z1 z2 z3; cases z3)
    walk_at "st"
    intro H1 m1 h1
    walk_at "go"
    intro H2 m2 h2
    walk_at "go"
    exact q H2 (m1.trans m2) h2
def spEnter (K : PySem.W.Frag) : Sp := fun vs H Q _ => ∃ x dx t r0 wt st, vs = [.ref x] ∧ H x = some (.ins (He.ga K "Trial") dx [("home", .ref t), ("kept", .ref st)]) ∧ TabO K H t r0 wt st ∧ ∀ H', Mu x H H' → H' x = some (.ins (He.ga K "Trial") dx [("home", .ref t), ("kept", .ref st)]) → Q (.ref t) H'
theorem sc_Trial_denterd : FnScope ["self"] ["self"] (defScope (inClass (top 45) 1)) := ⟨rfl, rfl, rfl, by decide +kernel, rfl, by decide +kernel, by decide +kernel⟩
theorem ok_Trial_denterd {P : Program} {w : World} {K : PySem.W.Frag} {mg : Str → Option Value} {base : Heap} (T : Tx P K mg) : Ok P w K mg base 1 (He.ma K (He.ga K "Trial") "__enter__") (spEnter K) := by
  refine ok_mk T.d_Trial_denterd sc_Trial_denterd (fun vs H Q E h => ?len) (fun _ _ _ _ _ _ us hl => match us, hl with | [_], _ => rfl) (fun cdv A outer s H vs Q E hr h => ⟨_, (pss_cons (ps_fld (pv 0) (pe_fld (pe_fld (pv 0) rfl) rfl) rfl) (pss_one (ps_ret (pe_fld (pv 0) rfl)))), ?body⟩)
  case len => obtain ⟨x, dx, t, r0, wt, st, rfl, _⟩ := h; rfl
  case body =>
    obtain ⟨x, dx, t, r0, wt, st, rfl, hx, ⟨dy, ht⟩, q⟩ := h
    walk_at "st"
    intro H1 m1 h1
    walk_at "go"
    exact q H1 m1 h1
def spExit (K : PySem.W.Frag) : Sp := fun vs H Q _ => ∃ x dx t r0 wt st s2 k1 k2 k3, vs = [.ref x, k1, k2, k3] ∧ H x = some (.ins (He.ga K "Trial") dx [("home", .ref t), ("kept", .ref st)]) ∧ TabO K H t r0 wt s2 ∧ ∀ H', Mu t H H' → TabO K H' t r0 wt st → Q .non H'
theorem sc_Trial_dexitd : FnScope ["self", "kind", "value", "trace"] ["self", "kind", "value", "trace"] (defScope (inClass (top 45) 2)) := ⟨rfl, rfl, rfl, by decide +kernel, rfl, by decide +kernel, by decide +kernel⟩
theorem ok_Trial_dexitd {P : Program} {w : World} {K : PySem.W.Frag} {mg : Str → Option Value} {base : Heap} (T : Tx P K mg) : Ok P w K mg base 1 (He.ma K (He.ga K "Trial") "__exit__") (spExit K) := by
  refine ok_mk T.d_Trial_dexitd sc_Trial_dexitd (fun vs H Q E h => ?len) (fun _ _ _ _ _ _ us hl => match us, hl with | [_, _, _, _], _ => rfl) (fun cdv A outer s H vs Q E hr h => ⟨_, (pss_one (ps_fld (pe_fld (pv 0) rfl) (pe_fld (pv 0) rfl) rfl)), ?body⟩)
  case len => obtain ⟨x, dx, t, r0, wt, st, s2, k1, k2, k3, rfl, _⟩ := h; rfl
  case body =>
    obtain ⟨x, dx, t, r0, wt, st, s2, k1, k2, k3, rfl, hx, ⟨dy, ht⟩, q⟩ := h
    walk_at "st"
    intro H1 m1 h1
    walk_at "go"
    exact q H1 m1 ⟨dy, h1⟩
end Tcf

set_option Elab.async false
set_option linter.all false
set_option maxRecDepth 100000
set_option maxHeartbeats 4000000
/-! RU6: with C(..) as x: body, the body may raise; __exit__ answers None. -/
namespace Tcf
open PySem PySem.Spec PyProof.Rows L2
namespace Wi
/-- what is wished of the body's exception: __exit__ runs, then Wout -/
def wWith (spX : Sp) (a : Addr) (Wout : XK) : XK := fun cls d H => ∃ k1 : V, RelV k1 cls ∧ ∀ k2 k3 : V, spX [.ref a, k1, k2, k3] H (fun v H2 => v = .non ∧ Wout cls d H2) E0
def tWith (C : Addr) (spE spX : Sp) (Wout : XK) (tc : TE) (g : TG) (tb : XK → TS) : TS := fun D σ H => tc σ H fun x H1 => ∃ a dx fs, x = .ref a ∧ H1 a = some (.ins C dx fs) ∧
  spE [.ref a] H1 (fun v H2 => g v σ H2 fun σ1 H3 => tb (wWith spX a Wout) { nx := fun σ2 H4 => spX [.ref a, .non, .non, .non] H4 (fun _ H5 => D.nx σ2 H5) E0, rt := fun y H4 => spX [.ref a, .non, .non, .non] H4 (fun _ H5 => D.rt y H5) E0, bk := fun σ2 H4 => spX [.ref a, .non, .non, .non] H4 (fun _ H5 => D.bk σ2 H5) E0, ct := fun σ2 H4 => spX [.ref a, .non, .non, .non] H4 (fun _ H5 => D.ct σ2 H5) E0 } σ1 H3) E0
theorem ps_with {X : Cx} {C fe fx : Addr} {kE kX j : Nat} {spE spX : Sp} {Wout : XK} {ctx : Expr} {y : Str} {py pos : Pos} {body : List Stmt} {tc : TE} {g : TG} {tb : XK → TS}
    (hs : X.stack = X.env :: X.outer) (hf : X.env.frame = some X.env.locals) (hex : X.ex = []) (tk : Takes X fun cls d _ H => Wout cls d H)
    (mE : Meth X.K C "__enter__" fe) (mX : Meth X.K C "__exit__" fx) (cE : Ok X.prog X.w X.K X.mg X.base kE fe spE) (cX : Ok X.prog X.w X.K X.mg X.base kX fx spX) (cH : ExOk X.prog X.w X.K X.mg X.base kX fx spX) (hr : Room j X.A)
    (hc : PE X ctx tc) (hg : ∀ pn xe, PG (X.tr pn xe) (.Name y py) g) (hb : ∀ (W : XK) (pn : List (Addr × Obj)) (xe : Value → Shared → Prop), (Takes (X.tr pn xe) fun cls d _ H => W cls d H) → PSs (X.tr pn xe) body (tb W)) (hkE : kE ≤ j := by decide) (hkX : kX ≤ j := by decide) :
    PS X (.With [⟨ctx, some (.Name y py)⟩] body pos) (tWith C spE spX Wout tc g tb) := by
  refine ⟨fun pins s σ H D I h => ?_⟩
  have ok := I.ok
  refine PySem.W.kw_execN (thn (hc.run pins s σ H _ I h) fun u s1 ⟨x, H1, I1, rx, a, dx, fs, ex, ea, q1⟩ => ?_)
  subst ex
  cases rx
  unfold PySem.W.KwIn
  obtain ⟨mA, J0, _⟩ := ins_get I1.hok ea
  obtain ⟨od, J, _⟩ := J0.look
  obtain ⟨cd, hcd, ae⟩ := PySem.W.kw_along mE.at_
  obtain ⟨cd', hcd', ax⟩ := PySem.W.kw_along mX.at_
  cases hcd.symm.trans hcd'
  have KX := I1.kIn
  have run1 : wpAny (model X.prog X.w) X.A (call (.ref fe) [.ref a]) (EP X pins σ _) X.xe s1 := cE.run (us := [.ref a]) (vs := [.ref a]) (hr.mono hkE) passL I1 (.cons rfl .nil) q1
  have K1 : PySem.W.Looks (model X.prog X.w) s1.heap (specialOnItsLine (.ref a) "__enter__") (some (.ref fe), cd.mro) := PySem.W.kw_special KX J hcd ae
  have K2 : PySem.W.Looks (model X.prog X.w) s1.heap (specialOnItsLine (.ref a) "__exit__") (some (.ref fx), cd.mro) := PySem.W.kw_special KX J hcd ax
  have K3 : PySem.W.Looks (model X.prog X.w) s1.heap (bindSpecial (.ref fe) (.ref a)) (.ref fe, [.ref a]) := PySem.W.bind_fn KX _ (beq_iff_eq.mp mE.fn)
  have K4 : PySem.W.Looks (model X.prog X.w) s1.heap (bindSpecial (.ref fx) (.ref a)) (.ref fx, [.ref a]) := PySem.W.bind_fn KX _ (beq_iff_eq.mp mX.fn)
  have K5 : PySem.W.Looks (model X.prog X.w) s1.heap (aMethodOfAnotherBuiltinTypeStops (.ref fe) cd.mro) () := PySem.W.Looks.of_pure rfl
  have K6 : PySem.W.Looks (model X.prog X.w) s1.heap (aMethodOfAnotherBuiltinTypeStops (.ref fx) cd.mro) () := PySem.W.Looks.of_pure rfl
  obtain ⟨hh, gg, dd, tt, os⟩ := s1
  unfold withItem
  refine wpAny_bind (wpAny_pure ?_)
  refine wpAny_bind (wpAny_standAt ?_)
  simp only [Bool.false_eq_true, if_false]
  kw_lk
  refine wpAny_mono run1 (fun v s₂ h₂ => ?_) fun _ _ z => z
  kw_lk
  obtain ⟨xv, H2, I2, rv, q2⟩ := h₂
  refine wpAny_attempt (PySem.W.kw_held ?_)
  show wpAny _ _ (assign (.Name y py) X.env v >>= fun _ => execs body X.env) _ _ _
  refine wpAny_bind (wpAny_mono ((hg (X.pn ++ pins) _).run [] _ σ H2 xv v _ (I2.toTry _) rv q2) (fun _ s3 h3 => ?_) fun _ _ z => z)
  obtain ⟨σ3, H3, I3, q3⟩ := h3
  have I3' : Inv X pins σ3 H3 s3 := I3.ofTry ok
  refine wpAny_mono ((hb (wWith spX a Wout) (X.pn ++ pins) _ (fun u s4 xx => ?exc)).run [] s3 σ3 H3 _ (I3'.toTry _) q3) (fun f s4 h4 => ?nrm) fun _ _ z => z
  case nrm =>
    have call4 : ∀ {σ4 : L2.St} {H4 : Hp} {Qn : VK} {R : Value → Shared → Prop}, Inv X pins σ4 H4 s4 → spX [.ref a, .non, .non, .non] H4 Qn E0 → (∀ u s5, EP X pins σ4 Qn u s5 → R u s5) →
        wpAny (model X.prog X.w) X.A (call (.ref fx) ([.ref a] ++ [.none, .none, .none])) R X.xe s4 := fun I4 h5 k => wpAny_mono (cX.run (us := [.ref a, .none, .none, .none]) (vs := [.ref a, .non, .non, .non]) (hr.mono hkX) passL I4 (.cons rfl (.cons rfl (.cons rfl (.cons rfl .nil)))) h5) (fun u s5 z => k u s5 z) fun _ _ z => z
    cases f with
    | next =>
      obtain ⟨σ4, H4, I4, q4⟩ := h4
      refine wpAny_bind (wpAny_standAt (wpAny_bind (wpAny_holding (call4 (I4.ofTry ok) q4 fun u s5 z => ?_))))
      obtain ⟨_, H5, I5, _, q5⟩ := z
      exact wpAny_pure ⟨σ4, H5, I5, q5⟩
    | ret r =>
      obtain ⟨w4, σ4, H4, I4, r4, q4⟩ := h4
      refine wpAny_bind (wpAny_standAt (wpAny_bind (wpAny_holding (call4 (I4.ofTry ok) q4 fun u s5 z => ?_))))
      obtain ⟨_, H5, I5, _, q5⟩ := z
      exact wpAny_pure ⟨w4, σ4, H5, I5, r4, q5⟩
    | brk =>
      obtain ⟨σ4, H4, I4, q4⟩ := h4
      refine wpAny_bind (wpAny_standAt (wpAny_bind (wpAny_holding (call4 (I4.ofTry ok) q4 fun u s5 z => ?_))))
      obtain ⟨_, H5, I5, _, q5⟩ := z
      exact wpAny_pure ⟨σ4, H5, I5, q5⟩
    | cont =>
      obtain ⟨σ4, H4, I4, q4⟩ := h4
      refine wpAny_bind (wpAny_standAt (wpAny_bind (wpAny_holding (call4 (I4.ofTry ok) q4 fun u s5 z => ?_))))
      obtain ⟨_, H5, I5, _, q5⟩ := z
      exact wpAny_pure ⟨σ4, H5, I5, q5⟩
  case exc =>
    obtain ⟨e, B, sI, pins', σ', H', cls, d, rfl, J', nb, up, sky, na, eos, ag, hw⟩ := xx
    have J : Inv X pins σ' H' sI := J'.ofTry ok
    have hfr : X.A.frames = some (X.env :: X.outer) := by rw [ok.frames, hs]
    have sky' : Sky B (X.env :: X.outer) e (Zc cls d) X.env.locals s4.heap := by rw [← hs]; exact sky
    -- what follows the note
    have fin : ∀ h1, HandSPX.HeldZ B (X.env :: X.outer) e (Zc cls d) X.env.locals h1 → s4.heap.UpToSlots h1 →
        wpAny (model X.prog X.w) X.A (do
          setFlight (.ref e) none
          standAt ctx.pos
          holding [.ref e] do
          let r ← withItem.marked (.ref e) (.call (.ref fx) ⟨[.ref a] ++ [← typeOf (.ref e), .ref e, ← tracebackOf (.ref e)], []⟩)
          let r ← pure r
          match r with
            | .none => do
              let swallow ← pure false
              if swallow then do rule "with.exit-swallows"; setFlight (.ref e) none; pure .next else PySem.passOn "with" (.ref e) X.env
            | .bool b => do
              let swallow ← pure b
              if swallow then do rule "with.exit-swallows"; setFlight (.ref e) none; pure .next else PySem.passOn "with" (.ref e) X.env
            | _ => do
              let swallow ← pure ((← withItem.marked (.ref e) (.call (.type "bool") ⟨[r], []⟩)) == .bool true)
              if swallow then do rule "with.exit-swallows"; setFlight (.ref e) none; pure .next else PySem.passOn "with" (.ref e) X.env) (SP X pins D) X.xe { s4 with heap := h1 } := fun h1 hh1 up1 => by
      refine wpAny_bind (HandSPX.landsZ hh1 fun h3 fl3 up3 => ?_)
      have J3 : Inv X pins σ' H' { s4 with heap := h3 } := J.landed nb fl3.1 ((up.trans up1).trans up3) eos ag
      obtain ⟨k1, k2, k3, oe, vs, T, oT, ts, he3, hz, hd, hv1, hnT, hTe, hT, hdT, ht3⟩ := id fl3
      have nT : H' T = none := (J.inGround nb).gone hnT
      have notFr : ∀ (b : Addr) (o : Obj) (fv : Array Value), h3.get? b = some o → o.data = .fields fv → b ∉ frs (X.env :: X.outer) := fun b o fv z1 z2 hm => by
        obtain ⟨_, o', z3, hnf⟩ := k3.mem hm
        cases z1.symm.trans z3
        exact hnf _ z2
      have locF : X.env.locals ∈ frs (X.env :: X.outer) := List.mem_filterMap.mpr ⟨X.env, List.mem_cons_self, hf⟩
      have fsF : ∀ b, b ∈ X.fs → b ∈ frs (X.env :: X.outer) := fun b hm => by
        obtain ⟨x, hx, q⟩ := List.mem_filterMap.mp hm
        exact List.mem_filterMap.mpr ⟨x, List.mem_cons_of_mem _ hx, q⟩
      have fa := notFr e oe vs he3 hd
      have fT := notFr T oT ts hT hdT
      have S3 : Inv (X.suite e ((e, oe) :: (T, oT) :: (X.pn ++ pins))) [] σ' H' { s4 with heap := h3 } :=
        ⟨J3.ok.suite _ _, J3.os, J3.bare, J3.base, J3.loc, J3.cell, J3.free, J3.freeC, fun p hp => by
          rw [List.append_nil] at hp
          rcases List.mem_cons.mp hp with z | hp
          · rw [z]
            refine ⟨he3, na, fun z2 => fa ?_, fun z2 => fa (fsF _ z2), fun v z2 => ?_⟩
            · rw [show e = X.env.locals from z2]
              exact locF
            · have z3 : oe.data = .cell v := z2
              rw [hd] at z3
              cases z3
          · rcases List.mem_cons.mp hp with z | hp
            · rw [z]
              refine ⟨hT, nT, fun z2 => fT ?_, fun z2 => fT (fsF _ z2), fun v z2 => ?_⟩
              · rw [show T = X.env.locals from z2]
                exact locF
              · have z3 : oT.data = .cell v := z2
                rw [hdT] at z3
                cases z3
            · exact J3.pin p hp, J3.hok, J3.len⟩
      -- the trace that is handed on
      obtain ⟨t1, ht1⟩ : ∃ t1, ts[1]? = some t1 := by
        have h3s := (Array.getElem?_eq_some_iff.mp ht3).1
        exact ⟨ts[1]'(by omega), Array.getElem?_eq_getElem (by omega)⟩
      refine wpAny_bind (wpAny_standAt (wpAny_holding ?_))
      refine wpAny_bind (typeOf_at he3 ?_)
      refine wpAny_bind (tracebackOf_at he3 hd hv1 hT hdT ht1 fun w3 u3 r3 => ?_)
      obtain ⟨kc, rc, hw2⟩ := hw
      have rc' : RelV kc oe.cls := by rw [hz.1]; exact rc
      unfold withItem.marked
      have rX : L2H.RoomH kX (X.suite e ((e, oe) :: (T, oT) :: (X.pn ++ pins))).A := ⟨(hr.mono hkX).dp, (hr.mono hkX).un⟩
      have cH' : ExOk (X.suite e ((e, oe) :: (T, oT) :: (X.pn ++ pins))).prog (X.suite e ((e, oe) :: (T, oT) :: (X.pn ++ pins))).w X.K X.mg X.base kX fx spX := cH
      refine wpAny_bind (wpAny_bind (wpAny_run (codeAny_mono (cH'.at (X := X.suite e ((e, oe) :: (T, oT) :: (X.pn ++ pins))) (p := (e, oe)) (E := fun _ _ => False) (us := [.ref a, oe.cls, .ref e, u3]) (vs := [.ref a, kc, .ref e, w3]) rX List.mem_cons_self S3
        (.cons rfl (.cons rc' (.cons rfl (.cons r3 .nil)))) (hw2 (.ref e) w3)) fun r s6 hq => ?_) (fun z => by cases z)))
      cases r with
      | error x => exact False.elim hq
      | ok fl =>
        cases fl with
        | next => exact False.elim hq
        | brk => exact False.elim hq
        | cont => exact False.elim hq
        | ret u6 =>
          obtain ⟨v6, H6, S6, r6, rfl, q6⟩ := hq
          cases r6
          refine wpAny_pure (wpAny_bind (wpAny_pure ?_))
          dsimp only
          refine wpAny_bind (wpAny_pure ?_)
          simp only [Bool.false_eq_true, if_false]
          have J6 : Inv X pins σ' H6 s6 := ⟨ok, S6.os, S6.bare, S6.base, S6.loc, S6.cell, S6.free, S6.freeC, fun p hp => S6.pin p (List.mem_append_left _ (List.mem_cons_of_mem _ (List.mem_cons_of_mem _ hp))), S6.hok, S6.len⟩
          obtain ⟨ga, na6, _⟩ := S6.pin (e, oe) (List.mem_append_left _ List.mem_cons_self)
          obtain ⟨gT, nT6, _⟩ := S6.pin (T, oT) (List.mem_append_left _ (List.mem_cons_of_mem _ List.mem_cons_self))
          have far : ∀ b o, sI.heap.get? b = some o → b ≠ e ∧ b ≠ T := fun b o z0 => by
            by_cases hb : b ∈ frs X.stack
            · rw [hs] at hb
              exact ⟨fun z => fa (z ▸ hb), fun z => fT (z ▸ hb)⟩
            · have q := nb b o z0 hb
              refine ⟨fun z => ?_, fun z => ?_⟩
              · rw [z, k2] at q
                cases q
              · rw [z, hnT] at q
                cases q
          have far0 : ∀ b o, X.s_0.heap.get? b = some o → b ≠ e ∧ b ≠ T := fun b o z0 => by
            obtain ⟨o', q⟩ := J.base.there b o z0 (by rw [hex]; simp)
            exact far b o' q
          have farP : ∀ p ∈ X.pn ++ pins, p.1 ≠ e ∧ p.1 ≠ T := fun p hp => far p.1 p.2 (J.pin p hp).1
          obtain ⟨G, g1, g2⟩ := restrict s6.heap fun b => !(decide (b = e) || decide (b = T))
          have gIn : ∀ b o, G.get? b = some o → s6.heap.get? b = some o ∧ b ≠ e ∧ b ≠ T := fun b o z0 => by
            cases q : (!(decide (b = e) || decide (b = T))) with
            | false =>
              rw [g2 b q] at z0
              cases z0
            | true =>
              rw [g1 b q] at z0
              simp only [Bool.not_eq_true', Bool.or_eq_false_iff, decide_eq_false_iff_not] at q
              exact ⟨z0, q.1, q.2⟩
          have I6 : Inv X pins σ' H6 { s6 with heap := G } := J6.less (fun b o z0 => (gIn b o z0).1) (fun b o h1 h2 z0 => by rw [g1 b (by simp [h1, h2])]; exact z0) ⟨oe, vs, ga, hd⟩ ⟨oT, ts, gT, hdT⟩ na6 nT6 far0 farP
          have Bno : ∀ b, (b = e ∨ b = T) → (PySem.W.hideAll G (frs X.stack)).get? b = none := fun b hb => by
            cases q : (PySem.W.hideAll G (frs X.stack)).get? b with
            | none => rfl
            | some o =>
              obtain ⟨_, n1, n2⟩ := gIn b o (PySem.W.of_hideAll _ q)
              exact hb.elim (fun z => absurd z n1) fun z => absurd z n2
          have fl6 : HandSPX.FlyingZ (PySem.W.hideAll G (frs X.stack)) (X.env :: X.outer) e (Zc cls d) s6.heap := by
            refine ⟨fun b o z0 => (gIn b o (PySem.W.of_hideAll _ z0)).1, Bno e (.inl rfl), ?_, oe, vs, T, oT, ts, ga, hz, hd, hv1, Bno T (.inr rfl), hTe, gT, hdT, ht3⟩
            rw [← hs]
            exact funFrames_none (B := PySem.W.hideAll G (frs X.stack)) J6.stack fun b hb => PySem.W.hideAll_none _ hb
          show wpAny (model X.prog X.w) X.A (PySem.passOn "with" (.ref e) X.env) (SP X pins D) X.xe s6
          unfold PySem.passOn
          refine wpAny_bind (wpAny_field ga hd hv1 ?_)
          rw [if_neg (show ¬ ((Value.ref T == Value.none) = true) from by simp)]
          have goOn : wpAny (model X.prog X.w) X.A (setFlight (.ref e) X.env.frame) (fun _ s7 => wpAny (model X.prog X.w) X.A (throw (.ref e) : Sem Flow) (SP X pins D) X.xe s7) X.xe s6 := by
            rw [hf]
            refine HandSPX.setFlight_upZ fl6 fun h7 hh7 up7 => wpAny_throw (tk _ _ ?_)
            refine ⟨e, PySem.W.hideAll G (frs X.stack), { s6 with heap := G }, pins, σ', H6, cls, d, rfl, I6, fun b o z0 hb => PySem.W.hideAll_get _ z0 hb, ?_, .inr (.inr (by rw [← hs] at hh7; exact hh7)), na6, rfl, J6.bare, q6⟩
            exact Heap.UpToSlots.trans (Heap.UpToSlots.of_keeps fun b o z0 => (gIn b o z0).1) up7
          first
            | exact wpAny_bind (wpAny_pure (wpAny_bind goOn))
            | exact wpAny_bind goOn
    show wpAny (model X.prog X.w) X.A (noteFrame (.ref e) X.env >>= fun _ => _) _ _ _
    refine wpAny_bind ?_
    rcases sky' with ⟨hB, hn, hl, oe, vs, he0, hz, hd, hv1⟩ | fl | hh
    · exact HandSPX.look_newZ Zc.steady hfr hl hf he0 hB hn hd hv1 hz fin
    · exact HandSPX.looks_onZ Zc.steady hfr hf fl fin
    · exact HandSPX.againZ hf hh.2.2.2 (fin s4.heap hh (Heap.UpToSlots.refl _))
end Wi
end Tcf

set_option Elab.async false
set_option linter.all false
set_option maxRecDepth 100000
set_option maxHeartbeats 4000000
/-! DP: lists of flips performed, tried (printed from DP.tmpl by gen_der.py). -/
namespace Tcf
open PySem PySem.Spec PyProof.Rows L2
open Evl (Ex)
set_option hygiene false in
local macro_rules | `(tactic| walk_at "lkT") => `(tactic| first | (with_reducible exact T.l_GAMES _) | (with_reducible exact T.l_GOALS _))
set_option hygiene false in
local macro_rules | `(tactic| walk_at "isx") => `(tactic| first | (with_reducible exact T.is_Row (by walk_at "lk")) | (with_reducible exact T.is_Flip (by walk_at "lk")) | (with_reducible exact T.is_Table (by walk_at "lk")))
local macro_rules | `(tactic| walk_at "lk") => `(tactic| first
  | assumption
  | walk_at "lkT"
  | ((with_reducible refine' ex_at (by assumption) ?wk); (case wk => walk_at "lk"))
  | ((with_reducible refine' sl_of ?wk); (case wk => walk_at "lk"))
  | ((with_reducible refine' st_of ?wk); (case wk => walk_at "lk"))
  | ((with_reducible refine' ex_l (by assumption) ?wk); (case wk => walk_at "lk"))
  | ((with_reducible refine' ex_t (by assumption) ?wk); (case wk => walk_at "lk"))
  | ((with_reducible refine' mu_at (by assumption) ?wk ?wn); (case wk => walk_at "lk"); (case wn => assumption)))
set_option hygiene false in
local macro_rules | `(tactic| walk_at "sd") => `(tactic| first
  | exact rfl | assumption | (with_reducible exact T.c_Row) | (with_reducible exact T.c_Flip) | (with_reducible exact T.c_Table) | (with_reducible exact T.c_Trial)
  | (with_reducible exact T.n_Row_colour) | (with_reducible exact T.n_Row_sizes) | (with_reducible exact T.n_Flip_begin) | (with_reducible exact T.n_Flip_finish) | (with_reducible exact T.n_Trial_home) | (with_reducible exact T.n_Trial_kept)
  | (with_reducible exact T.n_Table_beginning) | (with_reducible exact T.n_Table_words) | (with_reducible exact T.n_Table_state))
local macro_rules | `(tactic| walk_at "w") => `(tactic| first
  | (with_reducible refine w_seq ?_) | (with_reducible refine w_asg ?_) | (with_reducible refine w_gName ?_) | (with_reducible refine w_ret ?_) | (with_reducible refine w_ifS ?_) | (with_reducible refine w_drop ?_) | (with_reducible refine w_next ?_)
  | ((with_reducible refine' w_aug ?wh ?_); (case wh => exact rfl)) | (with_reducible refine w_match ?_) | (with_reducible refine w_case ?_)
  | ((with_reducible refine' w_var ?wh ?_); (case wh => exact rfl))
  | (with_reducible refine w_c ?_) | (with_reducible refine w_op ?_) | (with_reducible refine w_un ?_) | (with_reducible refine w_nil ?_) | (with_reducible refine w_cons ?_) | (with_reducible refine w_star ?_) | (with_reducible refine w_tup ?_) | (with_reducible refine w_lst ?_)
  | (with_reducible refine w_if ?_) | (with_reducible refine w_and ?_) | (with_reducible refine w_or ?_) | (with_reducible refine w_not ?_) | (with_reducible refine w_bq ?_) | (with_reducible refine w_B ?_) | (with_reducible refine w_test ?_) | (with_reducible refine w_andV ?_) | (with_reducible refine w_orV ?_) | (with_reducible refine w_notV ?_)
  | (with_reducible refine w_chain ?_) | (with_reducible refine w_rI0 ?_) | (with_reducible refine w_rU ?_) | (with_reducible refine w_ipI ?_)
  | (with_reducible refine w_eqI ?_) | (with_reducible refine w_neI ?_) | (with_reducible refine w_eqS ?_) | (with_reducible refine w_neS ?_) | (with_reducible refine w_eqB ?_) | (with_reducible refine w_neB ?_) | (with_reducible refine w_isNr ?_) | (with_reducible refine w_isNn ?_)
  | (with_reducible refine w_sl ?_) | (with_reducible refine w_noPart ?_) | (with_reducible refine w_part ?_) | (with_reducible refine w_pq ?_) | (with_reducible refine w_revL ?_) | (with_reducible refine w_revS ?_)
  | (with_reducible refine w_cb ?_) | (with_reducible refine w_min2 ?_) | (with_reducible refine w_max2 ?_) | (with_reducible refine w_intB ?_)
  | (with_reducible refine w_fn ?_) | (with_reducible refine w_me ?_) | (with_reducible refine w_pr ?_) | (with_reducible refine w_mk ?_) | (with_reducible refine w_fld ?_)
  | (with_reducible refine w_isi_ii ?_) | (with_reducible refine w_isi_ib ?_) | (with_reducible refine w_isi_ss ?_)
  | ((with_reducible refine' w_isi_ll ?wh ?_); (case wh => walk_at "lk"))
  | ((with_reducible refine' w_isi_own ?wh ?wq); (case wh => walk_at "isx"))
  | ((with_reducible refine' w_lenL ?wh ?_); (case wh => walk_at "lk")) | ((with_reducible refine' w_ixL ?wh ?wi ?_); (case wh => walk_at "lk"); (case wi => first | assumption | exact rfl)) | ((with_reducible refine' w_ixT ?wh ?wi ?_); (case wh => walk_at "lk"); (case wi => first | assumption | exact rfl))
  | ((with_reducible refine' w_slL ?wh ?_); (case wh => walk_at "lk")) | ((with_reducible refine' w_rvq ?wh ?_); (case wh => walk_at "lk")) | ((with_reducible refine' w_listO ?wh ?_); (case wh => walk_at "lk")) | ((with_reducible refine' w_starL ?wh ?_); (case wh => walk_at "lk"))
  | ((with_reducible refine' w_fq ?wh ?wc ?wn ?wl ?_); (case wh => walk_at "lk"); (case wc => walk_at "sd"); (case wn => walk_at "sd"); (case wl => exact rfl))
  | ((with_reducible refine' w_sum ?wh ?_); (case wh => walk_at "lk"))
  | ((with_reducible refine' w_all ?wh ?_); (case wh => walk_at "lk"))
  | (with_reducible refine w_forL ?_) | ((with_reducible refine' w_forLq ?wh ?_); (case wh => walk_at "lk")) | (with_reducible refine w_forS ?_) | (with_reducible refine w_forSq ?_) | (with_reducible refine w_forR1 ?_) | ((with_reducible refine' w_forR1q ?wh ?_); (case wh => omega)) | (with_reducible refine w_forR2 ?_) | ((with_reducible refine' w_forR2q ?wh ?_); (case wh => omega)) | (with_reducible refine w_forE ?_) | ((with_reducible refine' w_forEq ?wh ?_); (case wh => walk_at "lk"))
  | (with_reducible refine w_lcL ?_) | ((with_reducible refine' w_lcLq ?wh ?_); (case wh => walk_at "lk")) | (with_reducible refine w_lcS ?_) | (with_reducible refine w_lcSq ?_) | (with_reducible refine w_lcR2 ?_) | ((with_reducible refine' w_lcR2q ?wh ?_); (case wh => omega))
  | (with_reducible refine w_bm ?_) | ((with_reducible refine' w_bmq ?wh ?_); (case wh => walk_at "lk")) | (with_reducible refine w_bm0 ?_) | ((with_reducible refine' w_bm0q ?wh ?_); (case wh => walk_at "lk"))
  | ((with_reducible refine' w_getL ?wh ?wi ?_); (case wh => walk_at "lk"); (case wi => first | assumption | exact rfl)) | (with_reducible refine w_gSub ?_) | (with_reducible refine w_augS ?_)
  | ((with_reducible refine' w_gTup ?wh ?wl ?_); (case wh => walk_at "lk"); (case wl => exact rfl)) | (with_reducible refine w_gCons ?_) | (with_reducible refine w_gNil ?_)
  | (with_reducible refine w_parT ?_) | (with_reducible refine w_parq ?_) | (with_reducible refine w_par3T ?_) | (with_reducible refine w_par3q ?_) | (with_reducible refine w_sfld ?_) | (with_reducible refine w_ob ?_) | (with_reducible refine w_obq ?_)
  | ((with_reducible refine' w_sfq ?wh ?wc ?wn ?wl ?wq); (case wh => walk_at "lk"); (case wc => walk_at "sd"); (case wn => walk_at "sd"); (case wl => exact Nat.le_of_ble_eq_true rfl))
  | ((with_reducible refine' w_rI ?wh ?wq); (case wh => first | decide | exact ⟨by decide, by decide⟩)) | (with_reducible refine w_pairsC ?_) | (with_reducible refine w_pairsN ?_) | ((with_reducible refine' w_cat ?wh ?wk ?wl ?wq); (case wh => walk_at "lk"); (case wk => walk_at "lk"); (case wl => walk_at "sz"))
  | ((with_reducible refine' w_mqRow ?wh ?wl ?wk ?wq); (case wh => walk_at "rw"); (case wl => exact rfl); (case wk => exact rfl))
  | ((with_reducible refine' w_mq ?wh ?wl ?wq); (case wh => walk_at "lk"); (case wl => exact rfl))
  | ((with_reducible refine' w_wipe ?wh ?wq); (case wh => exact rfl)) | (with_reducible refine w_yesT ?_)
  | (with_reducible refine w_isNumber ?_) | (with_reducible refine w_isCount ?_) | (with_reducible refine w_isColour ?_) | (with_reducible refine w_checkGame ?_) | (with_reducible refine w_checkGoal ?_) | (with_reducible refine w_checkWords ?_)
  | (with_reducible refine iteT ?_) | (with_reducible refine iteF ?_) | ((with_reducible refine' w_yes ?wh ?_); (case wh => exact rfl)) | ((with_reducible refine' w_no ?wh ?_); (case wh => exact rfl)))
local macro_rules | `(tactic| walk_at "sz") => `(tactic| first | (refine sz_le ?_; first | assumption | (simp only [List.length_map, List.length_append, List.length_cons, List.length_nil]; omega) | omega) | (refine sz_lt ?_; first | assumption | (simp only [List.length_map, List.length_append, List.length_cons, List.length_nil]; omega) | omega))
local macro_rules | `(tactic| walk_at "go") => `(tactic| repeat (walk_at "w"))
local macro_rules | `(tactic| walk_at "bt") => `(tactic| first | exact rfl | assumption | (simp [*]; done) | (simp; omega) | (simp [*]; omega))
local macro_rules | `(tactic| walk_at "yes") => `(tactic| ((with_reducible refine' w_yes ?wh ?wq); (case wh => walk_at "bt"); walk_at "go"))
local macro_rules | `(tactic| walk_at "no") => `(tactic| ((with_reducible refine' w_no ?wh ?wq); (case wh => walk_at "bt"); walk_at "go"))
local macro_rules | `(tactic| walk_at "st") => `(tactic| ((try dsimp only [L2.cxOf, L2.Cx.nox, L2.Cx.wish]); walk_at "go"))
local macro_rules | `(tactic| walk_at "rw") => `(tactic| first | assumption | ((with_reducible refine' IsRow.rw ?wk); (case wk => walk_at "rw")) | ((with_reducible refine' IsRw.ex (by assumption) ?wk); (case wk => walk_at "rw")) | ((with_reducible refine' IsRow.ex (by assumption) ?wk); (case wk => walk_at "rw")))
local macro_rules | `(tactic| walk_at "ro") => `(tactic| first | assumption | ((with_reducible refine' IsRow.ex (by assumption) ?wk); (case wk => walk_at "ro")))
local macro_rules | `(tactic| walk_at "fl") => `(tactic| first | assumption | ((with_reducible refine' IsFlip.ex (by assumption) ?wk); (case wk => walk_at "fl")))
local macro_rules | `(tactic| walk_at "w") => `(tactic| first
  | ((with_reducible refine' w_first ?wh ?wq); (case wh => walk_at "rw")) | ((with_reducible refine' w_runs ?wh ?wq); (case wh => walk_at "rw")) | ((with_reducible refine' w_length ?wh ?wq); (case wh => walk_at "rw")) | ((with_reducible refine' w_lengths ?wh ?wq); (case wh => walk_at "rw")))
local macro_rules | `(tactic| walk_at "w") => `(tactic| first
  | ((with_reducible refine' w_start ?wh ?wq); (case wh => walk_at "fl")) | ((with_reducible refine' w_end ?wh ?wq); (case wh => walk_at "fl")))
local macro_rules | `(tactic| walk_at "w") => `(tactic| first | (with_reducible refine w_dget ?_))
theorem ex_Trial_dexitd {P : Program} {w : World} {K : PySem.W.Frag} {mg : Str → Option Value} {base : Heap} (T : Tx P K mg) : ExOk P w K mg base 1 (He.ma K (He.ga K "Trial") "__exit__") (spExit K) := by
  refine ex_mk T.d_Trial_dexitd sc_Trial_dexitd (fun vs H Q E h => ?len) (fun _ _ _ _ _ _ us hl => match us, hl with | [_, _, _, _], _ => rfl) (fun cdv A outer s H vs Q p h => ⟨_, (pss_one (ps_fld (pe_fld (pv 0) rfl) (pe_fld (pv 0) rfl) rfl)), ?body⟩)
  case len => obtain ⟨x, dx, t, r0, wt, st, s2, k1, k2, k3, rfl, _⟩ := h; rfl
  case body =>
    obtain ⟨x, dx, t, r0, wt, st, s2, k1, k2, k3, rfl, hx, ⟨dy, ht⟩, q⟩ := h
    try dsimp only [L2H.cxH]
    walk_at "st"
    intro H1 m1 h1
    walk_at "go"
    exact q H1 m1 ⟨dy, h1⟩
/-- a list of flips performed: the word behind, or the index of the first that is not allowed -/
def applyP (g : Gm) : Wd → List Pl → Nat → Except Nat Wd
  | u, [], _ => .ok u
  | u, p :: ps, i => if allowB g u.length p.1 p.2 = true then applyP g (turnW u p.1 p.2) ps (i + 1) else .error i
theorem applyP_cons (g : Gm) (u : Wd) (p : Pl) (ps : List Pl) (i : Nat) : applyP g u (p :: ps) i = if allowB g u.length p.1 p.2 = true then applyP g (turnW u p.1 p.2) ps (i + 1) else .error i := rfl
theorem w_mkIp {C : Addr} {te : TE} {σ : L2.St} {H : Hp} {Q : XK} (q : te σ H fun v H1 => ∀ d, H1 d = none → Q (.ref C) (some d) (upd H1 d (.xd [("index", v)]))) : tMkIp C te σ H Q := q
theorem applyP_app (g : Gm) : ∀ (A : List Pl) (B : List Pl) (u v : Wd) (i : Nat), applyP g u A i = .ok v → applyP g u (A ++ B) i = applyP g v B (i + A.length)
  | [], B, u, v, i, h => by
    cases h
    rfl
  | p :: A, B, u, v, i, h => by
    unfold applyP at h
    by_cases c : allowB g u.length p.1 p.2 = true
    · rw [if_pos c] at h
      have := applyP_app g A B _ v (i + 1) h
      show applyP g u (p :: (A ++ B)) i = _
      rw [applyP_cons, if_pos c, this, List.length_cons, show i + 1 + A.length = i + (A.length + 1) by omega]
    · rw [if_neg c] at h
      cases h
theorem drop_at {α : Type} : ∀ {l : List α} {i : Nat} {x : α}, l[i]? = some x → l.drop i = x :: l.drop (i + 1)
  | y :: l, 0, x, h => by
    simp at h
    subst h
    rfl
  | y :: l, i + 1, x, h => by
    have := drop_at (l := l) (i := i) (x := x) (by simpa using h)
    simpa using this
def spIadd (K : PySem.W.Frag) : Sp := fun vs H Q E => ∃ t r0 wt st u0 g o r dl ul dfs ufs u ds us fl ffs ps, vs = [.ref t, .ref fl] ∧ TabO K H t r0 wt st ∧ BgAt K H r0 wt u0 g o ∧ StAt K H st r dl ul dfs ufs u ds us ∧ ds.length ≤ 5000 ∧ H fl = some (.lst (List.map V.ref ffs)) ∧ FlipsAt K H ffs ps ∧ (∀ p ∈ ps, p.1 < p.2) ∧ ps.length ≤ 1000 ∧
  (∀ i, applyP g u ps 0 = .error i → ∀ d H', Ex H H' → H' d = some (.xd [("index", .int (i : Nat))]) → E (.ref (He.ga K "InvalidPlan")) (some d) H') ∧
  (∀ v, applyP g u ps 0 = .ok v → ∀ H' st' r' dl' ul', Mu t H H' → TabO K H' t r0 wt st' → BgAt K H' r0 wt u0 g o → StAt K H' st' r' dl' ul' (dfs ++ ffs) (if ps = [] then ufs else []) v (ds ++ ps) (if ps = [] then us else []) → Q (.ref t) H')
theorem sc_Table_diaddd : FnScope ["self", "flips", "row", "index", "flip"] ["self", "flips"] (defScope (inClass (top 46) 8)) := ⟨rfl, rfl, rfl, by decide +kernel, rfl, by decide +kernel, by decide +kernel⟩
theorem ok_Table_diaddd {P : Program} {w : World} {K : PySem.W.Frag} {mg : Str → Option Value} {base : Heap} (T : Tx P K mg) : Ok P w K mg base 8 (He.ma K (He.ga K "Table") "__iadd__") (spIadd K) := by
  refine ok_mkX T.d_Table_diaddd sc_Table_diaddd (fun vs H Q E h => ?len) (fun _ _ _ _ _ _ us hl => match us, hl with | [_, _], _ => rfl) (fun cdv A outer s H vs Q E hr h => ⟨_, (pss_cons (ps_set (i := 2) sc_Table_diaddd.nd rfl (.inl rfl) (pe_ix ix_tup (pe_fld (pv 0) rfl) pe_int (fun _ _ => rfl))) (pss_cons (ps_for (passes_of rfl) rfl (pi_enum (by rfl) T.z_enumerate (pa_cons (pv 1) pa_nil)) (pg_tup rfl (pgs_cons (pg_name (i := 3) sc_Table_diaddd.nd rfl (Or.inl rfl)) (pgs_cons (pg_name (i := 4) sc_Table_diaddd.nd rfl (Or.inl rfl)) pgs_nil))) (pss_cons (ps_if (pt_not (pt_val (pe_fn (ok_is_allowed T) hr T.g_is_allowed (pa_cons (pv 2) (pa_cons (pv 4) (pa_cons (pe_ix ix_tup (pe_fld (pv 0) rfl) pe_int (fun _ _ => rfl)) pa_nil)))))) (pss_one (ps_raise rfl (takes_of rfl rfl rfl rfl) (pmk_ipT T (k := 1) (hr.mono (by decide)) rfl (pv 3)))) pss_nil) (pss_one (ps_try_thru0 (pss_one (ps_set (i := 2) sc_Table_diaddd.nd rfl (.inl rfl) (pe_ob T.co_Flip (ok_Flip_dcalld T) hr (pv 4) (pa_cons (pv 2) pa_nil)))))))) (pss_cons (ps_if (pt_cmpR op_gt (pe_callB cq_lenQ (by rfl) T.z_len (by decide +kernel) (pa_cons (pv 1) pa_nil)) pe_int (nomark _)) (pss_one (ps_fld (pv 0) (pe_tup (pa_cons (pv 2) (pa_cons (pe_lst (StX.pa_star (pe_ix ix_tup (pe_fld (pv 0) rfl) pe_int (fun _ _ => rfl)) (StX.pa_star (pv 1) pa_nil))) (pa_cons (pe_lst pa_nil) pa_nil)))) rfl)) pss_nil) (pss_one (ps_ret (pv 0)))))), ?body⟩)
  case len => obtain ⟨t, r0, wt, st, u0, g, o, r, dl, ul, dfs, ufs, u, ds, us, fl, ffs, ps, rfl, _⟩ := h; rfl
  case body =>
    obtain ⟨t, r0, wt, st, u0, g, o, r, dl, ul, dfs, ufs, u, ds, us, fl, ffs, ps, rfl, ht0, hb, hst, zd, hfl, hfs, hlt, zp, qe, qk⟩ := h
    obtain ⟨dx, ht⟩ := id ht0
    have hw := hb.wds
    have hsT := hst.tup
    have hdn := hst.don
    have zl := paired_len hst.dF
    have zf := paired_len hfs
    walk_at "st"
    refine w_forW (walk_enum (xs := List.map V.ref ffs)) (fun i σ' H' => ∃ r1 v x1 x2, σ' = [some (.ref t), some (.ref fl), some (.ref r1), x1, x2] ∧ Ex H H' ∧ IsRow K H' r1 v ∧ v.length = u.length ∧ applyP g u (ps.take i) 0 = .ok v) ?i0 ?iG ?is ?id
    case i0 => exact ⟨r, u, none, none, rfl, Ex.refl _, hst.row, rfl, rfl⟩
    case iG =>
      rintro i σ' H' _ ⟨r1, v, x1, x2, _, e5, _⟩
      exact sl_of (e5 _ _ hfl)
    case is =>
      rintro i x σ' H' H'' hi ⟨r1, v, x1, x2, rfl, e5, hr1, zv, hap⟩ ⟨T1, y1, y2, rfl, nT, rfl, hy1, hy2⟩
      cases hy1
      obtain ⟨f, hf, rfl⟩ := map_at hy2
      have eT : Ex H' (upd H' T1 (.tup [.int (i : Nat), .ref f])) := Ex.new nT
      have hT : (upd H' T1 (.tup [.int (i : Nat), .ref f])) T1 = some (.tup [.int (i : Nat), .ref f]) := upd_same
      generalize upd H' T1 (.tup [.int (i : Nat), .ref f]) = H3 at *
      obtain ⟨p, hp⟩ : ∃ p, ps[i]? = some p := by
        have : i < ps.length := by rw [← zf]; exact (List.getElem?_eq_some_iff.mp hf).1
        exact ⟨ps[i], List.getElem?_eq_getElem this⟩
      have hfp := paired_at hfs i f p hf hp
      have e6 := e5.trans eT
      have happ := applyP_app g (ps.take i) (ps.drop i) u v 0 hap
      rw [List.take_append_drop, drop_at hp] at happ
      have zi : (ps.take i).length = i := by
        rw [List.length_take]
        have := (List.getElem?_eq_some_iff.mp hp).1
        omega
      rw [zi, Nat.zero_add] at happ
      refine w_gTup (st_of hT) rfl ?_
      walk_at "go"
      refine ⟨r1, f, _, _, v, g, rfl, hfp.ex e6, hr1.ex eT, ?_⟩
      walk_at "go"
      refine w_ite (fun e => ?_) (fun e => ?_)
      · have hal : ¬ allowB g v.length p.1 p.2 = true := by simpa using e
        rw [applyP_cons, if_neg hal] at happ
        walk_at "go"
        refine w_mkIp ?_
        walk_at "go"
        intro d nd
        exact qe i happ d _ (e6.trans (Ex.new nd)) upd_same
      · have hal : allowB g v.length p.1 p.2 = true := by simpa using e
        have hbl : p.2 ≤ v.length := by
          unfold allowB at hal
          simp at hal
          omega
        have hlt2 := hlt p (List.mem_of_getElem? hp)
        walk_at "go"
        refine w_flip (hfp.ex e6) (hr1.ex eT) hlt2 hbl fun t1 H4 e4 ht1 => ?_
        walk_at "go"
        refine ⟨t1, _, _, _, rfl, e6.trans e4, ht1, ?_, ?_⟩
        · rw [turnW_len v p.1 p.2 (by omega) hbl, zv]
        · have := applyP_app g (ps.take i) [p] u v 0 hap
          rw [List.take_succ, hp]
          rw [show (ps.take i ++ (some p).toList) = ps.take i ++ [p] from rfl, this]
          rw [applyP_cons, if_pos hal]
          rfl
    case id =>
      rintro σ' H' ⟨r1, v, x1, x2, rfl, e5, hr1, zv, hap⟩
      rw [List.length_map, zf, List.take_length] at hap
      walk_at "go"
      rw [List.length_map]
      refine w_ite (fun e => ?_) (fun e => ?_)
      · have hne : ps ≠ [] := fun z => by
          rw [z] at zf
          rw [zf] at e
          simp at e
        walk_at "go"
        refine w_newA (by show _ ≤ sizeLine; exact sz_le (by simp; omega)) fun dl1 H4 e4 n4 h4 => ?_
        walk_at "go"
        refine w_newA (by show (0 : Nat) ≤ sizeLine; decide) fun ul1 H5 e5' n5 h5 => ?_
        walk_at "go"
        refine w_newA (by show (3 : Nat) ≤ sizeLine; decide) fun st1 H6 e6 n6 h6 => ?_
        walk_at "go"
        intro H7 m7 h7
        walk_at "go"
        have e26 := ((e5.trans e4).trans e5').trans e6
        have mt : Mu t H H7 := (Mu.ofEx e26).trans m7
        have ht6 : TabO K H6 t r0 wt st := ⟨dx, e26 _ _ ht⟩
        have hs6 : StAt K H6 st1 r1 dl1 ul1 (dfs ++ ffs) [] v (ds ++ ps) [] :=
          ⟨h6, ((hr1.ex e4).ex e5').ex e6, by rw [e6 _ _ (e5' _ _ h4)]; simp, e6 _ _ h5, (hst.dF.ex e26).app (hfs.ex e26), .nil⟩
        refine qk v hap H7 st1 r1 dl1 ul1 mt ⟨dx, h7⟩ ((hb.ex e26).mu m7 ht6) ?_
        rw [if_neg hne, if_neg hne]
        exact hs6.mu m7 ht6
      · have hps : ps = [] := by
          have : ffs.length = 0 := by
            have := of_decide_eq_false e
            omega
          rw [zf] at this
          exact List.eq_nil_of_length_eq_zero this
        subst hps
        cases ffs with
        | cons _ _ => cases zf
        | nil =>
          cases hap
          walk_at "go"
          refine qk u rfl H' st r dl ul (Mu.ofEx e5) ⟨dx, e5 _ _ ht⟩ (hb.ex e5) ?_
          rw [if_pos rfl, if_pos rfl, List.append_nil, List.append_nil]
          exact hst.ex e5
end Tcf

set_option Elab.async false
set_option linter.all false
set_option maxRecDepth 100000
set_option maxHeartbeats 4000000
/-! DQ: lists of flips tried (printed from DQ.tmpl by gen_der.py). -/
namespace Tcf
open PySem PySem.Spec PyProof.Rows L2
open Evl (Ex)
set_option hygiene false in
local macro_rules | `(tactic| walk_at "lkT") => `(tactic| first | (with_reducible exact T.l_GAMES _) | (with_reducible exact T.l_GOALS _))
set_option hygiene false in
local macro_rules | `(tactic| walk_at "isx") => `(tactic| first | (with_reducible exact T.is_Row (by walk_at "lk")) | (with_reducible exact T.is_Flip (by walk_at "lk")) | (with_reducible exact T.is_Table (by walk_at "lk")))
local macro_rules | `(tactic| walk_at "lk") => `(tactic| first
  | assumption
  | walk_at "lkT"
  | ((with_reducible refine' ex_at (by assumption) ?wk); (case wk => walk_at "lk"))
  | ((with_reducible refine' sl_of ?wk); (case wk => walk_at "lk"))
  | ((with_reducible refine' st_of ?wk); (case wk => walk_at "lk"))
  | ((with_reducible refine' ex_l (by assumption) ?wk); (case wk => walk_at "lk"))
  | ((with_reducible refine' ex_t (by assumption) ?wk); (case wk => walk_at "lk"))
  | ((with_reducible refine' mu_at (by assumption) ?wk ?wn); (case wk => walk_at "lk"); (case wn => assumption)))
set_option hygiene false in
local macro_rules | `(tactic| walk_at "sd") => `(tactic| first
  | exact rfl | assumption | (with_reducible exact T.c_Row) | (with_reducible exact T.c_Flip) | (with_reducible exact T.c_Table) | (with_reducible exact T.c_Trial)
  | (with_reducible exact T.n_Row_colour) | (with_reducible exact T.n_Row_sizes) | (with_reducible exact T.n_Flip_begin) | (with_reducible exact T.n_Flip_finish) | (with_reducible exact T.n_Trial_home) | (with_reducible exact T.n_Trial_kept)
  | (with_reducible exact T.n_Table_beginning) | (with_reducible exact T.n_Table_words) | (with_reducible exact T.n_Table_state))
local macro_rules | `(tactic| walk_at "w") => `(tactic| first
  | (with_reducible refine w_seq ?_) | (with_reducible refine w_asg ?_) | (with_reducible refine w_gName ?_) | (with_reducible refine w_ret ?_) | (with_reducible refine w_ifS ?_) | (with_reducible refine w_drop ?_) | (with_reducible refine w_next ?_)
  | ((with_reducible refine' w_aug ?wh ?_); (case wh => exact rfl)) | (with_reducible refine w_match ?_) | (with_reducible refine w_case ?_)
  | ((with_reducible refine' w_var ?wh ?_); (case wh => exact rfl))
  | (with_reducible refine w_c ?_) | (with_reducible refine w_op ?_) | (with_reducible refine w_un ?_) | (with_reducible refine w_nil ?_) | (with_reducible refine w_cons ?_) | (with_reducible refine w_star ?_) | (with_reducible refine w_tup ?_) | (with_reducible refine w_lst ?_)
  | (with_reducible refine w_if ?_) | (with_reducible refine w_and ?_) | (with_reducible refine w_or ?_) | (with_reducible refine w_not ?_) | (with_reducible refine w_bq ?_) | (with_reducible refine w_B ?_) | (with_reducible refine w_test ?_) | (with_reducible refine w_andV ?_) | (with_reducible refine w_orV ?_) | (with_reducible refine w_notV ?_)
  | (with_reducible refine w_chain ?_) | (with_reducible refine w_rI0 ?_) | (with_reducible refine w_rU ?_) | (with_reducible refine w_ipI ?_)
  | (with_reducible refine w_eqI ?_) | (with_reducible refine w_neI ?_) | (with_reducible refine w_eqS ?_) | (with_reducible refine w_neS ?_) | (with_reducible refine w_eqB ?_) | (with_reducible refine w_neB ?_) | (with_reducible refine w_isNr ?_) | (with_reducible refine w_isNn ?_)
  | (with_reducible refine w_sl ?_) | (with_reducible refine w_noPart ?_) | (with_reducible refine w_part ?_) | (with_reducible refine w_pq ?_) | (with_reducible refine w_revL ?_) | (with_reducible refine w_revS ?_)
  | (with_reducible refine w_cb ?_) | (with_reducible refine w_min2 ?_) | (with_reducible refine w_max2 ?_) | (with_reducible refine w_intB ?_)
  | (with_reducible refine w_fn ?_) | (with_reducible refine w_me ?_) | (with_reducible refine w_pr ?_) | (with_reducible refine w_mk ?_) | (with_reducible refine w_fld ?_)
  | (with_reducible refine w_isi_ii ?_) | (with_reducible refine w_isi_ib ?_) | (with_reducible refine w_isi_ss ?_)
  | ((with_reducible refine' w_isi_ll ?wh ?_); (case wh => walk_at "lk"))
  | ((with_reducible refine' w_isi_own ?wh ?wq); (case wh => walk_at "isx"))
  | ((with_reducible refine' w_lenL ?wh ?_); (case wh => walk_at "lk")) | ((with_reducible refine' w_ixL ?wh ?wi ?_); (case wh => walk_at "lk"); (case wi => first | assumption | exact rfl)) | ((with_reducible refine' w_ixT ?wh ?wi ?_); (case wh => walk_at "lk"); (case wi => first | assumption | exact rfl))
  | ((with_reducible refine' w_slL ?wh ?_); (case wh => walk_at "lk")) | ((with_reducible refine' w_rvq ?wh ?_); (case wh => walk_at "lk")) | ((with_reducible refine' w_listO ?wh ?_); (case wh => walk_at "lk")) | ((with_reducible refine' w_starL ?wh ?_); (case wh => walk_at "lk"))
  | ((with_reducible refine' w_fq ?wh ?wc ?wn ?wl ?_); (case wh => walk_at "lk"); (case wc => walk_at "sd"); (case wn => walk_at "sd"); (case wl => exact rfl))
  | ((with_reducible refine' w_sum ?wh ?_); (case wh => walk_at "lk"))
  | ((with_reducible refine' w_all ?wh ?_); (case wh => walk_at "lk"))
  | (with_reducible refine w_forL ?_) | ((with_reducible refine' w_forLq ?wh ?_); (case wh => walk_at "lk")) | (with_reducible refine w_forS ?_) | (with_reducible refine w_forSq ?_) | (with_reducible refine w_forR1 ?_) | ((with_reducible refine' w_forR1q ?wh ?_); (case wh => omega)) | (with_reducible refine w_forR2 ?_) | ((with_reducible refine' w_forR2q ?wh ?_); (case wh => omega)) | (with_reducible refine w_forE ?_) | ((with_reducible refine' w_forEq ?wh ?_); (case wh => walk_at "lk"))
  | (with_reducible refine w_lcL ?_) | ((with_reducible refine' w_lcLq ?wh ?_); (case wh => walk_at "lk")) | (with_reducible refine w_lcS ?_) | (with_reducible refine w_lcSq ?_) | (with_reducible refine w_lcR2 ?_) | ((with_reducible refine' w_lcR2q ?wh ?_); (case wh => omega))
  | (with_reducible refine w_bm ?_) | ((with_reducible refine' w_bmq ?wh ?_); (case wh => walk_at "lk")) | (with_reducible refine w_bm0 ?_) | ((with_reducible refine' w_bm0q ?wh ?_); (case wh => walk_at "lk"))
  | ((with_reducible refine' w_getL ?wh ?wi ?_); (case wh => walk_at "lk"); (case wi => first | assumption | exact rfl)) | (with_reducible refine w_gSub ?_) | (with_reducible refine w_augS ?_)
  | ((with_reducible refine' w_gTup ?wh ?wl ?_); (case wh => walk_at "lk"); (case wl => exact rfl)) | (with_reducible refine w_gCons ?_) | (with_reducible refine w_gNil ?_)
  | (with_reducible refine w_parT ?_) | (with_reducible refine w_parq ?_) | (with_reducible refine w_par3T ?_) | (with_reducible refine w_par3q ?_) | (with_reducible refine w_sfld ?_) | (with_reducible refine w_ob ?_) | (with_reducible refine w_obq ?_)
  | ((with_reducible refine' w_sfq ?wh ?wc ?wn ?wl ?wq); (case wh => walk_at "lk"); (case wc => walk_at "sd"); (case wn => walk_at "sd"); (case wl => exact Nat.le_of_ble_eq_true rfl))
  | ((with_reducible refine' w_rI ?wh ?wq); (case wh => first | decide | exact ⟨by decide, by decide⟩)) | (with_reducible refine w_pairsC ?_) | (with_reducible refine w_pairsN ?_) | ((with_reducible refine' w_cat ?wh ?wk ?wl ?wq); (case wh => walk_at "lk"); (case wk => walk_at "lk"); (case wl => walk_at "sz"))
  | ((with_reducible refine' w_mqRow ?wh ?wl ?wk ?wq); (case wh => walk_at "rw"); (case wl => exact rfl); (case wk => exact rfl))
  | ((with_reducible refine' w_mq ?wh ?wl ?wq); (case wh => walk_at "lk"); (case wl => exact rfl))
  | ((with_reducible refine' w_wipe ?wh ?wq); (case wh => exact rfl)) | (with_reducible refine w_yesT ?_)
  | (with_reducible refine w_isNumber ?_) | (with_reducible refine w_isCount ?_) | (with_reducible refine w_isColour ?_) | (with_reducible refine w_checkGame ?_) | (with_reducible refine w_checkGoal ?_) | (with_reducible refine w_checkWords ?_)
  | (with_reducible refine iteT ?_) | (with_reducible refine iteF ?_) | ((with_reducible refine' w_yes ?wh ?_); (case wh => exact rfl)) | ((with_reducible refine' w_no ?wh ?_); (case wh => exact rfl)))
local macro_rules | `(tactic| walk_at "sz") => `(tactic| first | (refine sz_le ?_; first | assumption | (simp only [List.length_map, List.length_append, List.length_cons, List.length_nil]; omega) | omega) | (refine sz_lt ?_; first | assumption | (simp only [List.length_map, List.length_append, List.length_cons, List.length_nil]; omega) | omega))
local macro_rules | `(tactic| walk_at "go") => `(tactic| repeat (walk_at "w"))
local macro_rules | `(tactic| walk_at "bt") => `(tactic| first | exact rfl | assumption | (simp [*]; done) | (simp; omega) | (simp [*]; omega))
local macro_rules | `(tactic| walk_at "yes") => `(tactic| ((with_reducible refine' w_yes ?wh ?wq); (case wh => walk_at "bt"); walk_at "go"))
local macro_rules | `(tactic| walk_at "no") => `(tactic| ((with_reducible refine' w_no ?wh ?wq); (case wh => walk_at "bt"); walk_at "go"))
local macro_rules | `(tactic| walk_at "st") => `(tactic| ((try dsimp only [L2.cxOf, L2.Cx.nox, L2.Cx.wish]); walk_at "go"))
local macro_rules | `(tactic| walk_at "rw") => `(tactic| first | assumption | ((with_reducible refine' IsRow.rw ?wk); (case wk => walk_at "rw")) | ((with_reducible refine' IsRw.ex (by assumption) ?wk); (case wk => walk_at "rw")) | ((with_reducible refine' IsRow.ex (by assumption) ?wk); (case wk => walk_at "rw")))
local macro_rules | `(tactic| walk_at "ro") => `(tactic| first | assumption | ((with_reducible refine' IsRow.ex (by assumption) ?wk); (case wk => walk_at "ro")))
local macro_rules | `(tactic| walk_at "fl") => `(tactic| first | assumption | ((with_reducible refine' IsFlip.ex (by assumption) ?wk); (case wk => walk_at "fl")))
local macro_rules | `(tactic| walk_at "w") => `(tactic| first
  | ((with_reducible refine' w_first ?wh ?wq); (case wh => walk_at "rw")) | ((with_reducible refine' w_runs ?wh ?wq); (case wh => walk_at "rw")) | ((with_reducible refine' w_length ?wh ?wq); (case wh => walk_at "rw")) | ((with_reducible refine' w_lengths ?wh ?wq); (case wh => walk_at "rw")))
local macro_rules | `(tactic| walk_at "w") => `(tactic| first
  | ((with_reducible refine' w_start ?wh ?wq); (case wh => walk_at "fl")) | ((with_reducible refine' w_end ?wh ?wq); (case wh => walk_at "fl")))
local macro_rules | `(tactic| walk_at "w") => `(tactic| first | (with_reducible refine w_dget ?_))
theorem w_with {C : Addr} {spE spX : Sp} {Wout : XK} {tc : TE} {g : TG} {tb : XK → TS} {D : Ends} {σ : L2.St} {H : Hp} (q : tc σ H fun x H1 => ∃ a dx fs, x = .ref a ∧ H1 a = some (.ins C dx fs) ∧
    spE [.ref a] H1 (fun v H2 => g v σ H2 fun σ1 H3 => tb (Wi.wWith spX a Wout) { nx := fun σ2 H4 => spX [.ref a, .non, .non, .non] H4 (fun _ H5 => D.nx σ2 H5) E0, rt := fun y H4 => spX [.ref a, .non, .non, .non] H4 (fun _ H5 => D.rt y H5) E0, bk := fun σ2 H4 => spX [.ref a, .non, .non, .non] H4 (fun _ H5 => D.bk σ2 H5) E0, ct := fun σ2 H4 => spX [.ref a, .non, .non, .non] H4 (fun _ H5 => D.ct σ2 H5) E0 } σ1 H3) E0) :
    Wi.tWith C spE spX Wout tc g tb D σ H := q
/-- Trial(t) -/
theorem w_mkTrial {K : PySem.W.Frag} {H : Hp} {Q : VK} {E : XK} {t r0 wt st : Addr} (ht : TabO K H t r0 wt st) (q : ∀ x dx H2, Ex H H2 → H x = none → H2 x = some (.ins (He.ga K "Trial") dx [("home", .ref t), ("kept", .ref st)]) → Q (.ref x) H2) : MkQ (He.ga K "Trial") (spTrialInit K) E [.ref t] Q H := by
  intro x dx nx ndx ne
  have e0 : Ex H (upd (upd H dx (.own x)) x (.ins (He.ga K "Trial") dx [])) := (Ex.new ndx).trans (Ex.new (by rw [upd_ne (Ne.symm ne)]; exact nx))
  exact ⟨x, dx, t, r0, wt, st, rfl, upd_same, ht.ex e0, fun H' m h => ⟨rfl, q x dx H' (m H e0 nx) nx h⟩⟩
def spTried (K : PySem.W.Frag) : Sp := fun vs H Q E => ∃ t r0 wt st u0 g o r dl ul dfs ufs u ds us fl ffs ps, vs = [.ref t, .ref fl] ∧ TabO K H t r0 wt st ∧ BgAt K H r0 wt u0 g o ∧ StAt K H st r dl ul dfs ufs u ds us ∧ ds.length ≤ 5000 ∧ H fl = some (.lst (List.map V.ref ffs)) ∧ FlipsAt K H ffs ps ∧ (∀ p ∈ ps, p.1 < p.2) ∧ ps.length ≤ 1000 ∧
  (∀ i, applyP g u ps 0 = .error i → ∀ d H', Mu t H H' → TabO K H' t r0 wt st → H' d = some (.xd [("index", .int (i : Nat))]) → E (.ref (He.ga K "InvalidPlan")) (some d) H') ∧
  (∀ v, applyP g u ps 0 = .ok v → ∀ H', Mu t H H' → TabO K H' t r0 wt st → Q (.int (costW g o v)) H')
theorem sc_Table_tried : FnScope ["self", "flips", "table"] ["self", "flips"] (defScope (inClass (top 46) 16)) := ⟨rfl, rfl, rfl, by decide +kernel, rfl, by decide +kernel, by decide +kernel⟩
theorem ok_Table_tried {P : Program} {w : World} {K : PySem.W.Frag} {mg : Str → Option Value} {base : Heap} (T : Tx P K mg) : Ok P w K mg base 9 (He.ma K (He.ga K "Table") "tried") (spTried K) := by
  refine ok_mkX T.d_Table_tried sc_Table_tried (fun vs H Q E h => ?len) (fun _ _ _ _ _ _ us hl => match us, hl with | [_, _], _ => rfl) (fun cdv A outer s H vs Q E hr h => ⟨_, (pss_one (Wi.ps_with rfl rfl rfl (takes_of rfl rfl rfl rfl) T.m_Trial_denterd T.m_Trial_dexitd (ok_Trial_denterd T) (ok_Trial_dexitd T) (ex_Trial_dexitd T) hr (pe_new T.k_Trial (ok_Trial_dinitd T) hr T.gc_Trial (pa_cons (pv 0) pa_nil)) (fun pn xe => (pg_name (i := 2) sc_Table_tried.nd rfl (Or.inl rfl))) (fun W pn xe tk => (pss_cons (ps_aug (i := 2) sc_Table_tried.nd rfl (.inl rfl) (pv 1) (iop_own T.sf_Table T.m_Table_diaddd.at_ T.m_Table_diaddd.fn (ok_Table_diaddd T) hr (passes_call (E := W) tk (fun _ _ _ _ h => h)))) (pss_one (ps_ret (pe_me0 T.c_Table T.m_Table_cost (ok_Table_cost T) hr (pv 2)))))))), ?body⟩)
  case len => obtain ⟨t, r0, wt, st, u0, g, o, r, dl, ul, dfs, ufs, u, ds, us, fl, ffs, ps, rfl, _⟩ := h; rfl
  case body =>
    obtain ⟨t, r0, wt, st, u0, g, o, r, dl, ul, dfs, ufs, u, ds, us, fl, ffs, ps, rfl, ht0, hb, hst, zd, hfl, hfs, hlt, zp, qe, qk⟩ := h
    obtain ⟨dx, ht⟩ := id ht0
    have hw := hb.wds
    have hsT := hst.tup
    have hdn := hst.don
    walk_at "st"
    refine w_with ?_
    walk_at "go"
    refine w_mkTrial ht0 fun x dy H1 e1 nx hx => ?_
    have hnt : t ≠ x := fun z => by rw [← z, ht] at nx; cases nx
    refine ⟨x, dy, _, rfl, hx, x, dy, t, r0, wt, st, rfl, hx, ht0.ex e1, fun H2 m2 hx2 => ?_⟩
    have e2 : Ex H H2 := m2 H e1 nx
    have ht2 : TabO K H2 t r0 wt st := ht0.ex e2
    have hx2t : ∀ {H3 : Hp}, Mu t H2 H3 → H3 x = some (.ins (He.ga K "Trial") dy [("home", .ref t), ("kept", .ref st)]) := fun m => mu_at m hx2 (Ne.symm hnt)
    walk_at "go"
    refine ⟨t, dx, _, rfl, e2 _ _ ht, t, r0, wt, st, u0, g, o, r, dl, ul, dfs, ufs, u, ds, us, fl, ffs, ps, rfl, ht2, hb.ex e2, hst.ex e2, zd, e2 _ _ hfl, hfs.ex e2, hlt, zp, fun i hi d H3 e3 hd => ?_, fun v hv H3 st' r' dl' ul' m3 ht3 hb3 hs3 => ?_⟩
    · refine ⟨.ref (He.ga K "InvalidPlan"), rfl, fun k2 k3 => ⟨x, dy, t, r0, wt, st, st, _, _, _, rfl, e3 _ _ hx2, ht2.ex e3, fun H4 m4 ht4 => ⟨rfl, ?_⟩⟩⟩
      obtain ⟨dz, ht3'⟩ := ht2.ex e3
      exact qe i hi d H4 ((Mu.ofEx (e2.trans e3)).trans m4) ht4 (mu_at m4 hd (ne_of hd ht3' (by intro z; cases z)))
    · have hs3t := hs3.tup
      have hs3r := hs3.row
      obtain ⟨dz, ht3'⟩ := id ht3
      walk_at "go"
      refine ⟨t, r0, wt, st', u0, g, o, r', dl', ul', v, rfl, ht3, hb3, hs3t, hs3r, ?_⟩
      exact ⟨x, dy, t, r0, wt, st, st', _, _, _, rfl, hx2t m3, ht3, fun H4 m4 ht4 => qk v hv H4 (((Mu.ofEx e2).trans m3).trans m4) ht4⟩
end Tcf

set_option Elab.async false
set_option linter.all false
set_option maxRecDepth 100000
set_option maxHeartbeats 4000000
/-! EA: the law's streams, texts, turns (printed from EA.tmpl by gen_der.py). -/
namespace Tcf
open PySem PySem.Spec PyProof.Rows L2
open Evl (Ex)
set_option hygiene false in
local macro_rules | `(tactic| walk_at "lkT") => `(tactic| first | (with_reducible exact T.l_GAMES _) | (with_reducible exact T.l_GOALS _))
set_option hygiene false in
local macro_rules | `(tactic| walk_at "isx") => `(tactic| first | (with_reducible exact T.is_Row (by walk_at "lk")) | (with_reducible exact T.is_Flip (by walk_at "lk")) | (with_reducible exact T.is_Table (by walk_at "lk")))
local macro_rules | `(tactic| walk_at "lk") => `(tactic| first
  | assumption
  | walk_at "lkT"
  | ((with_reducible refine' ex_at (by assumption) ?wk); (case wk => walk_at "lk"))
  | ((with_reducible refine' sl_of ?wk); (case wk => walk_at "lk"))
  | ((with_reducible refine' st_of ?wk); (case wk => walk_at "lk"))
  | ((with_reducible refine' ex_l (by assumption) ?wk); (case wk => walk_at "lk"))
  | ((with_reducible refine' ex_t (by assumption) ?wk); (case wk => walk_at "lk"))
  | ((with_reducible refine' mu_at (by assumption) ?wk ?wn); (case wk => walk_at "lk"); (case wn => assumption)))
set_option hygiene false in
local macro_rules | `(tactic| walk_at "sd") => `(tactic| first
  | exact rfl | assumption | (with_reducible exact T.c_Row) | (with_reducible exact T.c_Flip) | (with_reducible exact T.c_Table) | (with_reducible exact T.c_Trial)
  | (with_reducible exact T.n_Row_colour) | (with_reducible exact T.n_Row_sizes) | (with_reducible exact T.n_Flip_begin) | (with_reducible exact T.n_Flip_finish) | (with_reducible exact T.n_Trial_home) | (with_reducible exact T.n_Trial_kept)
  | (with_reducible exact T.n_Table_beginning) | (with_reducible exact T.n_Table_words) | (with_reducible exact T.n_Table_state))
local macro_rules | `(tactic| walk_at "w") => `(tactic| first
  | (with_reducible refine w_seq ?_) | (with_reducible refine w_asg ?_) | (with_reducible refine w_gName ?_) | (with_reducible refine w_ret ?_) | (with_reducible refine w_ifS ?_) | (with_reducible refine w_drop ?_) | (with_reducible refine w_next ?_)
  | ((with_reducible refine' w_aug ?wh ?_); (case wh => exact rfl)) | (with_reducible refine w_match ?_) | (with_reducible refine w_case ?_)
  | ((with_reducible refine' w_var ?wh ?_); (case wh => exact rfl))
  | (with_reducible refine w_c ?_) | (with_reducible refine w_op ?_) | (with_reducible refine w_un ?_) | (with_reducible refine w_nil ?_) | (with_reducible refine w_cons ?_) | (with_reducible refine w_star ?_) | (with_reducible refine w_tup ?_) | (with_reducible refine w_lst ?_)
  | (with_reducible refine w_if ?_) | (with_reducible refine w_and ?_) | (with_reducible refine w_or ?_) | (with_reducible refine w_not ?_) | (with_reducible refine w_bq ?_) | (with_reducible refine w_B ?_) | (with_reducible refine w_test ?_) | (with_reducible refine w_andV ?_) | (with_reducible refine w_orV ?_) | (with_reducible refine w_notV ?_)
  | (with_reducible refine w_chain ?_) | (with_reducible refine w_rI0 ?_) | (with_reducible refine w_rU ?_) | (with_reducible refine w_ipI ?_)
  | (with_reducible refine w_eqI ?_) | (with_reducible refine w_neI ?_) | (with_reducible refine w_eqS ?_) | (with_reducible refine w_neS ?_) | (with_reducible refine w_eqB ?_) | (with_reducible refine w_neB ?_) | (with_reducible refine w_isNr ?_) | (with_reducible refine w_isNn ?_)
  | (with_reducible refine w_sl ?_) | (with_reducible refine w_noPart ?_) | (with_reducible refine w_part ?_) | (with_reducible refine w_pq ?_) | (with_reducible refine w_revL ?_) | (with_reducible refine w_revS ?_)
  | (with_reducible refine w_cb ?_) | (with_reducible refine w_min2 ?_) | (with_reducible refine w_max2 ?_) | (with_reducible refine w_intB ?_)
  | (with_reducible refine w_fn ?_) | (with_reducible refine w_me ?_) | (with_reducible refine w_pr ?_) | (with_reducible refine w_mk ?_) | (with_reducible refine w_fld ?_)
  | (with_reducible refine w_isi_ii ?_) | (with_reducible refine w_isi_ib ?_) | (with_reducible refine w_isi_ss ?_)
  | ((with_reducible refine' w_isi_ll ?wh ?_); (case wh => walk_at "lk"))
  | ((with_reducible refine' w_isi_own ?wh ?wq); (case wh => walk_at "isx"))
  | ((with_reducible refine' w_lenL ?wh ?_); (case wh => walk_at "lk")) | ((with_reducible refine' w_ixL ?wh ?wi ?_); (case wh => walk_at "lk"); (case wi => first | assumption | exact rfl)) | ((with_reducible refine' w_ixT ?wh ?wi ?_); (case wh => walk_at "lk"); (case wi => first | assumption | exact rfl))
  | ((with_reducible refine' w_slL ?wh ?_); (case wh => walk_at "lk")) | ((with_reducible refine' w_rvq ?wh ?_); (case wh => walk_at "lk")) | ((with_reducible refine' w_listO ?wh ?_); (case wh => walk_at "lk")) | ((with_reducible refine' w_starL ?wh ?_); (case wh => walk_at "lk"))
  | ((with_reducible refine' w_fq ?wh ?wc ?wn ?wl ?_); (case wh => walk_at "lk"); (case wc => walk_at "sd"); (case wn => walk_at "sd"); (case wl => exact rfl))
  | ((with_reducible refine' w_sum ?wh ?_); (case wh => walk_at "lk"))
  | ((with_reducible refine' w_all ?wh ?_); (case wh => walk_at "lk"))
  | (with_reducible refine w_forL ?_) | ((with_reducible refine' w_forLq ?wh ?_); (case wh => walk_at "lk")) | (with_reducible refine w_forS ?_) | (with_reducible refine w_forSq ?_) | (with_reducible refine w_forR1 ?_) | ((with_reducible refine' w_forR1q ?wh ?_); (case wh => omega)) | (with_reducible refine w_forR2 ?_) | ((with_reducible refine' w_forR2q ?wh ?_); (case wh => omega)) | (with_reducible refine w_forE ?_) | ((with_reducible refine' w_forEq ?wh ?_); (case wh => walk_at "lk"))
  | (with_reducible refine w_lcL ?_) | ((with_reducible refine' w_lcLq ?wh ?_); (case wh => walk_at "lk")) | (with_reducible refine w_lcS ?_) | (with_reducible refine w_lcSq ?_) | (with_reducible refine w_lcR2 ?_) | ((with_reducible refine' w_lcR2q ?wh ?_); (case wh => omega))
  | (with_reducible refine w_bm ?_) | ((with_reducible refine' w_bmq ?wh ?_); (case wh => walk_at "lk")) | (with_reducible refine w_bm0 ?_) | ((with_reducible refine' w_bm0q ?wh ?_); (case wh => walk_at "lk"))
  | ((with_reducible refine' w_getL ?wh ?wi ?_); (case wh => walk_at "lk"); (case wi => first | assumption | exact rfl)) | (with_reducible refine w_gSub ?_) | (with_reducible refine w_augS ?_)
  | ((with_reducible refine' w_gTup ?wh ?wl ?_); (case wh => walk_at "lk"); (case wl => exact rfl)) | (with_reducible refine w_gCons ?_) | (with_reducible refine w_gNil ?_)
  | (with_reducible refine w_parT ?_) | (with_reducible refine w_parq ?_) | (with_reducible refine w_par3T ?_) | (with_reducible refine w_par3q ?_) | (with_reducible refine w_sfld ?_) | (with_reducible refine w_ob ?_) | (with_reducible refine w_obq ?_)
  | ((with_reducible refine' w_sfq ?wh ?wc ?wn ?wl ?wq); (case wh => walk_at "lk"); (case wc => walk_at "sd"); (case wn => walk_at "sd"); (case wl => exact Nat.le_of_ble_eq_true rfl))
  | ((with_reducible refine' w_rI ?wh ?wq); (case wh => first | decide | exact ⟨by decide, by decide⟩)) | (with_reducible refine w_pairsC ?_) | (with_reducible refine w_pairsN ?_) | ((with_reducible refine' w_cat ?wh ?wk ?wl ?wq); (case wh => walk_at "lk"); (case wk => walk_at "lk"); (case wl => walk_at "sz"))
  | ((with_reducible refine' w_mqRow ?wh ?wl ?wk ?wq); (case wh => walk_at "rw"); (case wl => exact rfl); (case wk => exact rfl))
  | ((with_reducible refine' w_mq ?wh ?wl ?wq); (case wh => walk_at "lk"); (case wl => exact rfl))
  | ((with_reducible refine' w_wipe ?wh ?wq); (case wh => exact rfl)) | (with_reducible refine w_yesT ?_)
  | (with_reducible refine w_isNumber ?_) | (with_reducible refine w_isCount ?_) | (with_reducible refine w_isColour ?_) | (with_reducible refine w_checkGame ?_) | (with_reducible refine w_checkGoal ?_) | (with_reducible refine w_checkWords ?_)
  | (with_reducible refine iteT ?_) | (with_reducible refine iteF ?_) | ((with_reducible refine' w_yes ?wh ?_); (case wh => exact rfl)) | ((with_reducible refine' w_no ?wh ?_); (case wh => exact rfl)))
local macro_rules | `(tactic| walk_at "sz") => `(tactic| first | (refine sz_le ?_; first | assumption | (simp only [List.length_map, List.length_append, List.length_cons, List.length_nil]; omega) | omega) | (refine sz_lt ?_; first | assumption | (simp only [List.length_map, List.length_append, List.length_cons, List.length_nil]; omega) | omega))
local macro_rules | `(tactic| walk_at "go") => `(tactic| repeat (walk_at "w"))
local macro_rules | `(tactic| walk_at "bt") => `(tactic| first | exact rfl | assumption | (simp [*]; done) | (simp; omega) | (simp [*]; omega))
local macro_rules | `(tactic| walk_at "yes") => `(tactic| ((with_reducible refine' w_yes ?wh ?wq); (case wh => walk_at "bt"); walk_at "go"))
local macro_rules | `(tactic| walk_at "no") => `(tactic| ((with_reducible refine' w_no ?wh ?wq); (case wh => walk_at "bt"); walk_at "go"))
local macro_rules | `(tactic| walk_at "st") => `(tactic| ((try dsimp only [L2.cxOf, L2.Cx.nox, L2.Cx.wish]); walk_at "go"))
local macro_rules | `(tactic| walk_at "rw") => `(tactic| first | assumption | ((with_reducible refine' IsRow.rw ?wk); (case wk => walk_at "rw")) | ((with_reducible refine' IsRw.ex (by assumption) ?wk); (case wk => walk_at "rw")) | ((with_reducible refine' IsRow.ex (by assumption) ?wk); (case wk => walk_at "rw")))
local macro_rules | `(tactic| walk_at "ro") => `(tactic| first | assumption | ((with_reducible refine' IsRow.ex (by assumption) ?wk); (case wk => walk_at "ro")))
local macro_rules | `(tactic| walk_at "fl") => `(tactic| first | assumption | ((with_reducible refine' IsFlip.ex (by assumption) ?wk); (case wk => walk_at "fl")))
local macro_rules | `(tactic| walk_at "w") => `(tactic| first
  | ((with_reducible refine' w_first ?wh ?wq); (case wh => walk_at "rw")) | ((with_reducible refine' w_runs ?wh ?wq); (case wh => walk_at "rw")) | ((with_reducible refine' w_length ?wh ?wq); (case wh => walk_at "rw")) | ((with_reducible refine' w_lengths ?wh ?wq); (case wh => walk_at "rw")))
local macro_rules | `(tactic| walk_at "w") => `(tactic| first
  | ((with_reducible refine' w_start ?wh ?wq); (case wh => walk_at "fl")) | ((with_reducible refine' w_end ?wh ?wq); (case wh => walk_at "fl")))
local macro_rules | `(tactic| walk_at "w") => `(tactic| first | (with_reducible refine w_dget ?_))
/-- a stream -/
def IsStm (H : Hp) (s : Addr) : Prop := ∃ x y : Int, H s = some (.lst [.int x, .int y]) ∧ 0 ≤ x ∧ 0 ≤ y ∧ y < 2147483647
def spStream (K : PySem.W.Frag) : Sp := fun vs H Q _ => ∃ (a : Addr) (ns : List Int) (k : Int), vs = [.ref a, .int k] ∧ SqL K H a (ns.map V.int) ∧ 0 ≤ k ∧ k ≤ 10 ∧ ∀ p H', Ex H H' → H p = none → IsStm H' p → Q (.ref p) H'
theorem sc_law_stream : FnScope ["_law_script", "_law_k", "_law_cell", "_law_size", "_law_mixed"] ["_law_script", "_law_k"] (defScope (top 48)) := ⟨rfl, rfl, rfl, by decide +kernel, rfl, by decide +kernel, by decide +kernel⟩
theorem ok_law_stream {P : Program} {w : World} {K : PySem.W.Frag} {mg : Str → Option Value} {base : Heap} (T : Tx P K mg) : Ok P w K mg base 1 (He.ga K "_law_stream") (spStream K) := by
  refine ok_mk T.d_law_stream sc_law_stream (fun vs H Q E h => ?len) (fun _ _ _ _ _ _ us hl => match us, hl with | [_, _], _ => rfl) (fun cdv A outer s H vs Q E hr h => ⟨_, (pss_cons (ps_set (i := 2) sc_law_stream.nd rfl (.inl rfl) pe_int) (pss_cons (ps_if (pt_cmpR op_lt (pv 1) (pe_callB cq_lenQ (by rfl) T.z_len (by decide +kernel) (pa_cons (pv 0) pa_nil)) (nomark _)) (pss_one (ps_set (i := 2) sc_law_stream.nd rfl (.inl rfl) (pe_ix ix_list (pv 0) (pv 1) (fun _ _ => rfl)))) pss_nil) (pss_cons (ps_set (i := 3) sc_law_stream.nd rfl (.inl rfl) (pe_callB (cq_max2 rfl) (by rfl) T.z_max (by decide +kernel) (pa_cons (pv 2) (pa_cons (pe_op op_sub (pe_un un_neg pe_int) (pv 2)) pa_nil)))) (pss_cons (ps_set (i := 4) sc_law_stream.nd rfl (.inl rfl) (pe_op op_modN (pe_op op_mul (pe_op op_add (pe_op op_add (pe_op op_add (pe_op op_modN (pv 3) pe_int) (pe_op op_mul (pe_op op_mul pe_int (pv 1)) (pv 1))) (pe_op op_mul pe_int (pv 1))) pe_int) pe_int) pe_int)) (pss_one (ps_ret (pe_lst (pa_cons (pe_op op_mul (pv 3) (pe_callTy cq_int1 (by rfl) T.z_int (by decide +kernel) (pa_cons (pe_cmpR op_ge (pv 3) (pe_op op_pow pe_int pe_int) (nomark _)) pa_nil))) (pa_cons (pv 4) pa_nil))))))))), ?body⟩)
  case len => obtain ⟨a, ns, k, rfl, _⟩ := h; rfl
  case body =>
    obtain ⟨a, ns, k, rfl, ha, k0, k1, q⟩ := h
    walk_at "st"
    have fm0 : ∀ (z m : Int), 0 < m → 0 ≤ z.fmod m ∧ z.fmod m < m := fun z m hm => ⟨Int.fmod_nonneg_of_pos z hm, Int.fmod_lt_of_pos z hm⟩
    have b01 : ∀ p : Bool, -(2 ^ 64) < (if p = true then (1 : Int) else 0) ∧ (if p = true then (1 : Int) else 0) < 2 ^ 64 ∧ 0 ≤ (if p = true then (1 : Int) else 0) := fun p => by cases p <;> decide
    refine w_ite (fun e => ?_) (fun e => ?_)
    · have hk : k < ns.length := by
        have := of_decide_eq_true e
        rw [List.length_map] at this
        exact this
      obtain ⟨kn, rfl⟩ := Int.eq_ofNat_of_zero_le k0
      have hkn : kn < ns.length := by omega
      walk_at "go"
      refine w_ixL (K := K) (v := .int ns[kn]) ha (at_nat (j := kn) (by rw [List.getElem?_map, List.getElem?_eq_getElem hkn]; rfl) rfl) ?_
      generalize ns[kn] = cell
      walk_at "go"
      refine w_rI (.inl ⟨by omega, by omega⟩) ?_
      walk_at "go"
      refine w_rI (.inr ⟨by omega, by omega⟩) ?_
      walk_at "go"
      refine w_rI (.inr ⟨by omega, by omega⟩) ?_
      walk_at "go"
      refine w_rI (.inr ⟨by decide, by decide⟩) ?_
      walk_at "go"
      refine w_rI (.inr ?_) ?_
      · exact ⟨(b01 _).1, (b01 _).2.1⟩
      walk_at "go"
      refine w_newA (by show (2 : Nat) ≤ sizeLine; decide) fun p H2 e2 n2 h2 => ?_
      refine q p H2 e2 n2 ⟨_, _, h2, ?_, (fm0 _ _ (by decide)).1, (fm0 _ _ (by decide)).2⟩
      apply Int.mul_nonneg
      · split <;> omega
      · exact (b01 _).2.2
    · walk_at "go"
      refine w_rI (.inl ⟨by omega, by omega⟩) ?_
      walk_at "go"
      refine w_rI (.inr ⟨by omega, by omega⟩) ?_
      walk_at "go"
      refine w_rI (.inr ⟨by omega, by omega⟩) ?_
      walk_at "go"
      refine w_rI (.inr ⟨by decide, by decide⟩) ?_
      walk_at "go"
      refine w_rI (.inr ?_) ?_
      · exact ⟨(b01 _).1, (b01 _).2.1⟩
      walk_at "go"
      refine w_newA (by show (2 : Nat) ≤ sizeLine; decide) fun p H2 e2 n2 h2 => ?_
      refine q p H2 e2 n2 ⟨_, _, h2, ?_, (fm0 _ _ (by decide)).1, (fm0 _ _ (by decide)).2⟩
      apply Int.mul_nonneg
      · split <;> omega
      · exact (b01 _).2.2
def spDraw (K : PySem.W.Frag) : Sp := fun vs H Q _ => ∃ (s : Addr) (c : Int), vs = [.ref s, .int c] ∧ IsStm H s ∧ 1 ≤ c ∧ c ≤ 1000 ∧ ∀ (r : Nat) H', Mu s H H' → IsStm H' s → (r : Int) < c → Q (.int r) H'
theorem sc_law_draw : FnScope ["_law_stream_here", "_law_count", "_law_result"] ["_law_stream_here", "_law_count"] (defScope (top 49)) := ⟨rfl, rfl, rfl, by decide +kernel, rfl, by decide +kernel, by decide +kernel⟩
theorem ok_law_draw {P : Program} {w : World} {K : PySem.W.Frag} {mg : Str → Option Value} {base : Heap} (T : Tx P K mg) : Ok P w K mg base 1 (He.ga K "_law_draw") (spDraw K) := by
  refine ok_mk T.d_law_draw sc_law_draw (fun vs H Q E h => ?len) (fun _ _ _ _ _ _ us hl => match us, hl with | [_, _], _ => rfl) (fun cdv A outer s H vs Q E hr h => ⟨_, (pss_cons (ps_if (pt_cmpR op_gt (pe_ix ix_list (pv 0) pe_int (fun _ _ => rfl)) pe_int (nomark _)) (pss_cons (ps_set (i := 2) sc_law_draw.nd rfl (.inl rfl) (pe_op op_modN (pe_ix ix_list (pv 0) pe_int (fun _ _ => rfl)) (pv 1))) (pss_cons (ps_asg (pe_op op_fdivN (pe_ix ix_list (pv 0) pe_int (fun _ _ => rfl)) (pv 1)) (pg_sub (pv 0) pe_int set_list)) (pss_one (ps_ret (pv 2))))) pss_nil) (pss_cons (ps_asg (pe_op op_modN (pe_op op_add (pe_op op_mul (pe_ix ix_list (pv 0) pe_int (fun _ _ => rfl)) pe_int) pe_int) pe_int) (pg_sub (pv 0) pe_int set_list)) (pss_one (ps_ret (pe_op op_modN (pe_op op_fdivN (pe_op op_modN (pe_op op_mul (pe_ix ix_list (pv 0) pe_int (fun _ _ => rfl)) (pe_ix ix_list (pv 0) pe_int (fun _ _ => rfl))) pe_int) pe_int) (pv 1)))))), ?body⟩)
  case len => obtain ⟨s, c, rfl, _⟩ := h; rfl
  case body =>
    obtain ⟨s', c, rfl, ⟨x, y, hs, x0, y0, y1⟩, c0, c1, q⟩ := h
    have fm0 : ∀ (z m : Int), 0 < m → 0 ≤ z.fmod m ∧ z.fmod m < m := fun z m hm => ⟨Int.fmod_nonneg_of_pos z hm, Int.fmod_lt_of_pos z hm⟩
    have fin : ∀ (z : Int) H', Mu s' H H' → IsStm H' s' → Q (.int (z.fmod c)) H' := fun z H' m h => by
      obtain ⟨f1, f2⟩ := fm0 z c (by omega)
      obtain ⟨r, hr⟩ := Int.eq_ofNat_of_zero_le f1
      rw [hr]
      exact q r H' m h (by omega)
    walk_at "st"
    refine w_ite (fun e => ?_) (fun e => ?_)
    · walk_at "go"
      refine w_rI (by omega) ?_
      walk_at "go"
      refine w_rI ⟨by omega, by omega⟩ ?_
      walk_at "go"
      refine w_setL hs (k := 0) rfl fun H2 m2 h2 => ?_
      walk_at "go"
      refine fin x H2 m2 ⟨_, _, h2, ?_, y0, y1⟩
      rw [Int.fdiv_eq_ediv_of_nonneg _ (by omega)]
      exact Int.ediv_nonneg x0 (by omega)
    · walk_at "go"
      refine w_rI (.inl ⟨by omega, by omega⟩) ?_
      walk_at "go"
      refine w_setL hs (k := 1) rfl fun H2 m2 h2 => ?_
      have h3 : H2 s' = some (.lst [.int x, .int ((y * 69621 + 7).fmod 2147483647)]) := h2
      obtain ⟨g1, g2⟩ := fm0 (y * 69621 + 7) 2147483647 (by decide)
      generalize (y * 69621 + 7).fmod 2147483647 = y2 at *
      walk_at "go"
      refine w_rI (.inl ⟨by omega, by omega⟩) ?_
      walk_at "go"
      refine w_rI (by omega) ?_
      exact fin _ H2 m2 ⟨_, _, h3, x0, g1, g2⟩
end Tcf

set_option Elab.async false
set_option linter.all false
set_option maxRecDepth 100000
set_option maxHeartbeats 4000000
/-! RU7: s[::-1] of any short text, a temporary one as well. -/
namespace Tcf
open PySem PySem.Spec PyProof.Rows L2
section
variable {X : Cx}
theorem pe_revT {e : Expr} {te : TE} {k : Nat} {p1 p2 p3 pos : Pos} (he : PE X e te) :
    PE X (.Subscript e (.Slice none none (some (.UnaryOp .USub (.Constant (.int 1) k p1) p2)) p3) pos) (tRevS te) := by
  refine ⟨fun pins s σ H Q I h => ?_⟩
  refine PyProof.Rows.Subscript_ (thn (he.run pins s σ H _ I h) fun v s1 ⟨x, H1, I1, r1, q1⟩ => ?_)
  obtain ⟨l, rfl, hl, q⟩ := q1
  obtain ⟨t, rfl⟩ := r1
  have hst : PO X (some (.UnaryOp .USub (.Constant (.int 1) k p1) p2)) (tPart (tUn (rU fun i => .int (-i)) (tC (.int 1)))) := po_some (pe_un un_neg pe_int)
  refine wpAny_Slice (thn (po_none.run pins s1 σ H1 (fun o H2 => o = none ∧ H2 = H1) I1 ⟨rfl, rfl⟩) fun vl s2 ⟨lo, H2, I2, pl, el, e2⟩ => ?_)
  subst el e2
  refine thn (po_none.run pins s2 σ H2 (fun o H3 => o = none ∧ H3 = H2) I2 ⟨rfl, rfl⟩) fun vu s3 ⟨u, H3, I3, pu, eu, e3⟩ => ?_
  subst eu e3
  refine thn (hst.run pins s3 σ H3 (fun o H4 => o = some (-1) ∧ H4 = H3) I3 ⟨1, rfl, -1, rfl, rfl, rfl⟩) fun vs s4 ⟨o, H4, I4, ps, eo, e4⟩ => ?_
  subst eo e4
  have I5 : Inv X pins σ H4 { s4 with heap := s4.heap.push { cls := .type "slice", data := .fields #[vl, vu, vs] } } := I4.kept (t' := s4.toks) fun b ob q => Heap.get?_push_of_some _ q
  obtain ⟨l0, rfl, el⟩ := IsPart.raw pl
  obtain ⟨u0, rfl, eu⟩ := IsPart.raw pu
  obtain ⟨w0, rfl, ew⟩ := IsPart.raw ps
  have el' : l0 = none := by cases l0 with | none => rfl | some _ => cases el
  have eu' : u0 = none := by cases u0 with | none => rfl | some _ => cases eu
  subst el' eu'
  obtain ⟨p0, rfl⟩ : ∃ p0, w0 = some p0 := by cases w0 with | none => cases ew | some p0 => exact ⟨p0, rfl⟩
  have ew' : p0.1 = -1 := Option.some.inj (show some p0.1 = some (-1 : Int) from ew)
  show wpAny (model X.prog X.w) X.A (subscriptTail e (.Slice none none (some (.UnaryOp .USub (.Constant (.int 1) k p1) p2)) p3) (.str (S l) t) (.ref s4.heap.objs.size)) (EP X pins σ Q) X.xe _
  refine PyProof.Rows.tail_any (ops := [.str (S l) t, .ref s4.heap.objs.size]) (typeIs_str _ _ _) F.slot_str_getitem.lookup ?_ (by with_unfolding_all rfl)
  refine wpAny_getItem_str_slice (l := none) (u := none) (st := some p0) ⟨_, Heap.get?_push_size _ rfl, rfl, rfl⟩ (by show (p0.1 == 0) = false; rw [ew']; decide) ?_
  have hn : (S l).length = l.length := by simp [Str.length]
  have e : sliceMade (S l) t none none (some p0) = .str (S l.reverse) := by
    unfold sliceMade slicePicked
    show (if (p0.1 == 1 && _) = true then _ else _) = _
    rw [ew', if_neg (by simp)]
    show Made.str ⟨((Builtin.Str.strSliceIndices none none p0.1 (S l).length).filterMap (l.toArray[·]?)).toArray⟩ = _
    rw [ew', hn, back_idx _ hl, pick_back l hl]
  rw [e]
  exact ⟨by rw [show (S l.reverse).length = l.length by simp [Str.length], sizeLine_eq]; omega, ⟨.str (S l.reverse), H4, I5.tok _, ⟨_, rfl⟩, q⟩⟩
end
end Tcf

set_option Elab.async false
set_option linter.all false
set_option maxRecDepth 100000
set_option maxHeartbeats 4000000
/-! EB: the law's texts, turns, places (printed from EB.tmpl by gen_der.py). -/
namespace Tcf
open PySem PySem.Spec PyProof.Rows L2
open Evl (Ex)
set_option hygiene false in
local macro_rules | `(tactic| walk_at "lkT") => `(tactic| first | (with_reducible exact T.l_GAMES _) | (with_reducible exact T.l_GOALS _))
set_option hygiene false in
local macro_rules | `(tactic| walk_at "isx") => `(tactic| first | (with_reducible exact T.is_Row (by walk_at "lk")) | (with_reducible exact T.is_Flip (by walk_at "lk")) | (with_reducible exact T.is_Table (by walk_at "lk")))
local macro_rules | `(tactic| walk_at "lk") => `(tactic| first
  | assumption
  | walk_at "lkT"
  | ((with_reducible refine' ex_at (by assumption) ?wk); (case wk => walk_at "lk"))
  | ((with_reducible refine' sl_of ?wk); (case wk => walk_at "lk"))
  | ((with_reducible refine' st_of ?wk); (case wk => walk_at "lk"))
  | ((with_reducible refine' ex_l (by assumption) ?wk); (case wk => walk_at "lk"))
  | ((with_reducible refine' ex_t (by assumption) ?wk); (case wk => walk_at "lk"))
  | ((with_reducible refine' mu_at (by assumption) ?wk ?wn); (case wk => walk_at "lk"); (case wn => assumption)))
set_option hygiene false in
local macro_rules | `(tactic| walk_at "sd") => `(tactic| first
  | exact rfl | assumption | (with_reducible exact T.c_Row) | (with_reducible exact T.c_Flip) | (with_reducible exact T.c_Table) | (with_reducible exact T.c_Trial)
  | (with_reducible exact T.n_Row_colour) | (with_reducible exact T.n_Row_sizes) | (with_reducible exact T.n_Flip_begin) | (with_reducible exact T.n_Flip_finish) | (with_reducible exact T.n_Trial_home) | (with_reducible exact T.n_Trial_kept)
  | (with_reducible exact T.n_Table_beginning) | (with_reducible exact T.n_Table_words) | (with_reducible exact T.n_Table_state))
local macro_rules | `(tactic| walk_at "w") => `(tactic| first
  | (with_reducible refine w_seq ?_) | (with_reducible refine w_asg ?_) | (with_reducible refine w_gName ?_) | (with_reducible refine w_ret ?_) | (with_reducible refine w_ifS ?_) | (with_reducible refine w_drop ?_) | (with_reducible refine w_next ?_)
  | ((with_reducible refine' w_aug ?wh ?_); (case wh => exact rfl)) | (with_reducible refine w_match ?_) | (with_reducible refine w_case ?_)
  | ((with_reducible refine' w_var ?wh ?_); (case wh => exact rfl))
  | (with_reducible refine w_c ?_) | (with_reducible refine w_op ?_) | (with_reducible refine w_un ?_) | (with_reducible refine w_nil ?_) | (with_reducible refine w_cons ?_) | (with_reducible refine w_star ?_) | (with_reducible refine w_tup ?_) | (with_reducible refine w_lst ?_)
  | (with_reducible refine w_if ?_) | (with_reducible refine w_and ?_) | (with_reducible refine w_or ?_) | (with_reducible refine w_not ?_) | (with_reducible refine w_bq ?_) | (with_reducible refine w_B ?_) | (with_reducible refine w_test ?_) | (with_reducible refine w_andV ?_) | (with_reducible refine w_orV ?_) | (with_reducible refine w_notV ?_)
  | (with_reducible refine w_chain ?_) | (with_reducible refine w_rI0 ?_) | (with_reducible refine w_rU ?_) | (with_reducible refine w_ipI ?_)
  | (with_reducible refine w_eqI ?_) | (with_reducible refine w_neI ?_) | (with_reducible refine w_eqS ?_) | (with_reducible refine w_neS ?_) | (with_reducible refine w_eqB ?_) | (with_reducible refine w_neB ?_) | (with_reducible refine w_isNr ?_) | (with_reducible refine w_isNn ?_)
  | (with_reducible refine w_sl ?_) | (with_reducible refine w_noPart ?_) | (with_reducible refine w_part ?_) | (with_reducible refine w_pq ?_) | (with_reducible refine w_revL ?_) | (with_reducible refine w_revS ?_)
  | (with_reducible refine w_cb ?_) | (with_reducible refine w_min2 ?_) | (with_reducible refine w_max2 ?_) | (with_reducible refine w_intB ?_)
  | (with_reducible refine w_fn ?_) | (with_reducible refine w_me ?_) | (with_reducible refine w_pr ?_) | (with_reducible refine w_mk ?_) | (with_reducible refine w_fld ?_)
  | (with_reducible refine w_isi_ii ?_) | (with_reducible refine w_isi_ib ?_) | (with_reducible refine w_isi_ss ?_)
  | ((with_reducible refine' w_isi_ll ?wh ?_); (case wh => walk_at "lk"))
  | ((with_reducible refine' w_isi_own ?wh ?wq); (case wh => walk_at "isx"))
  | ((with_reducible refine' w_lenL ?wh ?_); (case wh => walk_at "lk")) | ((with_reducible refine' w_ixL ?wh ?wi ?_); (case wh => walk_at "lk"); (case wi => first | assumption | exact rfl)) | ((with_reducible refine' w_ixT ?wh ?wi ?_); (case wh => walk_at "lk"); (case wi => first | assumption | exact rfl))
  | ((with_reducible refine' w_slL ?wh ?_); (case wh => walk_at "lk")) | ((with_reducible refine' w_rvq ?wh ?_); (case wh => walk_at "lk")) | ((with_reducible refine' w_listO ?wh ?_); (case wh => walk_at "lk")) | ((with_reducible refine' w_starL ?wh ?_); (case wh => walk_at "lk"))
  | ((with_reducible refine' w_fq ?wh ?wc ?wn ?wl ?_); (case wh => walk_at "lk"); (case wc => walk_at "sd"); (case wn => walk_at "sd"); (case wl => exact rfl))
  | ((with_reducible refine' w_sum ?wh ?_); (case wh => walk_at "lk"))
  | ((with_reducible refine' w_all ?wh ?_); (case wh => walk_at "lk"))
  | (with_reducible refine w_forL ?_) | ((with_reducible refine' w_forLq ?wh ?_); (case wh => walk_at "lk")) | (with_reducible refine w_forS ?_) | (with_reducible refine w_forSq ?_) | (with_reducible refine w_forR1 ?_) | ((with_reducible refine' w_forR1q ?wh ?_); (case wh => omega)) | (with_reducible refine w_forR2 ?_) | ((with_reducible refine' w_forR2q ?wh ?_); (case wh => omega)) | (with_reducible refine w_forE ?_) | ((with_reducible refine' w_forEq ?wh ?_); (case wh => walk_at "lk"))
  | (with_reducible refine w_lcL ?_) | ((with_reducible refine' w_lcLq ?wh ?_); (case wh => walk_at "lk")) | (with_reducible refine w_lcS ?_) | (with_reducible refine w_lcSq ?_) | (with_reducible refine w_lcR2 ?_) | ((with_reducible refine' w_lcR2q ?wh ?_); (case wh => omega))
  | (with_reducible refine w_bm ?_) | ((with_reducible refine' w_bmq ?wh ?_); (case wh => walk_at "lk")) | (with_reducible refine w_bm0 ?_) | ((with_reducible refine' w_bm0q ?wh ?_); (case wh => walk_at "lk"))
  | ((with_reducible refine' w_getL ?wh ?wi ?_); (case wh => walk_at "lk"); (case wi => first | assumption | exact rfl)) | (with_reducible refine w_gSub ?_) | (with_reducible refine w_augS ?_)
  | ((with_reducible refine' w_gTup ?wh ?wl ?_); (case wh => walk_at "lk"); (case wl => exact rfl)) | (with_reducible refine w_gCons ?_) | (with_reducible refine w_gNil ?_)
  | (with_reducible refine w_parT ?_) | (with_reducible refine w_parq ?_) | (with_reducible refine w_par3T ?_) | (with_reducible refine w_par3q ?_) | (with_reducible refine w_sfld ?_) | (with_reducible refine w_ob ?_) | (with_reducible refine w_obq ?_)
  | ((with_reducible refine' w_sfq ?wh ?wc ?wn ?wl ?wq); (case wh => walk_at "lk"); (case wc => walk_at "sd"); (case wn => walk_at "sd"); (case wl => exact Nat.le_of_ble_eq_true rfl))
  | ((with_reducible refine' w_rI ?wh ?wq); (case wh => first | decide | exact ⟨by decide, by decide⟩)) | (with_reducible refine w_pairsC ?_) | (with_reducible refine w_pairsN ?_) | ((with_reducible refine' w_cat ?wh ?wk ?wl ?wq); (case wh => walk_at "lk"); (case wk => walk_at "lk"); (case wl => walk_at "sz"))
  | ((with_reducible refine' w_mqRow ?wh ?wl ?wk ?wq); (case wh => walk_at "rw"); (case wl => exact rfl); (case wk => exact rfl))
  | ((with_reducible refine' w_mq ?wh ?wl ?wq); (case wh => walk_at "lk"); (case wl => exact rfl))
  | ((with_reducible refine' w_wipe ?wh ?wq); (case wh => exact rfl)) | (with_reducible refine w_yesT ?_)
  | (with_reducible refine w_isNumber ?_) | (with_reducible refine w_isCount ?_) | (with_reducible refine w_isColour ?_) | (with_reducible refine w_checkGame ?_) | (with_reducible refine w_checkGoal ?_) | (with_reducible refine w_checkWords ?_)
  | (with_reducible refine iteT ?_) | (with_reducible refine iteF ?_) | ((with_reducible refine' w_yes ?wh ?_); (case wh => exact rfl)) | ((with_reducible refine' w_no ?wh ?_); (case wh => exact rfl)))
local macro_rules | `(tactic| walk_at "sz") => `(tactic| first | (refine sz_le ?_; first | assumption | (simp only [List.length_map, List.length_append, List.length_cons, List.length_nil]; omega) | omega) | (refine sz_lt ?_; first | assumption | (simp only [List.length_map, List.length_append, List.length_cons, List.length_nil]; omega) | omega))
local macro_rules | `(tactic| walk_at "go") => `(tactic| repeat (walk_at "w"))
local macro_rules | `(tactic| walk_at "bt") => `(tactic| first | exact rfl | assumption | (simp [*]; done) | (simp; omega) | (simp [*]; omega))
local macro_rules | `(tactic| walk_at "yes") => `(tactic| ((with_reducible refine' w_yes ?wh ?wq); (case wh => walk_at "bt"); walk_at "go"))
local macro_rules | `(tactic| walk_at "no") => `(tactic| ((with_reducible refine' w_no ?wh ?wq); (case wh => walk_at "bt"); walk_at "go"))
local macro_rules | `(tactic| walk_at "st") => `(tactic| ((try dsimp only [L2.cxOf, L2.Cx.nox, L2.Cx.wish]); walk_at "go"))
local macro_rules | `(tactic| walk_at "rw") => `(tactic| first | assumption | ((with_reducible refine' IsRow.rw ?wk); (case wk => walk_at "rw")) | ((with_reducible refine' IsRw.ex (by assumption) ?wk); (case wk => walk_at "rw")) | ((with_reducible refine' IsRow.ex (by assumption) ?wk); (case wk => walk_at "rw")))
local macro_rules | `(tactic| walk_at "ro") => `(tactic| first | assumption | ((with_reducible refine' IsRow.ex (by assumption) ?wk); (case wk => walk_at "ro")))
local macro_rules | `(tactic| walk_at "fl") => `(tactic| first | assumption | ((with_reducible refine' IsFlip.ex (by assumption) ?wk); (case wk => walk_at "fl")))
local macro_rules | `(tactic| walk_at "w") => `(tactic| first
  | ((with_reducible refine' w_first ?wh ?wq); (case wh => walk_at "rw")) | ((with_reducible refine' w_runs ?wh ?wq); (case wh => walk_at "rw")) | ((with_reducible refine' w_length ?wh ?wq); (case wh => walk_at "rw")) | ((with_reducible refine' w_lengths ?wh ?wq); (case wh => walk_at "rw")))
local macro_rules | `(tactic| walk_at "w") => `(tactic| first
  | ((with_reducible refine' w_start ?wh ?wq); (case wh => walk_at "fl")) | ((with_reducible refine' w_end ?wh ?wq); (case wh => walk_at "fl")))
local macro_rules | `(tactic| walk_at "w") => `(tactic| first | (with_reducible refine w_dget ?_))
def sT (w : Wd) : Str := S (tx w)
theorem tx_turn (u : Wd) (a b : Nat) : tx (turnW u a b) = tx (cutW u 0 a) ++ (tx (cutW u a b)).reverse ++ tx (cutW u b u.length) := by
  unfold turnW tx
  simp
theorem str_app (l m : List Nat) : S l ++ S m = S (l ++ m) := by
  show (⟨(S l).cps ++ (S m).cps⟩ : Str) = _
  simp
theorem tx_cut (u : Wd) (a b : Nat) : tx (cutW u a b) = ((tx u).drop a).take (b - a) := by
  unfold cutW tx
  rw [List.map_take, List.map_drop]
def spLTurn : Sp := fun vs H Q _ => ∃ (u : Wd) (a b : Nat), vs = [.str (sT u), .int a, .int b] ∧ u.length ≤ 7 ∧ a ≤ b ∧ b ≤ u.length ∧ Q (.str (sT (turnW u a b))) H
theorem sc_law_turn : FnScope ["_law_word", "_law_start", "_law_end"] ["_law_word", "_law_start", "_law_end"] (defScope (top 51)) := ⟨rfl, rfl, rfl, by decide +kernel, rfl, by decide +kernel, by decide +kernel⟩
theorem ok_law_turn {P : Program} {w : World} {K : PySem.W.Frag} {mg : Str → Option Value} {base : Heap} (T : Tx P K mg) : Ok P w K mg base 1 (He.ga K "_law_turn") (spLTurn) := by
  refine ok_mk T.d_law_turn sc_law_turn (fun vs H Q E h => ?len) (fun _ _ _ _ _ _ us hl => match us, hl with | [_, _, _], _ => rfl) (fun cdv A outer s H vs Q E hr h => ⟨_, (pss_one (ps_ret (pe_op oq_addS (pe_op oq_addS (pe_slice sl_str (pv 0) po_none (po_some (pv 1))) (pe_revT (pe_slice sl_str (pv 0) (po_some (pv 1)) (po_some (pv 2))))) (pe_slice sl_str (pv 0) (po_some (pv 2)) po_none)))), ?body⟩)
  case len => obtain ⟨u, a, b, rfl, _⟩ := h; rfl
  case body =>
    obtain ⟨u, a, b, rfl, zu, hab, hb, q⟩ := h
    have zt : (tx u).length = u.length := by simp [tx]
    have zs : (sT u).length ≤ sizeLine := sz_le (by show (S (tx u)).length ≤ _; rw [tx_len]; omega)
    walk_at "st"
    refine w_slS zs ?_
    rw [show cutS (sT u) none (some (a : Int)) = S ((tx u).take a) from cutS_to _ _ (by omega)]
    walk_at "go"
    refine w_slS zs ?_
    rw [show cutS (sT u) (some (a : Int)) (some (b : Int)) = S (((tx u).drop a).take (b - a)) from cutS_mid _ _ _ (by omega) (by omega)]
    walk_at "go"
    refine w_rsq (by rw [List.length_take, List.length_drop]; omega) ?_
    walk_at "go"
    refine w_addS (sz_le (by simp [Str.length]; omega)) ?_
    rw [str_app]
    walk_at "go"
    refine w_slS zs ?_
    rw [show cutS (sT u) (some (b : Int)) none = S ((tx u).drop b) from cutS_from _ _ (by omega)]
    walk_at "go"
    refine w_addS (sz_le (by simp [Str.length]; omega)) ?_
    rw [str_app]
    have e : (tx u).take a ++ (((tx u).drop a).take (b - a)).reverse ++ (tx u).drop b = tx (turnW u a b) := by
      rw [tx_turn, tx_cut, tx_cut, tx_cut]
      simp
      rw [List.take_of_length_le]
      rw [List.length_drop]
      omega
    rw [e]
    exact q
theorem w_lturn {H : Hp} {Q : VK} {E : XK} {u : Wd} {a b : Nat} (zu : u.length ≤ 7) (h1 : a ≤ b) (h2 : b ≤ u.length) (q : Q (.str (sT (turnW u a b))) H) : spLTurn [.str (sT u), .int a, .int b] H Q E := ⟨u, a, b, rfl, zu, h1, h2, q⟩
theorem sT_snoc (w : Wd) (b : Bool) : sT w ++ S [sg b] = sT (w ++ [b]) := by
  unfold sT
  rw [str_app]
  simp [tx]
def spText (K : PySem.W.Frag) : Sp := fun vs H Q _ => ∃ (s : Addr), vs = [.ref s, .int 7] ∧ IsStm H s ∧ ∀ (w : Wd) H', Mu s H H' → IsStm H' s → w.length ≤ 7 → Q (.str (sT w)) H'
theorem sc_law_text : FnScope ["_law_stream_here", "_law_most", "_law_word", "_law_way", "_law_turn_here", "_law_other"] ["_law_stream_here", "_law_most"] (defScope (top 50)) := ⟨rfl, rfl, rfl, by decide +kernel, rfl, by decide +kernel, by decide +kernel⟩
theorem ok_law_text {P : Program} {w : World} {K : PySem.W.Frag} {mg : Str → Option Value} {base : Heap} (T : Tx P K mg) : Ok P w K mg base 2 (He.ga K "_law_text") (spText K) := by
  refine ok_mk T.d_law_text sc_law_text (fun vs H Q E h => ?len) (fun _ _ _ _ _ _ us hl => match us, hl with | [_, _], _ => rfl) (fun cdv A outer s H vs Q E hr h => ⟨_, (pss_cons (ps_par (i := 2) (j := 3) (by rfl) sc_law_text.nd rfl rfl (by decide) rfl rfl (pa_cons pe_str (pa_cons (pe_fn (ok_law_draw T) hr T.g_law_draw (pa_cons (pv 0) (pa_cons pe_int pa_nil))) pa_nil)) (by rfl)) (pss_cons (ps_for PassesOwn.never rfl (pi_range1 (by rfl) T.z_range (pa_cons (pe_fn (ok_law_draw T) hr T.g_law_draw (pa_cons (pv 0) (pa_cons (pe_op op_add (pv 1) pe_int) pa_nil))) pa_nil)) (pg_name (i := 4) sc_law_text.nd rfl (Or.inl rfl)) (pss_one (ps_if (PW.pt (pw_or (pt_cmpR op_eq (pv 3) pe_int (nomark _)) (pw_or1 (pt_cmpR op_eq (pv 2) pe_str (nomark _))))) (pss_one (ps_set (i := 2) sc_law_text.nd rfl (.inl rfl) (pe_op oq_addS (pv 2) (pe_ix ix_str pe_str (pe_fn (ok_law_draw T) hr T.g_law_draw (pa_cons (pv 0) (pa_cons pe_int pa_nil))) (fun _ _ => rfl))))) (pss_cons (ps_set (i := 5) sc_law_text.nd rfl (.inl rfl) (pe_ix ix_str pe_str (pe_callTy cq_intS (by rfl) T.z_int (by decide +kernel) (pa_cons (pe_ix ix_str (pv 2) (pe_un un_neg pe_int) (fun _ _ => rfl)) pa_nil)) (fun _ _ => rfl))) (pss_one (ps_set (i := 2) sc_law_text.nd rfl (.inl rfl) (pe_op oq_addS (pv 2) (pe_ix ix_list (pe_lst (pa_cons (pe_ix ix_str (pv 2) (pe_un un_neg pe_int) (fun _ _ => rfl)) (pa_cons (pv 5) pa_nil))) (pe_callTy cq_int1 (by rfl) T.z_int (by decide +kernel) (pa_cons (pe_cmpR op_lt (pe_fn (ok_law_draw T) hr T.g_law_draw (pa_cons (pv 0) (pa_cons pe_int pa_nil))) (pe_op op_sub (pe_op op_mul pe_int (pv 3)) pe_int) (nomark _)) pa_nil)) (fun _ _ => rfl))))))))) (pss_one (ps_ret (pv 2))))), ?body⟩)
  case len => obtain ⟨s, rfl, _⟩ := h; rfl
  case body =>
    obtain ⟨s', rfl, hs, q⟩ := h
    walk_at "st"
    refine ⟨s', 3, rfl, hs, by decide, by decide, fun r H1 m1 hs1 hr => ?_⟩
    walk_at "go"
    refine ⟨s', _, rfl, hs1, by decide, by decide, fun n H2 m2 hs2 hn => ?_⟩
    walk_at "go"
    refine w_forW (walk_range (lo := 0) (n := n)) (fun i σ' H' => ∃ (w : Wd) (x1 x2 : Option V), σ' = [some (.ref s'), some (.int 7), some (.str (sT w)), some (.int r), x1, x2] ∧ Mu s' H H' ∧ IsStm H' s' ∧ w.length = i) ?i0 ?iG ?is ?id
    case i0 => exact ⟨[], none, none, rfl, m1.trans m2, hs2, rfl⟩
    case iG => exact fun _ _ _ _ _ => trivial
    case is =>
      rintro i x σ' H' H'' hi ⟨w, x1, x2, rfl, m3, hs3, zw⟩ ⟨rfl, rfl⟩
      have zs : (sT w).length = w.length := tx_len w
      walk_at "go"
      have add01 : ∀ {D : Ends} {σ : L2.St}, (∀ σ2 H2, (∃ (v : Wd), σ2 = σ.set 2 (some (.str (sT v))) ∧ Mu s' H H2 ∧ IsStm H2 s' ∧ v.length = i + 1) → D.nx σ2 H2) → σ[0]? = some (some (.ref s')) → σ[2]? = some (some (.str (sT w))) →
          tAsg (tOp rAddS (tVar 2) (tOp rIxS (tC (V.str "01")) (tFn (spDraw K) E0 (tCons (tVar 0) (tCons (tC (V.int 2)) tNil))))) (gName 2) D σ H'' := fun {D σ} hD h0 h2 => by
        refine w_asg (w_op (w_var h2 (w_op (w_c (w_fn (w_cons (w_var h0 (w_cons (w_c (w_nil ?_))))))))))
        refine ⟨s', _, rfl, hs3, by decide, by decide, fun d H5 m5 hs5 hd => ?_⟩
        have hd2 : d = 0 ∨ d = 1 := by omega
        rcases hd2 with rfl | rfl
        · refine w_ixS (d := sg false) (by decide) rfl (w_addS (sz_le ?_) ?_)
          · show (sT w).length + 1 ≤ 100000
            omega
          · exact w_gName (hD _ _ ⟨w ++ [false], by rw [← sT_snoc], m3.trans m5, hs5, by rw [List.length_append, zw]; rfl⟩)
        · refine w_ixS (d := sg true) (by decide) rfl (w_addS (sz_le ?_) ?_)
          · show (sT w).length + 1 ≤ 100000
            omega
          · exact w_gName (hD _ _ ⟨w ++ [true], by rw [← sT_snoc], m3.trans m5, hs5, by rw [List.length_append, zw]; rfl⟩)
      refine w_ite (fun e => ?_) (fun e => ?_)
      · refine iteT (add01 (fun σ2 H2 hh => ?_) rfl rfl)
        obtain ⟨v, rfl, m5, hs5, zv⟩ := hh
        exact ⟨v, _, _, rfl, m5, hs5, zv⟩
      · by_cases hw : w = []
        · subst hw
          refine w_test (w_op (w_var rfl (w_c (w_eqS (w_bq ?_)))))
          refine iteT (add01 (fun σ2 H2 hh => ?_) rfl rfl)
          obtain ⟨v, rfl, m5, hs5, zv⟩ := hh
          exact ⟨v, _, _, rfl, m5, hs5, zv⟩
        · obtain ⟨v, b, rfl⟩ := snoc_of hw
          have hlast : atI (sT (v ++ [b])).cps.toList (-1) = some (sg b) := by
            have : (sT (v ++ [b])).cps.toList = tx v ++ [sg b] := by simp [sT, tx]
            rw [this]
            exact atI_last _ _
          have hne : ¬ sT (v ++ [b]) = ("" : Str) := fun z => by
            have z2 := congrArg Str.length z
            rw [show (sT (v ++ [b])).length = (v ++ [b]).length from tx_len _] at z2
            simp at z2
            cases z2
          walk_at "go"
          rw [decide_eq_false hne]
          walk_at "go"
          refine w_ixS (d := sg b) (sz_le (by omega)) hlast ?_
          walk_at "go"
          refine w_intS (n := if b then 1 else 0) (by cases b <;> decide +kernel) (by show (1 : Nat) ≤ 640; decide) ?_
          walk_at "go"
          refine w_ixS (d := sg (!b)) (by decide) (by cases b <;> rfl) ?_
          walk_at "go"
          refine w_ixS (d := sg b) (sz_le (by omega)) hlast ?_
          walk_at "go"
          refine w_newA (by show (2 : Nat) ≤ sizeLine; decide) fun p5 H5 e5 n5 h5 => ?_
          walk_at "go"
          have hs5 : IsStm H5 s' := by
            obtain ⟨x, y, h1, h2⟩ := hs3
            exact ⟨x, y, e5 _ _ h1, h2⟩
          have ne5 : p5 ≠ s' := fun z => by
            obtain ⟨x, y, h1, h2⟩ := hs3
            rw [z, h1] at n5
            cases n5
          refine ⟨s', _, rfl, hs5, by decide, by decide, fun d H6 m6 hs6 hd => ?_⟩
          walk_at "go"
          refine w_rI (.inl ⟨by decide, by decide⟩) ?_
          walk_at "go"
          have h6 := mu_at m6 h5 ne5
          have hz : ((v ++ [b]).length : Nat) = i := zw
          have fin : ∀ (c : Bool) {D : Ends} {σ : L2.St}, (∀ σ2 H2, (∃ (v2 : Wd), σ2 = σ.set 2 (some (.str (sT v2))) ∧ Mu s' H H2 ∧ IsStm H2 s' ∧ v2.length = i + 1) → D.nx σ2 H2) →
              rAddS (.str (sT (v ++ [b]))) (.str ⟨#[sg c]⟩) H6 (fun x H1 => gName 2 x σ H1 D.nx) := fun c {D σ} hD => by
            refine w_addS (sz_le ?_) (w_gName (hD _ _ ⟨(v ++ [b]) ++ [c], ?_, (m3.ex e5).trans m6, hs6, ?_⟩))
            · show (sT (v ++ [b])).length + 1 ≤ 100000
              omega
            · rw [← sT_snoc (v ++ [b])]
            · rw [List.length_append, hz]
              rfl
          by_cases hc : (d : Int) < 2 * (r : Int) - 1
          · rw [decide_eq_true hc]
            refine w_ixL (K := K) (sl_of h6) (v := .str ⟨#[sg (!b)]⟩) rfl ?_
            refine fin _ fun σ2 H2 hh => ?_
            obtain ⟨v, rfl, m5, hs5, zv⟩ := hh
            exact ⟨v, _, _, rfl, m5, hs5, zv⟩
          · rw [decide_eq_false hc]
            refine w_ixL (K := K) (sl_of h6) (v := .str ⟨#[sg b]⟩) rfl ?_
            refine fin _ fun σ2 H2 hh => ?_
            obtain ⟨v, rfl, m5, hs5, zv⟩ := hh
            exact ⟨v, _, _, rfl, m5, hs5, zv⟩
    case id =>
      rintro σ' H' ⟨w, x1, x2, rfl, m3, hs3, zw⟩
      walk_at "go"
      exact q w H' m3 hs3 (by omega)
end Tcf

set_option Elab.async false
set_option linter.all false
set_option maxRecDepth 100000
set_option maxHeartbeats 4000000
/-! EC: the law's places, words (printed from EC.tmpl by gen_der.py). -/
namespace Tcf
open PySem PySem.Spec PyProof.Rows L2
open Evl (Ex)
set_option hygiene false in
local macro_rules | `(tactic| walk_at "lkT") => `(tactic| first | (with_reducible exact T.l_GAMES _) | (with_reducible exact T.l_GOALS _))
set_option hygiene false in
local macro_rules | `(tactic| walk_at "isx") => `(tactic| first | (with_reducible exact T.is_Row (by walk_at "lk")) | (with_reducible exact T.is_Flip (by walk_at "lk")) | (with_reducible exact T.is_Table (by walk_at "lk")))
local macro_rules | `(tactic| walk_at "lk") => `(tactic| first
  | assumption
  | walk_at "lkT"
  | ((with_reducible refine' ex_at (by assumption) ?wk); (case wk => walk_at "lk"))
  | ((with_reducible refine' sl_of ?wk); (case wk => walk_at "lk"))
  | ((with_reducible refine' st_of ?wk); (case wk => walk_at "lk"))
  | ((with_reducible refine' ex_l (by assumption) ?wk); (case wk => walk_at "lk"))
  | ((with_reducible refine' ex_t (by assumption) ?wk); (case wk => walk_at "lk"))
  | ((with_reducible refine' mu_at (by assumption) ?wk ?wn); (case wk => walk_at "lk"); (case wn => assumption)))
set_option hygiene false in
local macro_rules | `(tactic| walk_at "sd") => `(tactic| first
  | exact rfl | assumption | (with_reducible exact T.c_Row) | (with_reducible exact T.c_Flip) | (with_reducible exact T.c_Table) | (with_reducible exact T.c_Trial)
  | (with_reducible exact T.n_Row_colour) | (with_reducible exact T.n_Row_sizes) | (with_reducible exact T.n_Flip_begin) | (with_reducible exact T.n_Flip_finish) | (with_reducible exact T.n_Trial_home) | (with_reducible exact T.n_Trial_kept)
  | (with_reducible exact T.n_Table_beginning) | (with_reducible exact T.n_Table_words) | (with_reducible exact T.n_Table_state))
local macro_rules | `(tactic| walk_at "w") => `(tactic| first
  | (with_reducible refine w_seq ?_) | (with_reducible refine w_asg ?_) | (with_reducible refine w_gName ?_) | (with_reducible refine w_ret ?_) | (with_reducible refine w_ifS ?_) | (with_reducible refine w_drop ?_) | (with_reducible refine w_next ?_)
  | ((with_reducible refine' w_aug ?wh ?_); (case wh => exact rfl)) | (with_reducible refine w_match ?_) | (with_reducible refine w_case ?_)
  | ((with_reducible refine' w_var ?wh ?_); (case wh => exact rfl))
  | (with_reducible refine w_c ?_) | (with_reducible refine w_op ?_) | (with_reducible refine w_un ?_) | (with_reducible refine w_nil ?_) | (with_reducible refine w_cons ?_) | (with_reducible refine w_star ?_) | (with_reducible refine w_tup ?_) | (with_reducible refine w_lst ?_)
  | (with_reducible refine w_if ?_) | (with_reducible refine w_and ?_) | (with_reducible refine w_or ?_) | (with_reducible refine w_not ?_) | (with_reducible refine w_bq ?_) | (with_reducible refine w_B ?_) | (with_reducible refine w_test ?_) | (with_reducible refine w_andV ?_) | (with_reducible refine w_orV ?_) | (with_reducible refine w_notV ?_)
  | (with_reducible refine w_chain ?_) | (with_reducible refine w_rI0 ?_) | (with_reducible refine w_rU ?_) | (with_reducible refine w_ipI ?_)
  | (with_reducible refine w_eqI ?_) | (with_reducible refine w_neI ?_) | (with_reducible refine w_eqS ?_) | (with_reducible refine w_neS ?_) | (with_reducible refine w_eqB ?_) | (with_reducible refine w_neB ?_) | (with_reducible refine w_isNr ?_) | (with_reducible refine w_isNn ?_)
  | (with_reducible refine w_sl ?_) | (with_reducible refine w_noPart ?_) | (with_reducible refine w_part ?_) | (with_reducible refine w_pq ?_) | (with_reducible refine w_revL ?_) | (with_reducible refine w_revS ?_)
  | (with_reducible refine w_cb ?_) | (with_reducible refine w_min2 ?_) | (with_reducible refine w_max2 ?_) | (with_reducible refine w_intB ?_)
  | (with_reducible refine w_fn ?_) | (with_reducible refine w_me ?_) | (with_reducible refine w_pr ?_) | (with_reducible refine w_mk ?_) | (with_reducible refine w_fld ?_)
  | (with_reducible refine w_isi_ii ?_) | (with_reducible refine w_isi_ib ?_) | (with_reducible refine w_isi_ss ?_)
  | ((with_reducible refine' w_isi_ll ?wh ?_); (case wh => walk_at "lk"))
  | ((with_reducible refine' w_isi_own ?wh ?wq); (case wh => walk_at "isx"))
  | ((with_reducible refine' w_lenL ?wh ?_); (case wh => walk_at "lk")) | ((with_reducible refine' w_ixL ?wh ?wi ?_); (case wh => walk_at "lk"); (case wi => first | assumption | exact rfl)) | ((with_reducible refine' w_ixT ?wh ?wi ?_); (case wh => walk_at "lk"); (case wi => first | assumption | exact rfl))
  | ((with_reducible refine' w_slL ?wh ?_); (case wh => walk_at "lk")) | ((with_reducible refine' w_rvq ?wh ?_); (case wh => walk_at "lk")) | ((with_reducible refine' w_listO ?wh ?_); (case wh => walk_at "lk")) | ((with_reducible refine' w_starL ?wh ?_); (case wh => walk_at "lk"))
  | ((with_reducible refine' w_fq ?wh ?wc ?wn ?wl ?_); (case wh => walk_at "lk"); (case wc => walk_at "sd"); (case wn => walk_at "sd"); (case wl => exact rfl))
  | ((with_reducible refine' w_sum ?wh ?_); (case wh => walk_at "lk"))
  | ((with_reducible refine' w_all ?wh ?_); (case wh => walk_at "lk"))
  | (with_reducible refine w_forL ?_) | ((with_reducible refine' w_forLq ?wh ?_); (case wh => walk_at "lk")) | (with_reducible refine w_forS ?_) | (with_reducible refine w_forSq ?_) | (with_reducible refine w_forR1 ?_) | ((with_reducible refine' w_forR1q ?wh ?_); (case wh => omega)) | (with_reducible refine w_forR2 ?_) | ((with_reducible refine' w_forR2q ?wh ?_); (case wh => omega)) | (with_reducible refine w_forE ?_) | ((with_reducible refine' w_forEq ?wh ?_); (case wh => walk_at "lk"))
  | (with_reducible refine w_lcL ?_) | ((with_reducible refine' w_lcLq ?wh ?_); (case wh => walk_at "lk")) | (with_reducible refine w_lcS ?_) | (with_reducible refine w_lcSq ?_) | (with_reducible refine w_lcR2 ?_) | ((with_reducible refine' w_lcR2q ?wh ?_); (case wh => omega))
  | (with_reducible refine w_bm ?_) | ((with_reducible refine' w_bmq ?wh ?_); (case wh => walk_at "lk")) | (with_reducible refine w_bm0 ?_) | ((with_reducible refine' w_bm0q ?wh ?_); (case wh => walk_at "lk"))
  | ((with_reducible refine' w_getL ?wh ?wi ?_); (case wh => walk_at "lk"); (case wi => first | assumption | exact rfl)) | (with_reducible refine w_gSub ?_) | (with_reducible refine w_augS ?_)
  | ((with_reducible refine' w_gTup ?wh ?wl ?_); (case wh => walk_at "lk"); (case wl => exact rfl)) | (with_reducible refine w_gCons ?_) | (with_reducible refine w_gNil ?_)
  | (with_reducible refine w_parT ?_) | (with_reducible refine w_parq ?_) | (with_reducible refine w_par3T ?_) | (with_reducible refine w_par3q ?_) | (with_reducible refine w_sfld ?_) | (with_reducible refine w_ob ?_) | (with_reducible refine w_obq ?_)
  | ((with_reducible refine' w_sfq ?wh ?wc ?wn ?wl ?wq); (case wh => walk_at "lk"); (case wc => walk_at "sd"); (case wn => walk_at "sd"); (case wl => exact Nat.le_of_ble_eq_true rfl))
  | ((with_reducible refine' w_rI ?wh ?wq); (case wh => first | decide | exact ⟨by decide, by decide⟩)) | (with_reducible refine w_pairsC ?_) | (with_reducible refine w_pairsN ?_) | ((with_reducible refine' w_cat ?wh ?wk ?wl ?wq); (case wh => walk_at "lk"); (case wk => walk_at "lk"); (case wl => walk_at "sz"))
  | ((with_reducible refine' w_mqRow ?wh ?wl ?wk ?wq); (case wh => walk_at "rw"); (case wl => exact rfl); (case wk => exact rfl))
  | ((with_reducible refine' w_mq ?wh ?wl ?wq); (case wh => walk_at "lk"); (case wl => exact rfl))
  | ((with_reducible refine' w_wipe ?wh ?wq); (case wh => exact rfl)) | (with_reducible refine w_yesT ?_)
  | (with_reducible refine w_isNumber ?_) | (with_reducible refine w_isCount ?_) | (with_reducible refine w_isColour ?_) | (with_reducible refine w_checkGame ?_) | (with_reducible refine w_checkGoal ?_) | (with_reducible refine w_checkWords ?_)
  | (with_reducible refine iteT ?_) | (with_reducible refine iteF ?_) | ((with_reducible refine' w_yes ?wh ?_); (case wh => exact rfl)) | ((with_reducible refine' w_no ?wh ?_); (case wh => exact rfl)))
local macro_rules | `(tactic| walk_at "sz") => `(tactic| first | (refine sz_le ?_; first | assumption | (simp only [List.length_map, List.length_append, List.length_cons, List.length_nil]; omega) | omega) | (refine sz_lt ?_; first | assumption | (simp only [List.length_map, List.length_append, List.length_cons, List.length_nil]; omega) | omega))
local macro_rules | `(tactic| walk_at "go") => `(tactic| repeat (walk_at "w"))
local macro_rules | `(tactic| walk_at "bt") => `(tactic| first | exact rfl | assumption | (simp [*]; done) | (simp; omega) | (simp [*]; omega))
local macro_rules | `(tactic| walk_at "yes") => `(tactic| ((with_reducible refine' w_yes ?wh ?wq); (case wh => walk_at "bt"); walk_at "go"))
local macro_rules | `(tactic| walk_at "no") => `(tactic| ((with_reducible refine' w_no ?wh ?wq); (case wh => walk_at "bt"); walk_at "go"))
local macro_rules | `(tactic| walk_at "st") => `(tactic| ((try dsimp only [L2.cxOf, L2.Cx.nox, L2.Cx.wish]); walk_at "go"))
local macro_rules | `(tactic| walk_at "rw") => `(tactic| first | assumption | ((with_reducible refine' IsRow.rw ?wk); (case wk => walk_at "rw")) | ((with_reducible refine' IsRw.ex (by assumption) ?wk); (case wk => walk_at "rw")) | ((with_reducible refine' IsRow.ex (by assumption) ?wk); (case wk => walk_at "rw")))
local macro_rules | `(tactic| walk_at "ro") => `(tactic| first | assumption | ((with_reducible refine' IsRow.ex (by assumption) ?wk); (case wk => walk_at "ro")))
local macro_rules | `(tactic| walk_at "fl") => `(tactic| first | assumption | ((with_reducible refine' IsFlip.ex (by assumption) ?wk); (case wk => walk_at "fl")))
local macro_rules | `(tactic| walk_at "w") => `(tactic| first
  | ((with_reducible refine' w_first ?wh ?wq); (case wh => walk_at "rw")) | ((with_reducible refine' w_runs ?wh ?wq); (case wh => walk_at "rw")) | ((with_reducible refine' w_length ?wh ?wq); (case wh => walk_at "rw")) | ((with_reducible refine' w_lengths ?wh ?wq); (case wh => walk_at "rw")))
local macro_rules | `(tactic| walk_at "w") => `(tactic| first
  | ((with_reducible refine' w_start ?wh ?wq); (case wh => walk_at "fl")) | ((with_reducible refine' w_end ?wh ?wq); (case wh => walk_at "fl")))
local macro_rules | `(tactic| walk_at "w") => `(tactic| first | (with_reducible refine w_dget ?_))
/-- pairs of numbers at ts -/
def TupsAt (H : Hp) (ts : List Addr) (ps : List Pl) : Prop := Paired (fun t (p : Pl) => H t = some (.tup [.int p.1, .int p.2])) ts ps
theorem TupsAt.ex {H H' : Hp} {ts : List Addr} {ps : List Pl} (e : Ex H H') (h : TupsAt H ts ps) : TupsAt H' ts ps := paired_mono (fun _ _ k => e _ _ k) h
theorem TupsAt.mu {l : Addr} {H H' : Hp} {xs : List V} {ts : List Addr} {ps : List Pl} (m : Mu l H H') (hl : H l = some (.lst xs)) (h : TupsAt H ts ps) : TupsAt H' ts ps := paired_mono (fun _ _ k => mu_at m k (ne_of k hl (by intro z; cases z))) h
theorem TupsAt.snoc {H : Hp} {t : Addr} {p : Pl} {ts : List Addr} {ps : List Pl} (k : TupsAt H ts ps) (h : H t = some (.tup [.int p.1, .int p.2])) : TupsAt H (ts ++ [t]) (ps ++ [p]) := paired_snoc (R := fun t (p : Pl) => H t = some (.tup [.int p.1, .int p.2])) h k
def rowPl (n : Nat) (g : Gm) (a : Nat) : List Pl := ((List.range (n - a)).map fun d => (a, a + 1 + d)).filter fun p => okPl g n p.1 p.2
theorem placesW_eq (n : Nat) (g : Gm) : placesW n g = (List.range n).flatMap (rowPl n g) := rfl
def spPlaces : Sp := fun vs H Q _ => ∃ (n : Nat) (g : Gm), vs = [.int n, .str g.s] ∧ n ≤ 7 ∧ ∀ p ts H', Ex H H' → H p = none → H' p = some (.lst (List.map V.ref ts)) → TupsAt H' ts (placesW n g) → Q (.ref p) H'
theorem sc_law_places : FnScope ["_law_length", "_law_game", "_law_found", "_law_start", "_law_end"] ["_law_length", "_law_game"] (defScope (top 52)) := ⟨rfl, rfl, rfl, by decide +kernel, rfl, by decide +kernel, by decide +kernel⟩
theorem ok_law_places {P : Program} {w : World} {K : PySem.W.Frag} {mg : Str → Option Value} {base : Heap} (T : Tx P K mg) : Ok P w K mg base 1 (He.ga K "_law_places") (spPlaces) := by
  refine ok_mk T.d_law_places sc_law_places (fun vs H Q E h => ?len) (fun _ _ _ _ _ _ us hl => match us, hl with | [_, _], _ => rfl) (fun cdv A outer s H vs Q E hr h => ⟨_, (pss_cons (ps_set (i := 2) sc_law_places.nd rfl (.inl rfl) (pe_lst pa_nil)) (pss_cons (ps_for PassesOwn.never rfl (pi_range1 (by rfl) T.z_range (pa_cons (pv 0) pa_nil)) (pg_name (i := 3) sc_law_places.nd rfl (Or.inl rfl)) (pss_one (ps_for PassesOwn.never rfl (pi_range2 (by rfl) T.z_range (pa_cons (pe_op op_add (pv 3) pe_int) (pa_cons (pe_op op_add (pv 0) pe_int) pa_nil))) (pg_name (i := 4) sc_law_places.nd rfl (Or.inl rfl)) (pss_one (ps_if (PW.pt (pw_or (pt_cmpR op_eq (pv 1) pe_str (nomark _)) (pw_or (pt_cmpR op_eq (pv 3) pe_int (nomark _)) (pw_or1 (PW.pt (pw_and (pt_cmpR op_eq (pv 1) pe_str (nomark _)) (pw_and1 (pt_cmpR op_eq (pv 4) (pv 0) (nomark _))))))))) (pss_one (ps_expr (pe_bm PySem.F.plainAttrs_list PySem.F.slot_list_append PySem.F.type_list_append mt_append (pv 2) (pa_cons (pe_tup (pa_cons (pv 3) (pa_cons (pv 4) pa_nil))) pa_nil)))) pss_nil))))) (pss_one (ps_ret (pv 2))))), ?body⟩)
  case len => obtain ⟨n, g, rfl, _⟩ := h; rfl
  case body =>
    obtain ⟨n, g, rfl, zn, q⟩ := h
    walk_at "st"
    refine w_newA (by show (0 : Nat) ≤ sizeLine; decide) fun L H3 e3 n3 h5 => ?_
    walk_at "go"
    rw [Int.toNat_natCast]
    refine w_forW (walk_range (lo := 0) (n := n)) (fun i σ' H' => ∃ x1 x2 ts, σ' = [some (.int n), some (.str g.s), some (.ref L), x1, x2] ∧ Ex H H' ∧ H' L = some (.lst (List.map V.ref ts)) ∧ TupsAt H' ts ((List.range i).flatMap (rowPl n g)) ∧ ts.length ≤ 7 * i) ?i0 ?iG ?is ?id
    case i0 => exact ⟨none, none, [], rfl, e3, h5, .nil, Nat.zero_le _⟩
    case iG => exact fun _ _ _ _ _ => trivial
    case is =>
      rintro i x σ' H' H'' hi ⟨x1, x2, ts, rfl, e5, h7, k7, z7⟩ ⟨rfl, rfl⟩
      have e0 : (0 : Int) + (i : Int) = (i : Int) := Int.zero_add _
      dsimp only
      rw [e0]
      walk_at "go"
      rw [show ((n : Int) + 1 - ((i : Int) + 1)).toNat = n - i by omega]
      refine w_forW (walk_range (lo := (i : Int) + 1) (n := n - i)) (fun j σ' H2 => ∃ x2 ts, σ' = [some (.int n), some (.str g.s), some (.ref L), some (.int (i : Nat)), x2] ∧ Ex H H2 ∧ H2 L = some (.lst (List.map V.ref ts)) ∧
        TupsAt H2 ts ((List.range i).flatMap (rowPl n g) ++ ((List.range j).map fun d => (i, i + 1 + d)).filter fun p => okPl g n p.1 p.2) ∧ ts.length ≤ 7 * i + j) ?j0 ?jG ?js ?jd
      case j0 => exact ⟨x2, ts, rfl, e5, h7, by simpa using k7, z7⟩
      case jG => exact fun _ _ _ _ _ => trivial
      case js =>
        rintro j y σ2 H2 H3 hj ⟨x2, ts, rfl, e6, h8, k8, z8⟩ ⟨rfl, rfl⟩
        have ee : (i : Int) + 1 + (j : Int) = ((i + 1 + j : Nat) : Int) := by omega
        dsimp only
        rw [ee]
        have zt : (List.map V.ref ts).length < 100000 := by rw [List.length_map]; omega
        have yes : okPl g n i (i + 1 + j) = true → ∀ H4 p4 H5, Ex H3 H4 → H4 p4 = some (.tup [.int (i : Nat), .int ((i + 1 + j : Nat) : Int)]) → Mu L H4 H5 → H5 L = some (.lst (List.map V.ref ts ++ [.ref p4])) →
            ∃ x2 ts', [some (V.int n), some (.str g.s), some (.ref L), some (.int (i : Nat)), some (.int ((i + 1 + j : Nat) : Int))] = [some (.int n), some (.str g.s), some (.ref L), some (.int (i : Nat)), x2] ∧ Ex H H5 ∧ H5 L = some (.lst (List.map V.ref ts')) ∧
              TupsAt H5 ts' ((List.range i).flatMap (rowPl n g) ++ ((List.range (j + 1)).map fun d => (i, i + 1 + d)).filter fun p => okPl g n p.1 p.2) ∧ ts'.length ≤ 7 * i + (j + 1) := fun hok H4 p4 H5 e4 h4 m5 h5' => by
          refine ⟨_, ts ++ [p4], rfl, m5 H (e6.trans e4) n3, by rw [h5']; simp, ?_, by rw [List.length_append, List.length_singleton]; omega⟩
          rw [List.range_succ, List.map_append, List.filter_append, List.map_cons, List.filter_cons, if_pos hok, List.map_nil, List.filter_nil, ← List.append_assoc]
          exact TupsAt.snoc ((k8.ex e4).mu m5 (e4 _ _ h8)) (mu_at m5 h4 (ne_of h4 (e4 _ _ h8) (by intro z; cases z)))
        have no : okPl g n i (i + 1 + j) = false →
            ∃ x2 ts', [some (V.int n), some (.str g.s), some (.ref L), some (.int (i : Nat)), some (.int ((i + 1 + j : Nat) : Int))] = [some (.int n), some (.str g.s), some (.ref L), some (.int (i : Nat)), x2] ∧ Ex H H3 ∧ H3 L = some (.lst (List.map V.ref ts')) ∧
              TupsAt H3 ts' ((List.range i).flatMap (rowPl n g) ++ ((List.range (j + 1)).map fun d => (i, i + 1 + d)).filter fun p => okPl g n p.1 p.2) ∧ ts'.length ≤ 7 * i + (j + 1) := fun hok => by
          refine ⟨_, ts, rfl, e6, h8, ?_, by omega⟩
          rw [List.range_succ, List.map_append, List.filter_append, List.map_cons, List.filter_cons, if_neg (by rw [hok]; decide)]
          simpa using k8
        cases g with
        | parts =>
          walk_at "go"
          refine w_newA (by show (2 : Nat) ≤ sizeLine; decide) fun p4 H4 e4 n4 h4 => ?_
          walk_at "go"
          exact w_apq (e4 _ _ h8) zt fun H5 m5 h5' => yes rfl H4 p4 H5 e4 h4 m5 h5'
        | front =>
          walk_at "go"
          refine w_ite (fun e => ?_) (fun e => ?_)
          · have hi0 : i = 0 := by simpa using e
            walk_at "go"
            refine w_newA (by show (2 : Nat) ≤ sizeLine; decide) fun p4 H4 e4 n4 h4 => ?_
            walk_at "go"
            exact w_apq (e4 _ _ h8) zt fun H5 m5 h5' => yes (by simp [okPl, hi0]) H4 p4 H5 e4 h4 m5 h5'
          · have hi0 : ¬ i = 0 := by simpa using e
            walk_at "go"
            exact no (by simp [okPl, hi0])
        | ends =>
          walk_at "go"
          refine w_ite (fun e => ?_) (fun e => ?_)
          · have hi0 : i = 0 := by simpa using e
            walk_at "go"
            refine w_newA (by show (2 : Nat) ≤ sizeLine; decide) fun p4 H4 e4 n4 h4 => ?_
            walk_at "go"
            exact w_apq (e4 _ _ h8) zt fun H5 m5 h5' => yes (by simp [okPl, hi0]) H4 p4 H5 e4 h4 m5 h5'
          · have hi0 : ¬ i = 0 := by simpa using e
            walk_at "go"
            refine w_ite (fun e => ?_) (fun e => ?_)
            · have hn0 : i + 1 + j = n := by
                have := of_decide_eq_true e
                omega
              walk_at "go"
              refine w_newA (by show (2 : Nat) ≤ sizeLine; decide) fun p4 H4 e4 n4 h4 => ?_
              walk_at "go"
              exact w_apq (e4 _ _ h8) zt fun H5 m5 h5' => yes (by simp [okPl, hn0]) H4 p4 H5 e4 h4 m5 h5'
            · have hn0 : ¬ i + 1 + j = n := by
                have := of_decide_eq_false e
                omega
              walk_at "go"
              exact no (by simp [okPl, hi0, hn0])
      case jd =>
        rintro σ2 H2 ⟨x2, ts, rfl, e6, h8, k8, z8⟩
        refine ⟨_, x2, ts, rfl, e6, h8, ?_, by omega⟩
        rw [List.range_succ, List.flatMap_append]
        simpa [rowPl] using k8
    case id =>
      rintro σ' H' ⟨x1, x2, ts, rfl, e5, h7, k7, z7⟩
      walk_at "go"
      exact q L ts H' e5 n3 h7 k7
end Tcf

set_option Elab.async false
set_option linter.all false
set_option maxRecDepth 100000
set_option maxHeartbeats 4000000
/-! ED: the law's goal, its words (printed from ED.tmpl by gen_der.py). -/
namespace Tcf
open PySem PySem.Spec PyProof.Rows L2
open Evl (Ex)
set_option hygiene false in
local macro_rules | `(tactic| walk_at "lkT") => `(tactic| first | (with_reducible exact T.l_GAMES _) | (with_reducible exact T.l_GOALS _))
set_option hygiene false in
local macro_rules | `(tactic| walk_at "isx") => `(tactic| first | (with_reducible exact T.is_Row (by walk_at "lk")) | (with_reducible exact T.is_Flip (by walk_at "lk")) | (with_reducible exact T.is_Table (by walk_at "lk")))
local macro_rules | `(tactic| walk_at "lk") => `(tactic| first
  | assumption
  | walk_at "lkT"
  | ((with_reducible refine' ex_at (by assumption) ?wk); (case wk => walk_at "lk"))
  | ((with_reducible refine' sl_of ?wk); (case wk => walk_at "lk"))
  | ((with_reducible refine' st_of ?wk); (case wk => walk_at "lk"))
  | ((with_reducible refine' ex_l (by assumption) ?wk); (case wk => walk_at "lk"))
  | ((with_reducible refine' ex_t (by assumption) ?wk); (case wk => walk_at "lk"))
  | ((with_reducible refine' mu_at (by assumption) ?wk ?wn); (case wk => walk_at "lk"); (case wn => assumption)))
set_option hygiene false in
local macro_rules | `(tactic| walk_at "sd") => `(tactic| first
  | exact rfl | assumption | (with_reducible exact T.c_Row) | (with_reducible exact T.c_Flip) | (with_reducible exact T.c_Table) | (with_reducible exact T.c_Trial)
  | (with_reducible exact T.n_Row_colour) | (with_reducible exact T.n_Row_sizes) | (with_reducible exact T.n_Flip_begin) | (with_reducible exact T.n_Flip_finish) | (with_reducible exact T.n_Trial_home) | (with_reducible exact T.n_Trial_kept)
  | (with_reducible exact T.n_Table_beginning) | (with_reducible exact T.n_Table_words) | (with_reducible exact T.n_Table_state))
local macro_rules | `(tactic| walk_at "w") => `(tactic| first
  | (with_reducible refine w_seq ?_) | (with_reducible refine w_asg ?_) | (with_reducible refine w_gName ?_) | (with_reducible refine w_ret ?_) | (with_reducible refine w_ifS ?_) | (with_reducible refine w_drop ?_) | (with_reducible refine w_next ?_)
  | ((with_reducible refine' w_aug ?wh ?_); (case wh => exact rfl)) | (with_reducible refine w_match ?_) | (with_reducible refine w_case ?_)
  | ((with_reducible refine' w_var ?wh ?_); (case wh => exact rfl))
  | (with_reducible refine w_c ?_) | (with_reducible refine w_op ?_) | (with_reducible refine w_un ?_) | (with_reducible refine w_nil ?_) | (with_reducible refine w_cons ?_) | (with_reducible refine w_star ?_) | (with_reducible refine w_tup ?_) | (with_reducible refine w_lst ?_)
  | (with_reducible refine w_if ?_) | (with_reducible refine w_and ?_) | (with_reducible refine w_or ?_) | (with_reducible refine w_not ?_) | (with_reducible refine w_bq ?_) | (with_reducible refine w_B ?_) | (with_reducible refine w_test ?_) | (with_reducible refine w_andV ?_) | (with_reducible refine w_orV ?_) | (with_reducible refine w_notV ?_)
  | (with_reducible refine w_chain ?_) | (with_reducible refine w_rI0 ?_) | (with_reducible refine w_rU ?_) | (with_reducible refine w_ipI ?_)
  | (with_reducible refine w_eqI ?_) | (with_reducible refine w_neI ?_) | (with_reducible refine w_eqS ?_) | (with_reducible refine w_neS ?_) | (with_reducible refine w_eqB ?_) | (with_reducible refine w_neB ?_) | (with_reducible refine w_isNr ?_) | (with_reducible refine w_isNn ?_)
  | (with_reducible refine w_sl ?_) | (with_reducible refine w_noPart ?_) | (with_reducible refine w_part ?_) | (with_reducible refine w_pq ?_) | (with_reducible refine w_revL ?_) | (with_reducible refine w_revS ?_)
  | (with_reducible refine w_cb ?_) | (with_reducible refine w_min2 ?_) | (with_reducible refine w_max2 ?_) | (with_reducible refine w_intB ?_)
  | (with_reducible refine w_fn ?_) | (with_reducible refine w_me ?_) | (with_reducible refine w_pr ?_) | (with_reducible refine w_mk ?_) | (with_reducible refine w_fld ?_)
  | (with_reducible refine w_isi_ii ?_) | (with_reducible refine w_isi_ib ?_) | (with_reducible refine w_isi_ss ?_)
  | ((with_reducible refine' w_isi_ll ?wh ?_); (case wh => walk_at "lk"))
  | ((with_reducible refine' w_isi_own ?wh ?wq); (case wh => walk_at "isx"))
  | ((with_reducible refine' w_lenL ?wh ?_); (case wh => walk_at "lk")) | ((with_reducible refine' w_ixL ?wh ?wi ?_); (case wh => walk_at "lk"); (case wi => first | assumption | exact rfl)) | ((with_reducible refine' w_ixT ?wh ?wi ?_); (case wh => walk_at "lk"); (case wi => first | assumption | exact rfl))
  | ((with_reducible refine' w_slL ?wh ?_); (case wh => walk_at "lk")) | ((with_reducible refine' w_rvq ?wh ?_); (case wh => walk_at "lk")) | ((with_reducible refine' w_listO ?wh ?_); (case wh => walk_at "lk")) | ((with_reducible refine' w_starL ?wh ?_); (case wh => walk_at "lk"))
  | ((with_reducible refine' w_fq ?wh ?wc ?wn ?wl ?_); (case wh => walk_at "lk"); (case wc => walk_at "sd"); (case wn => walk_at "sd"); (case wl => exact rfl))
  | ((with_reducible refine' w_sum ?wh ?_); (case wh => walk_at "lk"))
  | ((with_reducible refine' w_all ?wh ?_); (case wh => walk_at "lk"))
  | (with_reducible refine w_forL ?_) | ((with_reducible refine' w_forLq ?wh ?_); (case wh => walk_at "lk")) | (with_reducible refine w_forS ?_) | (with_reducible refine w_forSq ?_) | (with_reducible refine w_forR1 ?_) | ((with_reducible refine' w_forR1q ?wh ?_); (case wh => omega)) | (with_reducible refine w_forR2 ?_) | ((with_reducible refine' w_forR2q ?wh ?_); (case wh => omega)) | (with_reducible refine w_forE ?_) | ((with_reducible refine' w_forEq ?wh ?_); (case wh => walk_at "lk"))
  | (with_reducible refine w_lcL ?_) | ((with_reducible refine' w_lcLq ?wh ?_); (case wh => walk_at "lk")) | (with_reducible refine w_lcS ?_) | (with_reducible refine w_lcSq ?_) | (with_reducible refine w_lcR2 ?_) | ((with_reducible refine' w_lcR2q ?wh ?_); (case wh => omega))
  | (with_reducible refine w_bm ?_) | ((with_reducible refine' w_bmq ?wh ?_); (case wh => walk_at "lk")) | (with_reducible refine w_bm0 ?_) | ((with_reducible refine' w_bm0q ?wh ?_); (case wh => walk_at "lk"))
  | ((with_reducible refine' w_getL ?wh ?wi ?_); (case wh => walk_at "lk"); (case wi => first | assumption | exact rfl)) | (with_reducible refine w_gSub ?_) | (with_reducible refine w_augS ?_)
  | ((with_reducible refine' w_gTup ?wh ?wl ?_); (case wh => walk_at "lk"); (case wl => exact rfl)) | (with_reducible refine w_gCons ?_) | (with_reducible refine w_gNil ?_)
  | (with_reducible refine w_parT ?_) | (with_reducible refine w_parq ?_) | (with_reducible refine w_par3T ?_) | (with_reducible refine w_par3q ?_) | (with_reducible refine w_sfld ?_) | (with_reducible refine w_ob ?_) | (with_reducible refine w_obq ?_)
  | ((with_reducible refine' w_sfq ?wh ?wc ?wn ?wl ?wq); (case wh => walk_at "lk"); (case wc => walk_at "sd"); (case wn => walk_at "sd"); (case wl => exact Nat.le_of_ble_eq_true rfl))
  | ((with_reducible refine' w_rI ?wh ?wq); (case wh => first | decide | exact ⟨by decide, by decide⟩)) | (with_reducible refine w_pairsC ?_) | (with_reducible refine w_pairsN ?_) | ((with_reducible refine' w_cat ?wh ?wk ?wl ?wq); (case wh => walk_at "lk"); (case wk => walk_at "lk"); (case wl => walk_at "sz"))
  | ((with_reducible refine' w_mqRow ?wh ?wl ?wk ?wq); (case wh => walk_at "rw"); (case wl => exact rfl); (case wk => exact rfl))
  | ((with_reducible refine' w_mq ?wh ?wl ?wq); (case wh => walk_at "lk"); (case wl => exact rfl))
  | ((with_reducible refine' w_wipe ?wh ?wq); (case wh => exact rfl)) | (with_reducible refine w_yesT ?_)
  | (with_reducible refine w_isNumber ?_) | (with_reducible refine w_isCount ?_) | (with_reducible refine w_isColour ?_) | (with_reducible refine w_checkGame ?_) | (with_reducible refine w_checkGoal ?_) | (with_reducible refine w_checkWords ?_)
  | (with_reducible refine iteT ?_) | (with_reducible refine iteF ?_) | ((with_reducible refine' w_yes ?wh ?_); (case wh => exact rfl)) | ((with_reducible refine' w_no ?wh ?_); (case wh => exact rfl)))
local macro_rules | `(tactic| walk_at "sz") => `(tactic| first | (refine sz_le ?_; first | assumption | (simp only [List.length_map, List.length_append, List.length_cons, List.length_nil]; omega) | omega) | (refine sz_lt ?_; first | assumption | (simp only [List.length_map, List.length_append, List.length_cons, List.length_nil]; omega) | omega))
local macro_rules | `(tactic| walk_at "go") => `(tactic| repeat (walk_at "w"))
local macro_rules | `(tactic| walk_at "bt") => `(tactic| first | exact rfl | assumption | (simp [*]; done) | (simp; omega) | (simp [*]; omega))
local macro_rules | `(tactic| walk_at "yes") => `(tactic| ((with_reducible refine' w_yes ?wh ?wq); (case wh => walk_at "bt"); walk_at "go"))
local macro_rules | `(tactic| walk_at "no") => `(tactic| ((with_reducible refine' w_no ?wh ?wq); (case wh => walk_at "bt"); walk_at "go"))
local macro_rules | `(tactic| walk_at "st") => `(tactic| ((try dsimp only [L2.cxOf, L2.Cx.nox, L2.Cx.wish]); walk_at "go"))
local macro_rules | `(tactic| walk_at "rw") => `(tactic| first | assumption | ((with_reducible refine' IsRow.rw ?wk); (case wk => walk_at "rw")) | ((with_reducible refine' IsRw.ex (by assumption) ?wk); (case wk => walk_at "rw")) | ((with_reducible refine' IsRow.ex (by assumption) ?wk); (case wk => walk_at "rw")))
local macro_rules | `(tactic| walk_at "ro") => `(tactic| first | assumption | ((with_reducible refine' IsRow.ex (by assumption) ?wk); (case wk => walk_at "ro")))
local macro_rules | `(tactic| walk_at "fl") => `(tactic| first | assumption | ((with_reducible refine' IsFlip.ex (by assumption) ?wk); (case wk => walk_at "fl")))
local macro_rules | `(tactic| walk_at "w") => `(tactic| first
  | ((with_reducible refine' w_first ?wh ?wq); (case wh => walk_at "rw")) | ((with_reducible refine' w_runs ?wh ?wq); (case wh => walk_at "rw")) | ((with_reducible refine' w_length ?wh ?wq); (case wh => walk_at "rw")) | ((with_reducible refine' w_lengths ?wh ?wq); (case wh => walk_at "rw")))
local macro_rules | `(tactic| walk_at "w") => `(tactic| first
  | ((with_reducible refine' w_start ?wh ?wq); (case wh => walk_at "fl")) | ((with_reducible refine' w_end ?wh ?wq); (case wh => walk_at "fl")))
local macro_rules | `(tactic| walk_at "w") => `(tactic| first | (with_reducible refine w_dget ?_))
def chgB (u : Wd) (i : Nat) : Bool := !decide (u[i + 1]? = u[i]?)
def doneB : Go → Wd → Bool
  | .sorted, u => !(!(Builtin.Str.occurrences (sT u) "10" 0 (sT u).length 1).isEmpty)
  | .grouped, u => decide ((((List.range (u.length - 1)).filter (chgB u)).length : Int) < 2)
theorem done_cost (g : Gm) (o : Go) (u : Wd) (h : u.length ≤ 7) : doneB o u = decide (costW g o u = 0) :=
  of_decide_eq_true (all7g (p := fun g o u => decide (doneB o u = decide (costW g o u = 0))) (by decide +kernel) g o u h)
theorem sT_at {u : Wd} {i : Nat} {b : Bool} (h : u[i]? = some b) : atI (sT u).cps.toList (i : Int) = some (sg b) := at_nat (j := i) (by simp [sT, tx, h]) rfl
theorem sg_ne (a b : Bool) : decide ((⟨#[sg a]⟩ : Str) = ⟨#[sg b]⟩) = decide (a = b) := by cases a <;> cases b <;> decide +kernel
def spDone : Sp := fun vs H Q _ => ∃ (u : Wd) (o : Go), vs = [.str (sT u), .str o.s] ∧ u.length ≤ 7 ∧ ∀ H', Ex H H' → Q (.bl (doneB o u)) H'
theorem sc_law_is_done : FnScope ["_law_word", "_law_goal", "_law_at"] ["_law_word", "_law_goal"] (defScope (top 53)) := ⟨rfl, rfl, rfl, by decide +kernel, rfl, by decide +kernel, by decide +kernel⟩
theorem ok_law_is_done {P : Program} {w : World} {K : PySem.W.Frag} {mg : Str → Option Value} {base : Heap} (T : Tx P K mg) : Ok P w K mg base 1 (He.ga K "_law_is_done") (spDone) := by
  refine ok_mk T.d_law_is_done sc_law_is_done (fun vs H Q E h => ?len) (fun _ _ _ _ _ _ us hl => match us, hl with | [_, _], _ => rfl) (fun cdv A outer s H vs Q E hr h => ⟨_, (pss_cons (ps_if (pt_cmpR op_eq (pv 1) pe_str (nomark _)) (pss_one (ps_ret (pe_cmpR oq_ninS pe_str (pv 0) (by rfl)))) pss_nil) (pss_one (ps_ret (pe_cmpR op_lt (pe_callB cq_lenQ (by rfl) T.z_len (by decide +kernel) (pa_cons (pe_lc (own := [("_law_at", 2)]) (by rfl) sc_law_is_done.nd (pi_range2 (by rfl) T.z_range (pa_cons pe_int (pa_cons (pe_callB cq_lenT (by rfl) T.z_len (by decide +kernel) (pa_cons (pv 0) pa_nil)) pa_nil))) (blkOk_by (own := [("_law_at", 2)]) (N := ["_law_word", "_law_goal", "_law_at"]) (sc := defScope (top 53)) (by decide +kernel)) (fun _ _ _ _ _ => (pg_name (i := 2) sc_law_is_done.nd rfl (Or.inl rfl))) (fun _ _ _ _ _ => (pts_one (pt_cmpR op_ne (pe_ix ix_str (pv 0) (pv 2) (fun _ _ => rfl)) (pe_ix ix_str (pv 0) (pe_op op_sub (pv 2) pe_int) (fun _ _ => rfl)) (nomark _)))) (fun _ _ _ _ _ => (pv 2))) pa_nil)) pe_int (nomark _))))), ?body⟩)
  case len => obtain ⟨u, o, rfl, _⟩ := h; rfl
  case body =>
    obtain ⟨u, o, rfl, zu, q⟩ := h
    have zs : (sT u).length = u.length := tx_len u
    cases o with
    | sorted =>
      walk_at "st"
      refine w_ninS ?_
      exact q H (Ex.refl _)
    | grouped =>
      walk_at "st"
      refine w_lenS (sz_le (by omega)) ?_
      walk_at "go"
      rw [zs]
      walk_at "go"
      rw [show ((u.length : Int) - 1).toNat = u.length - 1 by omega]
      refine w_lcW (walk_range (lo := 1) (n := u.length - 1)) (chgB u) (fun _ _ _ => True) (by omega) (fun _ _ _ _ y => y.1) (fun _ _ _ _ _ h => h) (fun _ _ _ _ _ _ _ h => h) (fun _ _ => trivial) (fun i y H1 hi e1 hy QE k h1 h2 => ?_) (fun D H1 ys e1 nD hD pr => ?_)
      · obtain ⟨_, rfl⟩ := hy
        have hi1 : i + 1 < u.length := by omega
        have e2 : (1 : Int) + (i : Int) = ((i + 1 : Nat) : Int) := by omega
        dsimp only
        rw [e2]
        have ha := List.getElem?_eq_getElem hi1
        have hb := List.getElem?_eq_getElem (show i < u.length by omega)
        walk_at "go"
        refine w_ixS (sz_le (by omega)) (sT_at ha) ?_
        walk_at "go"
        rw [show ((i + 1 : Nat) : Int) - 1 = (i : Int) by omega]
        refine w_ixS (sz_le (by omega)) (sT_at hb) ?_
        walk_at "go"
        rw [sg_ne]
        have hc : chgB u i = !decide (u[i + 1] = u[i]) := by
          unfold chgB
          rw [ha, hb]
          simp
        cases hx : chgB u i with
        | true =>
          rw [← hc, hx]
          walk_at "go"
          exact h1 hx _ _ (Ex.refl _) trivial
        | false =>
          rw [← hc, hx]
          walk_at "go"
          exact h2 hx _ (Ex.refl _)
      · walk_at "go"
        rw [← paired_len pr] 
        exact q H1 e1
theorem paired_map {α : Type} {f : α → V} {l : List α} {ys : List V} (h : Paired (fun i y => ∃ x, l[i]? = some x ∧ y = f x) ((List.range l.length).filter fun _ => true) ys) : ys = l.map f := by
  rw [List.filter_eq_self.mpr (fun _ _ => rfl)] at h
  have hl := paired_len h
  rw [List.length_range] at hl
  apply List.ext_getElem? fun i => ?_
  by_cases hi : i < l.length
  · obtain ⟨x, hx, hy⟩ := paired_at h i i ys[i] (by rw [List.getElem?_range hi]) (List.getElem?_eq_getElem (by omega))
    rw [List.getElem?_map, hx, List.getElem?_eq_getElem (by omega), hy]
    rfl
  · rw [List.getElem?_eq_none (by omega), List.getElem?_eq_none (by rw [List.length_map]; omega)]
def wordsL : Nat → List Wd
  | 0 => [[]]
  | n + 1 => (wordsL n).map (· ++ [false]) ++ (wordsL n).map (· ++ [true])
theorem wordsL_len : ∀ n, (wordsL n).length = 2 ^ n
  | 0 => rfl
  | n + 1 => by
    have := wordsL_len n
    simp [wordsL, this, Nat.pow_succ]
    omega
theorem wordsL_mem : ∀ (n : Nat) (w : Wd), w ∈ wordsL n → w.length = n
  | 0, w, h => by simp [wordsL] at h; rw [h]; rfl
  | n + 1, w, h => by
    simp only [wordsL, List.mem_append, List.mem_map] at h
    rcases h with ⟨v, hv, rfl⟩ | ⟨v, hv, rfl⟩ <;> simp [wordsL_mem n v hv]
def spWords : Sp := fun vs H Q _ => ∃ n : Nat, vs = [.int n] ∧ n ≤ 7 ∧ ∀ p H', Ex H H' → H p = none → H' p = some (.lst ((wordsL n).map fun w => V.str (sT w))) → Q (.ref p) H'
theorem sc_law_words : FnScope ["_law_length", "_law_found", "_law_turn_here", "_law_word"] ["_law_length"] (defScope (top 54)) := ⟨rfl, rfl, rfl, by decide +kernel, rfl, by decide +kernel, by decide +kernel⟩
theorem ok_law_words {P : Program} {w : World} {K : PySem.W.Frag} {mg : Str → Option Value} {base : Heap} (T : Tx P K mg) : Ok P w K mg base 1 (He.ga K "_law_words") (spWords) := by
  refine ok_mk T.d_law_words sc_law_words (fun vs H Q E h => ?len) (fun _ _ _ _ _ _ us hl => match us, hl with | [_], _ => rfl) (fun cdv A outer s H vs Q E hr h => ⟨_, (pss_cons (ps_set (i := 1) sc_law_words.nd rfl (.inl rfl) (pe_lst (pa_cons pe_str pa_nil))) (pss_cons (ps_for PassesOwn.never rfl (pi_range1 (by rfl) T.z_range (pa_cons (pv 0) pa_nil)) (pg_name (i := 2) sc_law_words.nd rfl (Or.inl rfl)) (pss_one (ps_set (i := 1) sc_law_words.nd rfl (.inl rfl) (pe_op op_cat (pe_lc (own := [("_law_word", 3)]) (by rfl) sc_law_words.nd (pi_list (pv 1)) (blkOk_by (own := [("_law_word", 3)]) (N := ["_law_length", "_law_found", "_law_turn_here", "_law_word"]) (sc := defScope (top 54)) (by decide +kernel)) (fun _ _ _ _ _ => (pg_name (i := 3) sc_law_words.nd rfl (Or.inl rfl))) (fun _ _ _ _ _ => pts_nil) (fun _ _ _ _ _ => (pe_op oq_addS (pv 3) pe_str))) (pe_lc (own := [("_law_word", 3)]) (by rfl) sc_law_words.nd (pi_list (pv 1)) (blkOk_by (own := [("_law_word", 3)]) (N := ["_law_length", "_law_found", "_law_turn_here", "_law_word"]) (sc := defScope (top 54)) (by decide +kernel)) (fun _ _ _ _ _ => (pg_name (i := 3) sc_law_words.nd rfl (Or.inl rfl))) (fun _ _ _ _ _ => pts_nil) (fun _ _ _ _ _ => (pe_op oq_addS (pv 3) pe_str))))))) (pss_one (ps_ret (pv 1))))), ?body⟩)
  case len => obtain ⟨n, rfl, _⟩ := h; rfl
  case body =>
    obtain ⟨n, rfl, zn, q⟩ := h
    walk_at "st"
    refine w_newA (by show (1 : Nat) ≤ sizeLine; decide) fun L H3 e3 n3 h5 => ?_
    walk_at "go"
    rw [Int.toNat_natCast]
    refine w_forW (walk_range (lo := 0) (n := n)) (fun i σ' H' => ∃ L x1 x2, σ' = [some (.int n), some (.ref L), x1, x2] ∧ Ex H H' ∧ H L = none ∧ H' L = some (.lst ((wordsL i).map fun w => V.str (sT w)))) ?i0 ?iG ?is ?id
    case i0 => exact ⟨L, none, none, rfl, e3, n3, h5⟩
    case iG => exact fun _ _ _ _ _ => trivial
    case is =>
      rintro i x σ' H' H'' hi ⟨L, x1, x2, rfl, e5, nL, h7⟩ ⟨rfl, rfl⟩
      have hwl := wordsL_len i
      have hp : 2 ^ i ≤ 2 ^ 7 := Nat.pow_le_pow_right (by decide) (by omega)
      walk_at "go"
      refine w_lcW (walk_list (xs := (wordsL i).map fun w => V.str (sT w))) (fun _ => true) (fun j y _ => ∃ x, (wordsL i)[j]? = some x ∧ y = V.str (sT (x ++ [false]))) (by rw [List.length_map]; omega) (fun _ _ _ _ y => y.1) (fun _ _ _ _ _ h => h) (fun _ _ _ _ _ _ _ h => h) (fun H' e => ex_l e (sl_of h7)) (fun j y H1 hj e1 hy QE k h1 h2 => ?_) (fun D1 H1 ys e1 nD1 hD1 pr1 => ?_)
      · replace hy := hy.2
        rw [List.getElem?_map] at hy
        obtain ⟨x, hx, hxy⟩ := Option.map_eq_some_iff.mp hy
        subst hxy
        have zl := wordsL_mem i x (List.mem_of_getElem? hx)
        have zs : (sT x).length = x.length := tx_len x
        walk_at "go"
        refine w_addS (sz_le (by rw [zs]; show x.length + 1 ≤ 100000; omega)) ?_
        exact h1 rfl _ _ (Ex.refl _) ⟨x, hx, congrArg V.str (sT_snoc x false)⟩
      rw [List.length_map] at pr1
      have hq1 := paired_map pr1
      walk_at "go"
      refine w_lcW (walk_list (xs := (wordsL i).map fun w => V.str (sT w))) (fun _ => true) (fun j y _ => ∃ x, (wordsL i)[j]? = some x ∧ y = V.str (sT (x ++ [true]))) (by rw [List.length_map]; omega) (fun _ _ _ _ y => y.1) (fun _ _ _ _ _ h => h) (fun _ _ _ _ _ _ _ h => h) (fun H' e => ex_l (e1.trans e) (sl_of h7)) (fun j y H1 hj e1 hy QE k h1 h2 => ?_) (fun D2 H2 zs e2 nD2 hD2 pr2 => ?_)
      · replace hy := hy.2
        rw [List.getElem?_map] at hy
        obtain ⟨x, hx, hxy⟩ := Option.map_eq_some_iff.mp hy
        subst hxy
        have zl := wordsL_mem i x (List.mem_of_getElem? hx)
        have zs : (sT x).length = x.length := tx_len x
        walk_at "go"
        refine w_addS (sz_le (by rw [zs]; show x.length + 1 ≤ 100000; omega)) ?_
        exact h1 rfl _ _ (Ex.refl _) ⟨x, hx, congrArg V.str (sT_snoc x true)⟩
      rw [List.length_map] at pr2
      have hq2 := paired_map pr2
      walk_at "go"
      subst hq1 hq2
      refine w_cat (e2 _ _ hD1) hD2 (by rw [List.length_map, List.length_map]; exact sz_le (by omega)) ?_
      refine w_new fun p H3 e3 n3 h3 => ?_
      walk_at "go"
      refine ⟨p, _, _, rfl, ((e5.trans e1).trans e2).trans e3, fr_back e5 (fr_back e1 (fr_back e2 n3)), ?_⟩
      rw [h3, wordsL, List.map_append, List.map_map, List.map_map]
      rfl
    case id =>
      rintro σ' H' ⟨L, x1, x2, rfl, e5, nL, h7⟩
      walk_at "go"
      exact q L H' e5 nL h7
end Tcf

set_option Elab.async false
set_option linter.all false
set_option maxRecDepth 100000
set_option maxHeartbeats 4000000
/-! EE: facts of all words of at most seven. Own text. -/
namespace Tcf
open PySem PySem.Spec PyProof.Rows L2
open Evl (Ex)
def zer (w : Wd) : Nat := (w.filter fun b => !b).length
def InC (n z : Nat) (w : Wd) : Prop := w.length = n ∧ zer w = z
def costN (g : Gm) (o : Go) (u : Wd) : Nat := (costW g o u).toNat
theorem cost_nn (g : Gm) (o : Go) (u : Wd) (h : u.length ≤ 7) : costW g o u = (costN g o u : Int) ∧ costN g o u ≤ 8 := by
  have := all7g (p := fun g o u => decide (0 ≤ costW g o u) && decide (costW g o u ≤ 8)) (by decide +kernel) g o u h
  simp only [Bool.and_eq_true, decide_eq_true_eq] at this
  unfold costN
  omega
def turnP (u : Wd) (p : Pl) : Wd := turnW u p.1 p.2
theorem turn_all (g : Gm) (u : Wd) (h : u.length ≤ 7) : ∀ p ∈ placesW u.length g, turnP (turnP u p) p = u ∧ zer (turnP u p) = zer u ∧ (turnP u p).length = u.length ∧ p.1 < p.2 ∧ p.2 ≤ u.length := by
  have := all7g (p := fun g _ u => (placesW u.length g).all fun p => decide (turnP (turnP u p) p = u) && (decide (zer (turnP u p) = zer u) && (decide ((turnP u p).length = u.length) && (decide (p.1 < p.2) && decide (p.2 ≤ u.length))))) (by decide +kernel) g .sorted u h
  intro p hp
  have := List.all_eq_true.mp this p hp
  simpa only [Bool.and_eq_true, decide_eq_true_eq] using this
theorem up_all (g : Gm) (o : Go) (u : Wd) (h : u.length ≤ 7) : ∀ p ∈ placesW u.length g, costN g o (turnP u p) ≤ costN g o u + 1 := by
  have := all7g (p := fun g o u => (placesW u.length g).all fun p => decide (costN g o (turnP u p) ≤ costN g o u + 1)) (by decide +kernel) g o u h
  intro p hp
  have := List.all_eq_true.mp this p hp
  simpa only [decide_eq_true_eq] using this
theorem down_one (g : Gm) (o : Go) (u : Wd) (h : u.length ≤ 7) (k : Nat) (e : costN g o u = k + 1) : ∃ p ∈ placesW u.length g, costN g o (turnP u p) = k := by
  have := all7g (p := fun g o u => decide (costN g o u = 0) || (placesW u.length g).any fun p => decide (costN g o (turnP u p) + 1 = costN g o u)) (by decide +kernel) g o u h
  simp only [Bool.or_eq_true, decide_eq_true_eq, List.any_eq_true] at this
  rcases this with h0 | ⟨p, hp, hq⟩
  · omega
  · exact ⟨p, hp, by omega⟩
end Tcf

set_option Elab.async false
set_option linter.all false
set_option maxRecDepth 100000
set_option maxHeartbeats 4000000
/-! EF: the plain law of the search of costs; many lists at once. Own text. -/
namespace Tcf
open PySem PySem.Spec PyProof.Rows L2
open Evl (Ex)
theorem pigeon {α : Type} [DecidableEq α] : ∀ (l m : List α), l.Nodup → (∀ x ∈ l, x ∈ m) → l.length ≤ m.length
  | [], m, _, _ => Nat.zero_le _
  | x :: l, m, hn, hs => by
    have hx := hs x List.mem_cons_self
    obtain ⟨h1, h2⟩ := List.nodup_cons.mp hn
    have := pigeon l (m.erase x) h2 fun y hy => (List.mem_erase_of_ne (fun (e : y = x) => h1 (e ▸ hy))).mpr (hs y (List.mem_cons_of_mem _ hy))
    rw [List.length_erase_of_mem hx] at this
    have := List.length_pos_of_mem hx
    simp only [List.length_cons]
    omega
theorem mem_wordsL : ∀ (n : Nat) (w : Wd), w.length = n → w ∈ wordsL n
  | 0, w, h => by
    have : w = [] := List.eq_nil_of_length_eq_zero h
    simp [wordsL, this]
  | n + 1, w, h => by
    have hw : w ≠ [] := fun e => by rw [e] at h; cases h
    obtain ⟨v, b, rfl⟩ := snoc_of hw
    have hv := mem_wordsL n v (by simpa using h)
    simp only [wordsL, List.mem_append, List.mem_map]
    cases b
    · exact .inl ⟨v, hv, rfl⟩
    · exact .inr ⟨v, hv, rfl⟩
/-- what is known, within a level -/
structure Kn (n z k : Nat) (g : Gm) (o : Go) (ks : List (Wd × Nat)) : Prop where
  ok : ∀ p ∈ ks, InC n z p.1 ∧ p.2 = costN g o p.1 ∧ p.2 ≤ k + 1
  low : ∀ w, InC n z w → costN g o w ≤ k → w ∈ ks.map Prod.fst
  nd : (ks.map Prod.fst).Nodup
theorem Kn.len {n z k : Nat} {g : Gm} {o : Go} {ks : List (Wd × Nat)} (h : Kn n z k g o ks) (hn : n ≤ 7) : ks.length ≤ 128 := by
  have := pigeon _ (wordsL n) h.nd fun x hx => by
    obtain ⟨p, hp, rfl⟩ := List.mem_map.mp hx
    exact mem_wordsL n _ (h.ok p hp).1.1
  rw [List.length_map, wordsL_len] at this
  have := Nat.pow_le_pow_right (n := 2) (by decide) hn
  omega
structure Lev (n z k : Nat) (g : Gm) (o : Go) (ks : List (Wd × Nat)) (li : List Wd) : Prop where
  kn : Kn n z k g o ks
  top : ∀ p ∈ ks, p.2 ≤ k
  ll : li.length ≤ ks.length
  mem : ∀ w ∈ li, InC n z w ∧ costN g o w = k
  all : ∀ w, InC n z w → costN g o w = k → w ∈ li
structure Mid (n z k : Nat) (g : Gm) (o : Go) (ks : List (Wd × Nat)) (la : List Wd) : Prop where
  kn : Kn n z k g o ks
  ll : la.length ≤ ks.length
  mem : ∀ w ∈ la, InC n z w ∧ costN g o w = k + 1
  all : ∀ p ∈ ks, p.2 = k + 1 → p.1 ∈ la
theorem Lev.mid {n z k : Nat} {g : Gm} {o : Go} {ks : List (Wd × Nat)} {li : List Wd} (h : Lev n z k g o ks li) : Mid n z k g o ks [] :=
  ⟨h.kn, Nat.zero_le _, fun _ h => (List.not_mem_nil h).elim, fun p hp e => by have := h.top p hp; omega⟩
theorem InC.turn {n z : Nat} {g : Gm} {w : Wd} {p : Pl} (h : InC n z w) (hn : n ≤ 7) (hp : p ∈ placesW n g) : InC n z (turnP w p) := by
  have := turn_all g w (by have := h.1; omega) p (by rw [h.1]; exact hp)
  exact ⟨this.2.2.1.trans h.1, this.2.1.trans h.2⟩
theorem Mid.add {n z k : Nat} {g : Gm} {o : Go} {ks : List (Wd × Nat)} {la : List Wd} {w : Wd} {p : Pl} (h : Mid n z k g o ks la) (hn : n ≤ 7) (hw : InC n z w) (hc : costN g o w = k) (hp : p ∈ placesW n g) (hf : turnP w p ∉ ks.map Prod.fst) :
    Mid n z k g o (ks ++ [(turnP w p, k + 1)]) (la ++ [turnP w p]) := by
  have h1 := hw.turn hn hp
  have h2 := up_all g o w (by have := hw.1; omega) p (by rw [hw.1]; exact hp)
  have h3 : ¬ costN g o (turnP w p) ≤ k := fun e => hf (h.kn.low _ h1 e)
  have h4 : costN g o (turnP w p) = k + 1 := by omega
  refine ⟨⟨fun q hq => ?_, fun v hv e => ?_, ?_⟩, ?_, fun v hv => ?_, fun q hq e => ?_⟩
  · rcases List.mem_append.mp hq with hq | hq
    · exact h.kn.ok q hq
    · rw [List.mem_singleton.mp hq]
      exact ⟨h1, h4.symm, Nat.le_refl _⟩
  · rw [List.map_append]
    exact List.mem_append_left _ (h.kn.low v hv e)
  · rw [List.map_append, List.nodup_append]
    refine ⟨h.kn.nd, by simp, fun a ha b hb e => ?_⟩
    rw [List.map_singleton, List.mem_singleton] at hb
    rw [← e] at hb
    dsimp only at hb
    exact hf (hb ▸ ha)
  · simp only [List.length_append, List.length_singleton]
    have := h.ll
    omega
  · rcases List.mem_append.mp hv with hv | hv
    · exact h.mem v hv
    · rw [List.mem_singleton.mp hv]
      exact ⟨h1, h4⟩
  · rcases List.mem_append.mp hq with hq | hq
    · exact List.mem_append_left _ (h.all q hq e)
    · rw [List.mem_singleton.mp hq]
      exact List.mem_append_right _ (List.mem_singleton.mpr rfl)
theorem Mid.lev {n z k : Nat} {g : Gm} {o : Go} {ks ks0 : List (Wd × Nat)} {la li : List Wd} (h : Mid n z k g o ks la) (h0 : Lev n z k g o ks0 li) (hn : n ≤ 7) (hs : ∀ w ∈ li, ∀ p ∈ placesW n g, turnP w p ∈ ks.map Prod.fst) : Lev n z (k + 1) g o ks la := by
  have found : ∀ w, InC n z w → costN g o w = k + 1 → w ∈ ks.map Prod.fst := fun w hw e => by
    obtain ⟨p, hp, hc⟩ := down_one g o w (by have := hw.1; omega) k e
    have ha := turn_all g w (by have := hw.1; omega) p hp
    rw [hw.1] at hp
    have hv := hw.turn hn hp
    have := hs _ (h0.all _ hv hc) p hp
    rwa [ha.1] at this
  refine ⟨⟨fun p hp => ?_, fun w hw e => ?_, h.kn.nd⟩, fun p hp => (h.kn.ok p hp).2.2, h.ll, h.mem, fun w hw e => ?_⟩
  · have := h.kn.ok p hp
    exact ⟨this.1, this.2.1, by omega⟩
  · by_cases e2 : costN g o w ≤ k
    · exact h.kn.low w hw e2
    · exact found w hw (by omega)
  · obtain ⟨p, hp, rfl⟩ := List.mem_map.mp (found w hw e)
    exact h.all p hp (by have := (h.kn.ok p hp).2.1; omega)
theorem Lev.fin {n z k : Nat} {g : Gm} {o : Go} {ks : List (Wd × Nat)} (h : Lev n z k g o ks []) (hn : n ≤ 7) : ∀ w, InC n z w → w ∈ ks.map Prod.fst := by
  have no : ∀ (c : Nat) (w : Wd), InC n z w → costN g o w = k + c → False := by
    intro c
    induction c with
    | zero => exact fun w hw e => List.not_mem_nil (h.all w hw e)
    | succ c ih =>
      intro w hw e
      obtain ⟨p, hp, hc⟩ := down_one g o w (by have := hw.1; omega) (k + c) (by omega)
      rw [hw.1] at hp
      exact ih _ (hw.turn hn hp) hc
  intro w hw
  by_cases e : costN g o w ≤ k
  · exact h.kn.low w hw e
  · exact (no (costN g o w - k) w hw (by omega)).elim
/-- the dict of what is known -/
def kvO (ks : List (Wd × Nat)) : List (Key × V) := ks.map fun p => (Sum.inr (sT p.1), V.int p.2)
theorem sT_inj {u v : Wd} (h : sT u = sT v) : u = v := by
  have h1 : tx u = tx v := by
    have := congrArg (fun s : Str => s.cps.toList) h
    simpa [sT] using this
  have h2 : ∀ (u v : Wd), tx u = tx v → u = v := fun u => by
    induction u with
    | nil => intro v h; cases v with
      | nil => rfl
      | cons a r => cases h
    | cons a r ih => intro v h; cases v with
      | nil => cases h
      | cons b s =>
        have h3 := List.cons.inj (show sg a :: tx r = sg b :: tx s from h)
        have h4 : a = b := by
          have := h3.1
          cases a <;> cases b <;> first | rfl | (exact absurd this (by decide))
        rw [h4, ih s h3.2]
  exact h2 u v h1
theorem valV_none {ks : List (Wd × Nat)} {w : Wd} (h : w ∉ ks.map Prod.fst) : valV (kvO ks) (.inr (sT w)) = none := by
  unfold valV kvO
  rw [Option.map_eq_none_iff, List.find?_eq_none]
  intro kv hkv e
  obtain ⟨p, hp, rfl⟩ := List.mem_map.mp hkv
  exact h (List.mem_map.mpr ⟨p, hp, sT_inj (Sum.inr.inj (of_decide_eq_true e))⟩)
theorem valV_some {ks : List (Wd × Nat)} {w : Wd} {c : Nat} (h : w ∈ ks.map Prod.fst) (hc : ∀ p ∈ ks, p.1 = w → p.2 = c) : valV (kvO ks) (.inr (sT w)) = some (.int c) := by
  unfold valV kvO
  cases e : (ks.map fun p => ((Sum.inr (sT p.1) : Key), V.int p.2)).find? fun kv => decide (kv.1 = .inr (sT w)) with
  | none =>
    rw [List.find?_eq_none] at e
    obtain ⟨p, hp, rfl⟩ := List.mem_map.mp h
    exact absurd (decide_eq_true rfl) (e _ (List.mem_map.mpr ⟨p, hp, rfl⟩))
  | some kv =>
    have h1 := List.mem_of_find?_eq_some e
    have h2 := List.find?_some e
    obtain ⟨p, hp, rfl⟩ := List.mem_map.mp h1
    have h3 := hc p hp (sT_inj (Sum.inr.inj (of_decide_eq_true h2)))
    rw [← h3]
    rfl
/-- costs are known for the whole class -/
def KnownAt (n z : Nat) (g : Gm) (o : Go) (H : Hp) (kd : Addr) : Prop := ∃ ks, H kd = some (.dK (kvO ks)) ∧ ∀ w, InC n z w → valV (kvO ks) (.inr (sT w)) = some (.int (costW g o w))
theorem KnownAt.get {n z : Nat} {g : Gm} {o : Go} {H : Hp} {kd : Addr} (h : KnownAt n z g o H kd) {w : Wd} (hw : InC n z w) : DGet H kd (.str (sT w)) (some (.int (costW g o w))) := by
  obtain ⟨ks, h1, h2⟩ := h
  rw [← h2 w hw]
  exact DGet.k (k := .inr (sT w)) h1
theorem Lev.known {n z k : Nat} {g : Gm} {o : Go} {ks : List (Wd × Nat)} (h : Lev n z k g o ks []) (hn : n ≤ 7) {H : Hp} {kd : Addr} (hk : H kd = some (.dK (kvO ks))) : KnownAt n z g o H kd := by
  refine ⟨ks, hk, fun w hw => ?_⟩
  rw [valV_some (h.fin hn w hw) (c := costN g o w) fun p hp e => by rw [(h.kn.ok p hp).2.1, e], (cost_nn g o w (by have := hw.1; omega)).1]
/-- a stretch that touches what was there at S alone -/
def MS (S : List Addr) (H H' : Hp) : Prop := ∀ G, Ex G H → (∀ l ∈ S, G l = none) → Ex G H'
theorem MS.refl {S : List Addr} {H : Hp} : MS S H H := fun _ e _ => e
theorem MS.trans {S : List Addr} {H H' H'' : Hp} (h : MS S H H') (k : MS S H' H'') : MS S H H'' := fun G e n => k G (h G e n) n
theorem MS.ofEx {S : List Addr} {H H' : Hp} (e : Ex H H') : MS S H H' := fun _ e1 _ => e1.trans e
theorem MS.ofMu {S : List Addr} {l : Addr} {H H' : Hp} (h : Mu l H H') (m : l ∈ S) : MS S H H' := fun G e n => h G e (n l m)
theorem MS.sub {S S' : List Addr} {H H' : Hp} (h : MS S H H') (m : ∀ l ∈ S, l ∈ S') : MS S' H H' := fun G e n => h G e fun l hl => n l (m l hl)
theorem ms_at {S : List Addr} {H H' : Hp} {a : Addr} {o : HO} (h : MS S H H') (e : H a = some o) (n : a ∉ S) : H' a = some o := by
  refine h (fun x => if x = a then some o else none) (fun x y hx => ?_) (fun l hl => ?_) a o (by simp)
  · by_cases hxa : x = a
    · subst hxa
      simp at hx
      rw [e, hx]
    · simp [hxa] at hx
  · exact if_neg fun (e : l = a) => n (e ▸ hl)
theorem mu_upd {H : Hp} {a : Addr} {o : HO} : Mu a H (upd H a o) := fun G e n x y hx => by
  have hxa : x ≠ a := fun z => by rw [z, n] at hx; cases hx
  have := e x y hx
  simpa [upd, hxa] using this
end Tcf

set_option Elab.async false
set_option linter.all false
set_option maxRecDepth 100000
set_option maxHeartbeats 4000000
/-! EG: the law's search of costs (printed from EG.tmpl by gen_der.py). -/
namespace Tcf
open PySem PySem.Spec PyProof.Rows L2
open Evl (Ex)
set_option hygiene false in
local macro_rules | `(tactic| walk_at "lkT") => `(tactic| first | (with_reducible exact T.l_GAMES _) | (with_reducible exact T.l_GOALS _))
set_option hygiene false in
local macro_rules | `(tactic| walk_at "isx") => `(tactic| first | (with_reducible exact T.is_Row (by walk_at "lk")) | (with_reducible exact T.is_Flip (by walk_at "lk")) | (with_reducible exact T.is_Table (by walk_at "lk")))
local macro_rules | `(tactic| walk_at "lk") => `(tactic| first
  | assumption
  | walk_at "lkT"
  | ((with_reducible refine' ex_at (by assumption) ?wk); (case wk => walk_at "lk"))
  | ((with_reducible refine' sl_of ?wk); (case wk => walk_at "lk"))
  | ((with_reducible refine' st_of ?wk); (case wk => walk_at "lk"))
  | ((with_reducible refine' ex_l (by assumption) ?wk); (case wk => walk_at "lk"))
  | ((with_reducible refine' ex_t (by assumption) ?wk); (case wk => walk_at "lk"))
  | ((with_reducible refine' mu_at (by assumption) ?wk ?wn); (case wk => walk_at "lk"); (case wn => assumption)))
set_option hygiene false in
local macro_rules | `(tactic| walk_at "sd") => `(tactic| first
  | exact rfl | assumption | (with_reducible exact T.c_Row) | (with_reducible exact T.c_Flip) | (with_reducible exact T.c_Table) | (with_reducible exact T.c_Trial)
  | (with_reducible exact T.n_Row_colour) | (with_reducible exact T.n_Row_sizes) | (with_reducible exact T.n_Flip_begin) | (with_reducible exact T.n_Flip_finish) | (with_reducible exact T.n_Trial_home) | (with_reducible exact T.n_Trial_kept)
  | (with_reducible exact T.n_Table_beginning) | (with_reducible exact T.n_Table_words) | (with_reducible exact T.n_Table_state))
local macro_rules | `(tactic| walk_at "w") => `(tactic| first
  | (with_reducible refine w_seq ?_) | (with_reducible refine w_asg ?_) | (with_reducible refine w_gName ?_) | (with_reducible refine w_ret ?_) | (with_reducible refine w_ifS ?_) | (with_reducible refine w_drop ?_) | (with_reducible refine w_next ?_)
  | ((with_reducible refine' w_aug ?wh ?_); (case wh => exact rfl)) | (with_reducible refine w_match ?_) | (with_reducible refine w_case ?_)
  | ((with_reducible refine' w_var ?wh ?_); (case wh => exact rfl))
  | (with_reducible refine w_c ?_) | (with_reducible refine w_op ?_) | (with_reducible refine w_un ?_) | (with_reducible refine w_nil ?_) | (with_reducible refine w_cons ?_) | (with_reducible refine w_star ?_) | (with_reducible refine w_tup ?_) | (with_reducible refine w_lst ?_)
  | (with_reducible refine w_if ?_) | (with_reducible refine w_and ?_) | (with_reducible refine w_or ?_) | (with_reducible refine w_not ?_) | (with_reducible refine w_bq ?_) | (with_reducible refine w_B ?_) | (with_reducible refine w_test ?_) | (with_reducible refine w_andV ?_) | (with_reducible refine w_orV ?_) | (with_reducible refine w_notV ?_)
  | (with_reducible refine w_chain ?_) | (with_reducible refine w_rI0 ?_) | (with_reducible refine w_rU ?_) | (with_reducible refine w_ipI ?_)
  | (with_reducible refine w_eqI ?_) | (with_reducible refine w_neI ?_) | (with_reducible refine w_eqS ?_) | (with_reducible refine w_neS ?_) | (with_reducible refine w_eqB ?_) | (with_reducible refine w_neB ?_) | (with_reducible refine w_isNr ?_) | (with_reducible refine w_isNn ?_)
  | (with_reducible refine w_sl ?_) | (with_reducible refine w_noPart ?_) | (with_reducible refine w_part ?_) | (with_reducible refine w_pq ?_) | (with_reducible refine w_revL ?_) | (with_reducible refine w_revS ?_)
  | (with_reducible refine w_cb ?_) | (with_reducible refine w_min2 ?_) | (with_reducible refine w_max2 ?_) | (with_reducible refine w_intB ?_)
  | (with_reducible refine w_fn ?_) | (with_reducible refine w_me ?_) | (with_reducible refine w_pr ?_) | (with_reducible refine w_mk ?_) | (with_reducible refine w_fld ?_)
  | (with_reducible refine w_isi_ii ?_) | (with_reducible refine w_isi_ib ?_) | (with_reducible refine w_isi_ss ?_)
  | ((with_reducible refine' w_isi_ll ?wh ?_); (case wh => walk_at "lk"))
  | ((with_reducible refine' w_isi_own ?wh ?wq); (case wh => walk_at "isx"))
  | ((with_reducible refine' w_lenL ?wh ?_); (case wh => walk_at "lk")) | ((with_reducible refine' w_ixL ?wh ?wi ?_); (case wh => walk_at "lk"); (case wi => first | assumption | exact rfl)) | ((with_reducible refine' w_ixT ?wh ?wi ?_); (case wh => walk_at "lk"); (case wi => first | assumption | exact rfl))
  | ((with_reducible refine' w_slL ?wh ?_); (case wh => walk_at "lk")) | ((with_reducible refine' w_rvq ?wh ?_); (case wh => walk_at "lk")) | ((with_reducible refine' w_listO ?wh ?_); (case wh => walk_at "lk")) | ((with_reducible refine' w_starL ?wh ?_); (case wh => walk_at "lk"))
  | ((with_reducible refine' w_fq ?wh ?wc ?wn ?wl ?_); (case wh => walk_at "lk"); (case wc => walk_at "sd"); (case wn => walk_at "sd"); (case wl => exact rfl))
  | ((with_reducible refine' w_sum ?wh ?_); (case wh => walk_at "lk"))
  | ((with_reducible refine' w_all ?wh ?_); (case wh => walk_at "lk"))
  | (with_reducible refine w_forL ?_) | ((with_reducible refine' w_forLq ?wh ?_); (case wh => walk_at "lk")) | (with_reducible refine w_forS ?_) | (with_reducible refine w_forSq ?_) | (with_reducible refine w_forR1 ?_) | ((with_reducible refine' w_forR1q ?wh ?_); (case wh => omega)) | (with_reducible refine w_forR2 ?_) | ((with_reducible refine' w_forR2q ?wh ?_); (case wh => omega)) | (with_reducible refine w_forE ?_) | ((with_reducible refine' w_forEq ?wh ?_); (case wh => walk_at "lk"))
  | (with_reducible refine w_lcL ?_) | ((with_reducible refine' w_lcLq ?wh ?_); (case wh => walk_at "lk")) | (with_reducible refine w_lcS ?_) | (with_reducible refine w_lcSq ?_) | (with_reducible refine w_lcR2 ?_) | ((with_reducible refine' w_lcR2q ?wh ?_); (case wh => omega))
  | (with_reducible refine w_bm ?_) | ((with_reducible refine' w_bmq ?wh ?_); (case wh => walk_at "lk")) | (with_reducible refine w_bm0 ?_) | ((with_reducible refine' w_bm0q ?wh ?_); (case wh => walk_at "lk"))
  | ((with_reducible refine' w_getL ?wh ?wi ?_); (case wh => walk_at "lk"); (case wi => first | assumption | exact rfl)) | (with_reducible refine w_gSub ?_) | (with_reducible refine w_augS ?_)
  | ((with_reducible refine' w_gTup ?wh ?wl ?_); (case wh => walk_at "lk"); (case wl => exact rfl)) | (with_reducible refine w_gCons ?_) | (with_reducible refine w_gNil ?_)
  | (with_reducible refine w_parT ?_) | (with_reducible refine w_parq ?_) | (with_reducible refine w_par3T ?_) | (with_reducible refine w_par3q ?_) | (with_reducible refine w_sfld ?_) | (with_reducible refine w_ob ?_) | (with_reducible refine w_obq ?_)
  | ((with_reducible refine' w_sfq ?wh ?wc ?wn ?wl ?wq); (case wh => walk_at "lk"); (case wc => walk_at "sd"); (case wn => walk_at "sd"); (case wl => exact Nat.le_of_ble_eq_true rfl))
  | ((with_reducible refine' w_rI ?wh ?wq); (case wh => first | decide | exact ⟨by decide, by decide⟩)) | (with_reducible refine w_pairsC ?_) | (with_reducible refine w_pairsN ?_) | ((with_reducible refine' w_cat ?wh ?wk ?wl ?wq); (case wh => walk_at "lk"); (case wk => walk_at "lk"); (case wl => walk_at "sz"))
  | ((with_reducible refine' w_mqRow ?wh ?wl ?wk ?wq); (case wh => walk_at "rw"); (case wl => exact rfl); (case wk => exact rfl))
  | ((with_reducible refine' w_mq ?wh ?wl ?wq); (case wh => walk_at "lk"); (case wl => exact rfl))
  | ((with_reducible refine' w_wipe ?wh ?wq); (case wh => exact rfl)) | (with_reducible refine w_yesT ?_)
  | (with_reducible refine w_isNumber ?_) | (with_reducible refine w_isCount ?_) | (with_reducible refine w_isColour ?_) | (with_reducible refine w_checkGame ?_) | (with_reducible refine w_checkGoal ?_) | (with_reducible refine w_checkWords ?_)
  | (with_reducible refine iteT ?_) | (with_reducible refine iteF ?_) | ((with_reducible refine' w_yes ?wh ?_); (case wh => exact rfl)) | ((with_reducible refine' w_no ?wh ?_); (case wh => exact rfl)))
local macro_rules | `(tactic| walk_at "sz") => `(tactic| first | (refine sz_le ?_; first | assumption | (simp only [List.length_map, List.length_append, List.length_cons, List.length_nil]; omega) | omega) | (refine sz_lt ?_; first | assumption | (simp only [List.length_map, List.length_append, List.length_cons, List.length_nil]; omega) | omega))
local macro_rules | `(tactic| walk_at "go") => `(tactic| repeat (walk_at "w"))
local macro_rules | `(tactic| walk_at "bt") => `(tactic| first | exact rfl | assumption | (simp [*]; done) | (simp; omega) | (simp [*]; omega))
local macro_rules | `(tactic| walk_at "yes") => `(tactic| ((with_reducible refine' w_yes ?wh ?wq); (case wh => walk_at "bt"); walk_at "go"))
local macro_rules | `(tactic| walk_at "no") => `(tactic| ((with_reducible refine' w_no ?wh ?wq); (case wh => walk_at "bt"); walk_at "go"))
local macro_rules | `(tactic| walk_at "st") => `(tactic| ((try dsimp only [L2.cxOf, L2.Cx.nox, L2.Cx.wish]); walk_at "go"))
local macro_rules | `(tactic| walk_at "rw") => `(tactic| first | assumption | ((with_reducible refine' IsRow.rw ?wk); (case wk => walk_at "rw")) | ((with_reducible refine' IsRw.ex (by assumption) ?wk); (case wk => walk_at "rw")) | ((with_reducible refine' IsRow.ex (by assumption) ?wk); (case wk => walk_at "rw")))
local macro_rules | `(tactic| walk_at "ro") => `(tactic| first | assumption | ((with_reducible refine' IsRow.ex (by assumption) ?wk); (case wk => walk_at "ro")))
local macro_rules | `(tactic| walk_at "fl") => `(tactic| first | assumption | ((with_reducible refine' IsFlip.ex (by assumption) ?wk); (case wk => walk_at "fl")))
local macro_rules | `(tactic| walk_at "w") => `(tactic| first
  | ((with_reducible refine' w_first ?wh ?wq); (case wh => walk_at "rw")) | ((with_reducible refine' w_runs ?wh ?wq); (case wh => walk_at "rw")) | ((with_reducible refine' w_length ?wh ?wq); (case wh => walk_at "rw")) | ((with_reducible refine' w_lengths ?wh ?wq); (case wh => walk_at "rw")))
local macro_rules | `(tactic| walk_at "w") => `(tactic| first
  | ((with_reducible refine' w_start ?wh ?wq); (case wh => walk_at "fl")) | ((with_reducible refine' w_end ?wh ?wq); (case wh => walk_at "fl")))
local macro_rules | `(tactic| walk_at "w") => `(tactic| first | (with_reducible refine w_dget ?_))
def wordsC (n z : Nat) : List Wd := (wordsL n).filter fun w => decide (zer w = z)
theorem canS (w : Wd) (h : w.length ≤ 7) : PyData.canLay0 (.str (sT w)) = true := all7 (p := fun w => PyData.canLay0 (.str (sT w))) (by decide +kernel) w h
theorem nd_words (n : Nat) (h : n ≤ 7) : (wordsL n).Nodup := by
  have : ((List.range 8).all fun n => decide (wordsL n).Nodup) = true := by decide +kernel
  exact of_decide_eq_true (List.all_eq_true.mp this n (List.mem_range.mpr (by omega)))
theorem wordsC_mem {n z : Nat} {w : Wd} : w ∈ wordsC n z ↔ InC n z w := by
  unfold wordsC InC
  rw [List.mem_filter, decide_eq_true_eq]
  exact ⟨fun h => ⟨wordsL_mem n w h.1, h.2⟩, fun h => ⟨mem_wordsL n w h.1, h.2⟩⟩
theorem paired_mapl {α β γ : Type} {R : α → β → Prop} {f : γ → α} : ∀ {l : List γ} {r : List β}, Paired R (l.map f) r → Paired (fun x y => R (f x) y) l r
  | [], _, .nil => .nil
  | _ :: _, _, .cons a b => .cons a (paired_mapl b)
theorem paired_filter {α : Type} {R : α → V → Prop} {c : α → Bool} : ∀ (l : List α) (f : Nat → Bool), (∀ i x, l[i]? = some x → f i = c x) → ∀ {ys : List V}, Paired (fun i y => ∃ x, l[i]? = some x ∧ R x y) ((List.range l.length).filter f) ys → Paired R (l.filter c) ys
  | [], f, hf, ys, h => by
    have : ys = [] := by cases h; rfl
    subst this
    exact .nil
  | x :: l, f, hf, ys, h => by
    rw [List.length_cons, List.range_succ_eq_map, List.filter_cons, List.filter_map] at h
    have h0 := hf 0 x rfl
    have ih := fun (ys : List V) => @paired_filter α R c l (fun i => f (i + 1)) (fun i y hy => hf (i + 1) y hy) ys
    cases hc : c x with
    | true =>
      rw [h0, hc] at h
      rw [List.filter_cons, hc]
      cases h with
      | cons a b =>
        obtain ⟨y, hy, ry⟩ := a
        cases hy
        exact (.cons ry (ih _ (paired_mono (fun _ _ k => k) (paired_mapl b))))
    | false =>
      rw [h0, hc] at h
      rw [List.filter_cons, hc]
      exact ih _ (paired_mono (fun _ _ k => k) (paired_mapl h))
theorem paired_refs {α : Type} {R : α → Addr → Prop} : ∀ {l : List α} {ys : List V}, Paired (fun x y => ∃ p, y = V.ref p ∧ R x p) l ys → ∃ ps, ys = ps.map V.ref ∧ Paired (fun p x => R x p) ps l
  | _, _, .nil => ⟨[], rfl, .nil⟩
  | _, _, .cons ⟨p, hp, rp⟩ b => by
    obtain ⟨ps, rfl, k⟩ := paired_refs b
    exact ⟨p :: ps, by rw [hp]; rfl, .cons rp k⟩
theorem paired_mapr {α β γ : Type} {R : α → β → Prop} {f : γ → β} : ∀ {l : List α} {r : List γ}, Paired (fun x y => R x (f y)) l r → Paired R l (r.map f)
  | _, _, .nil => .nil
  | _, _, .cons a b => .cons a (paired_mapr b)
theorem merge_new : ∀ (more ks : List (Wd × Nat)), ((ks ++ more).map Prod.fst).Nodup → mergeK (kvO ks) (kvO more) = kvO (ks ++ more)
  | [], ks, _ => by rw [List.append_nil]; rfl
  | p :: more, ks, h => by
    have h1 : p.1 ∉ ks.map Prod.fst := fun hp => by
      rw [List.map_append, List.nodup_append] at h
      exact h.2.2 _ hp _ (List.mem_map.mpr ⟨p, List.mem_cons_self, rfl⟩) rfl
    have h2 := merge_new more (ks ++ [p]) (by rw [List.append_assoc]; exact h)
    rw [List.append_assoc] at h2
    show mergeK (putK (kvO ks) (Sum.inr (sT p.1)) (V.int p.2)) (kvO more) = _
    rw [putK_new _ (valV_none h1)]
    have h3 : kvO ks ++ [((Sum.inr (sT p.1) : Key), V.int p.2)] = kvO (ks ++ [p]) := by
      unfold kvO
      rw [List.map_append]
      rfl
    rw [h3]
    exact h2
def ks0 (o : Go) (n z : Nat) : List (Wd × Nat) := ((wordsC n z).filter (doneB o)).map fun w => (w, 0)
theorem ks0_fst (o : Go) (n z : Nat) : (ks0 o n z).map Prod.fst = (wordsC n z).filter (doneB o) := by
  unfold ks0
  rw [List.map_map]
  exact List.map_id _
theorem lev0 (g : Gm) (o : Go) (n z : Nat) (zn : n ≤ 7) : Lev n z 0 g o (ks0 o n z) ((wordsC n z).filter (doneB o)) := by
  have iff0 : ∀ w, InC n z w → (doneB o w = true ↔ costN g o w = 0) := fun w hw => by
    have h7 : w.length ≤ 7 := by have := hw.1; omega
    rw [done_cost g o w h7, decide_eq_true_eq, (cost_nn g o w h7).1]
    omega
  have mm : ∀ w, w ∈ (wordsC n z).filter (doneB o) ↔ InC n z w ∧ costN g o w = 0 := fun w => by
    rw [List.mem_filter, wordsC_mem]
    exact ⟨fun h => ⟨h.1, (iff0 w h.1).mp h.2⟩, fun h => ⟨h.1, (iff0 w h.1).mpr h.2⟩⟩
  have mk : ∀ p ∈ ks0 o n z, InC n z p.1 ∧ p.2 = costN g o p.1 ∧ p.2 ≤ 0 := fun p hp => by
    obtain ⟨w, hw, rfl⟩ := List.mem_map.mp hp
    have := (mm w).mp hw
    exact ⟨this.1, this.2.symm, Nat.le_refl _⟩
  refine ⟨⟨fun p hp => ⟨(mk p hp).1, (mk p hp).2.1, by have := (mk p hp).2.2; omega⟩, fun w hw e => ?_, ?_⟩, fun p hp => (mk p hp).2.2, ?_, fun w hw => (mm w).mp hw, fun w hw e => (mm w).mpr ⟨hw, e⟩⟩
  · rw [ks0_fst]
    exact (mm w).mpr ⟨hw, by omega⟩
  · rw [ks0_fst]
    exact ((nd_words n zn).filter _).filter _
  · unfold ks0
    rw [List.length_map]
    exact Nat.le_refl _
theorem wordsC_len {n z : Nat} (h : n ≤ 7) : (wordsC n z).length ≤ 128 := by
  have h1 := List.length_filter_le (fun w => decide (zer w = z)) (wordsL n)
  rw [wordsL_len] at h1
  have := Nat.pow_le_pow_right (n := 2) (by decide) h
  unfold wordsC
  omega
theorem dpAll_wd {K : PySem.W.Frag} {H : Hp} : ∀ l : List Wd, DpAll K H (l.map fun w => V.str (sT w)) (l.map fun w => PyData.str (sT w))
  | [] => .nil
  | i :: l => .cons (.str _) (dpAll_wd l)
theorem fl_strs (l : List Wd) (h : ∀ w ∈ l, w.length ≤ 7) : Fl 2 (.list (l.map fun w => PyData.str (sT w))) := fl_list fun d hd => by
  obtain ⟨i, hi, rfl⟩ := List.mem_map.mp hd
  exact fl_str (canS i (h i hi))
theorem w_neNilS {K : PySem.W.Frag} {H : Hp} {Q : VK} {a b : Addr} {l : List Wd} (hl : ∀ w ∈ l, w.length ≤ 7) (h1 : SqL K H a (l.map fun w => V.str (sT w))) (h2 : SqL K H b []) (q : Q (.bl (!l.isEmpty)) H) : rNeD K (.ref a) (.ref b) H Q :=
  w_neD (.lst h1 (dpAll_wd l)) (dp_nil h2) (fl_strs l hl) fl_nil (by rw [eqv_nil]; cases l <;> exact q)
theorem w_dictP {K : PySem.W.Frag} {H : Hp} {Q : VK} {a : Addr} {ps : List Addr} {kvs : List (Key × V)} (h : SqL K H a (ps.map V.ref)) (k : Paired (fun p (kv : Key × V) => SqT K H p [kV kv.1, kv.2]) ps kvs) (q : NewQ (.dK (mergeK [] kvs)) Q H) : rDictP K [.ref a] H Q := ⟨a, ps, kvs, rfl, h, k, q⟩
theorem w_dnin {td ty : TE} {σ : L2.St} {H : Hp} {Q : VK} (q : ty σ H fun y H1 => td σ H1 fun x H2 => ∃ a o, x = .ref a ∧ DGet H2 a y o ∧ Q (.bl (!o.isSome)) H2) : tDNotIn ty td σ H Q := q
theorem w_setD {H : Hp} {a : Addr} {kvs : List (Key × V)} {y : Str} {v : V} {q : Hp → Prop} (h : H a = some (.dK kvs)) (hz : kvs.length < sizeLine) (hq : ∀ H2, Mu a H H2 → H2 a = some (.dK (putK kvs (.inr y) v)) → q H2) : rSetD (.ref a) (.str y) v H q :=
  ⟨a, _, rfl, DPut.k (k := .inr y) h hz, hq _ mu_upd upd_same⟩
def LvW (H : Hp) (a kd : Addr) (n z : Nat) (g : Gm) (o : Go) (m : Nat) (σ' : L2.St) (H' : Hp) : Prop := ∃ k ks li LI x4 x6 x7 x8 x9, m + k = 10 ∧ σ' = [some (.ref a), some (.str g.s), some (.str o.s), some (.ref kd), x4, some (.ref LI), x6, x7, x8, x9] ∧ Ex H H' ∧ H' kd = some (.dK (kvO ks)) ∧ H' LI = some (.lst (li.map fun w => V.str (sT w))) ∧ Lev n z k g o ks li
def spLevels : Sp := fun vs H Q _ => ∃ (a : Addr) (n z : Nat) (g : Gm) (o : Go), vs = [.ref a, .str g.s, .str o.s] ∧ n ≤ 7 ∧ H a = some (.lst ((wordsC n z).map fun w => V.str (sT w))) ∧ ∀ kd H', Ex H H' → H kd = none → KnownAt n z g o H' kd → Q (.ref kd) H'
theorem sc_law_levels : FnScope ["_law_words_here", "_law_game", "_law_goal", "_law_known", "_law_word", "_law_line", "_law_later", "_law_start", "_law_end", "_law_other"] ["_law_words_here", "_law_game", "_law_goal"] (defScope (top 55)) := ⟨rfl, rfl, rfl, by decide +kernel, rfl, by decide +kernel, by decide +kernel⟩
theorem ok_law_levels {P : Program} {w : World} {K : PySem.W.Frag} {mg : Str → Option Value} {base : Heap} (T : Tx P K mg) : Ok P w K mg base 2 (He.ga K "_law_levels") (spLevels) := by
  refine ok_mk T.d_law_levels sc_law_levels (fun vs H Q E h => ?len) (fun _ _ _ _ _ _ us hl => match us, hl with | [_, _, _], _ => rfl) (fun cdv A outer s H vs Q E hr h => ⟨_, (pss_cons (ps_set (i := 3) sc_law_levels.nd rfl (.inl rfl) (pe_callTy (cq_dictP rfl) (by rfl) T.z_dict (by decide +kernel) (pa_cons (pe_lc (own := [("_law_word", 4)]) (by rfl) sc_law_levels.nd (pi_list (pv 0)) (blkOk_by (own := [("_law_word", 4)]) (N := ["_law_words_here", "_law_game", "_law_goal", "_law_known", "_law_word", "_law_line", "_law_later", "_law_start", "_law_end", "_law_other"]) (sc := defScope (top 55)) (by decide +kernel)) (fun _ _ _ _ _ => (pg_name (i := 4) sc_law_levels.nd rfl (Or.inl rfl))) (fun _ _ _ _ _ => (pts_one (pt_val (pe_fn (ok_law_is_done T) hr T.g_law_is_done (pa_cons (pv 4) (pa_cons (pv 2) pa_nil)))))) (fun _ _ _ _ _ => (pe_tup (pa_cons (pv 4) (pa_cons pe_int pa_nil))))) pa_nil))) (pss_cons (ps_set (i := 5) sc_law_levels.nd rfl (.inl rfl) (pe_callTy (call_list_dK rfl) (by rfl) T.z_list (by decide +kernel) (pa_cons (pv 3) pa_nil))) (pss_cons (ps_while PassesOwn.never (pt_cmpR (op_neD hr.units) (pv 5) (pe_lst pa_nil) (nomark _)) (pss_cons (ps_set (i := 6) sc_law_levels.nd rfl (.inl rfl) (pe_lst pa_nil)) (pss_cons (ps_for PassesOwn.never rfl (pi_list (pv 5)) (pg_name (i := 4) sc_law_levels.nd rfl (Or.inl rfl)) (pss_one (ps_for PassesOwn.never rfl (pi_list (pe_fn (ok_law_places T) hr T.g_law_places (pa_cons (pe_callB cq_lenT (by rfl) T.z_len (by decide +kernel) (pa_cons (pv 4) pa_nil)) (pa_cons (pv 1) pa_nil)))) (pg_tup rfl (pgs_cons (pg_name (i := 7) sc_law_levels.nd rfl (Or.inl rfl)) (pgs_cons (pg_name (i := 8) sc_law_levels.nd rfl (Or.inl rfl)) pgs_nil))) (pss_cons (ps_set (i := 9) sc_law_levels.nd rfl (.inl rfl) (pe_fn (ok_law_turn T) hr T.g_law_turn (pa_cons (pv 4) (pa_cons (pv 7) (pa_cons (pv 8) pa_nil))))) (pss_one (ps_if (pt_cmp (pc_dnotin (hu_of hr) (pv 9) (pv 3))) (pss_cons (ps_asg (pe_op op_add (pe_dget (hu_of hr) (pv 3) (pv 4) (fun _ _ => rfl)) pe_int) (pg_sub (pv 3) (pv 9) (set_dict (hu_of hr)))) (pss_one (ps_expr (pe_bm PySem.F.plainAttrs_list PySem.F.slot_list_append PySem.F.type_list_append mt_append (pv 6) (pa_cons (pv 9) pa_nil))))) pss_nil)))))) (pss_one (ps_set (i := 5) sc_law_levels.nd rfl (.inl rfl) (pv 6)))))) (pss_one (ps_ret (pv 3)))))), ?body⟩)
  case len => obtain ⟨a, n, z, g, o, rfl, _⟩ := h; rfl
  case body =>
    obtain ⟨a, n, z, g, o, rfl, zn, ha, q⟩ := h
    walk_at "st"
    have hlc := wordsC_len (z := z) zn
    refine w_lcW (walk_list (xs := (wordsC n z).map fun w => V.str (sT w))) (fun i => ((wordsC n z)[i]?.map (doneB o)).getD false) (fun i y H' => ∃ x, (wordsC n z)[i]? = some x ∧ ∃ p, y = V.ref p ∧ H' p = some (.tup [.str (sT x), .int 0])) (by rw [List.length_map]; omega) (fun _ _ _ _ y => y.1) (fun _ _ _ _ e ⟨x, hx, p, hy, hp⟩ => ⟨x, hx, p, hy, e _ _ hp⟩)
      (fun _ _ H1 D1 l1 l2 hD ⟨x, hx, p, hy, hp⟩ => ⟨x, hx, p, hy, mu_at (mu_upd (a := D1) (H := H1)) hp (ne_of hp hD (by intro z; cases z))⟩) (fun H' e => ex_l e (sl_of ha)) (fun j y H1 hj e1 hy QE k h1 h2 => ?_) (fun D1 H1 ys e1 nD1 hD1 pr1 => ?_)
    · replace hy := hy.2
      rw [List.getElem?_map] at hy
      obtain ⟨x, hx, hxy⟩ := Option.map_eq_some_iff.mp hy
      subst hxy
      have zl := (wordsC_mem.mp (List.mem_of_getElem? hx)).1
      walk_at "go"
      refine ⟨x, o, rfl, by omega, fun H2 e2 => ?_⟩
      have hf : ((wordsC n z)[j]?.map (doneB o)).getD false = doneB o x := by rw [hx]; rfl
      cases hd : doneB o x with
      | true =>
        walk_at "go"
        refine w_newA (by show (2 : Nat) ≤ sizeLine; decide) fun p H3 e3 n3 h3 => ?_
        exact h1 (hf.trans hd) _ _ (e2.trans e3) ⟨x, hx, p, rfl, h3⟩
      | false =>
        walk_at "go"
        exact h2 (hf.trans hd) _ e2
    rw [List.length_map] at pr1
    have pr2 := paired_filter (c := doneB o) (R := fun x y => ∃ p, y = V.ref p ∧ H1 p = some (.tup [.str (sT x), .int 0])) (wordsC n z) _ (fun i x hx => by rw [hx]; rfl) pr1
    obtain ⟨ps, rfl, pr3⟩ := paired_refs (R := fun x p => H1 p = some (.tup [.str (sT x), .int 0])) pr2
    walk_at "go"
    refine w_dictP (kvs := kvO (ks0 o n z)) (sl_of hD1) ?_ ?_
    · unfold kvO ks0
      rw [List.map_map]
      exact paired_mapr (paired_mono (fun p x h => st_of h) pr3)
    rw [show mergeK [] (kvO (ks0 o n z)) = kvO (ks0 o n z) from merge_new (ks0 o n z) [] (lev0 g o n z zn).kn.nd]
    refine w_new fun kd H2 e2 n2 h2 => ?_
    walk_at "go"
    refine w_listD h2 ?_
    refine w_new fun LI H3 e3 n3 h3 => ?_
    have nkd : H kd = none := fr_back e1 n2
    walk_at "go"
    refine ⟨LvW H a kd n z g o, ⟨10, 0, ks0 o n z, _, LI, _, _, _, _, _, rfl, rfl, (e1.trans e2).trans e3, e3 _ _ h2, ?_, lev0 g o n z zn⟩, ?_⟩
    · rw [h3]
      unfold kvO ks0
      rw [List.map_map, List.map_map]
      rfl
    rintro m σ' H' ⟨k, ks, li, LI, x4, x6, x7, x8, x9, hmk, rfl, e5, h5, h6, lev⟩
    have l7 : ∀ w ∈ li, w.length ≤ 7 := fun w hw => by have := (lev.mem w hw).1.1; omega
    walk_at "go"
    refine w_newA (by show (0 : Nat) ≤ sizeLine; decide) fun N0 H6 e6 n6 hN => ?_
    walk_at "go"
    refine w_neNilS l7 (sl_of (e6 _ _ h6)) (sl_of hN) ?_
    walk_at "go"
    by_cases hli : li = []
    · subst hli
      rw [if_neg (by decide)]
      walk_at "go"
      exact q kd H6 (e5.trans e6) nkd (lev.known zn (e6 _ _ h5))
    rw [if_pos (by cases li <;> simp_all)]
    have hk9 : k ≤ 8 := by
      obtain ⟨w0, hw0⟩ := List.exists_mem_of_ne_nil _ hli
      have := (lev.mem w0 hw0).2
      have := (cost_nn g o w0 (l7 _ hw0)).2
      omega
    refine ⟨LvW H a kd n z g o (m - 1), fun σ2 H2 h => ⟨m - 1, by omega, h⟩, ?_⟩
    walk_at "go"
    refine w_newA (by show (0 : Nat) ≤ sizeLine; decide) fun L H7 e7 n7 hL => ?_
    have f6 := e7 _ _ (e6 _ _ h6)
    have f5 := e7 _ _ (e6 _ _ h5)
    have nL : H L = none := fr_back e5 (fr_back e6 n7)
    have neLI : LI ∉ [kd, L] := fun hm => by
      rcases List.mem_cons.mp hm with e | hm
      · exact ne_of f6 f5 (by intro z; cases z) e
      · rw [List.mem_singleton.mp hm] at h6
        rw [e6 _ _ h6] at n7
        cases n7
    walk_at "go"
    refine w_forW (walk_list (xs := li.map fun w => V.str (sT w))) (fun i σ3 H3 => ∃ ks la x4 x7 x8 x9, σ3 = [some (.ref a), some (.str g.s), some (.str o.s), some (.ref kd), x4, some (.ref LI), some (.ref L), x7, x8, x9] ∧ MS [kd, L] H7 H3 ∧ H3 kd = some (.dK (kvO ks)) ∧ H3 L = some (.lst (la.map fun w => V.str (sT w))) ∧ Mid n z k g o ks la ∧
      ∀ j < i, ∀ w, li[j]? = some w → ∀ p ∈ placesW n g, turnP w p ∈ ks.map Prod.fst) ?i0 ?iG ?is ?id
    case i0 => exact ⟨ks, [], _, _, _, _, rfl, MS.refl, f5, hL, lev.mid, fun j hj => (Nat.not_lt_zero j hj).elim⟩
    case iG =>
      rintro i σ3 H3 hi ⟨ks, la, x4, x7, x8, x9, rfl, m3, h8, h9, mid, hs⟩
      exact sl_of (ms_at m3 f6 neLI)
    case is =>
      rintro i x σ3 H3 H3' hi ⟨ks, la, x4, x7, x8, x9, rfl, m3, h8, h9, mid, hs⟩ ⟨rfl, hy⟩
      rw [List.getElem?_map] at hy
      obtain ⟨w, hw, hxy⟩ := Option.map_eq_some_iff.mp hy
      subst hxy
      have hwm := lev.mem w (List.mem_of_getElem? hw)
      have hw7 := l7 w (List.mem_of_getElem? hw)
      have zs : (sT w).length = w.length := tx_len w
      have zw : w.length = n := hwm.1.1
      walk_at "go"
      refine w_lenS (sz_le (by omega)) ?_
      walk_at "go"
      refine ⟨n, g, by rw [zs, zw], zn, fun PL ts H8 e8 n8 hP kP => ?_⟩
      have neP : ∀ {t : Addr} {xs : List V}, H8 t = some (.tup xs) → t ∉ [kd, L] := fun ht hm => by
        rcases List.mem_cons.mp hm with e | hm
        · exact ne_of ht (e8 _ _ h8) (by intro z; cases z) e
        · exact ne_of ht (e8 _ _ h9) (by intro z; cases z) (List.mem_singleton.mp hm)
      have nePL : PL ∉ [kd, L] := fun hm => by
        rcases List.mem_cons.mp hm with e | hm
        · rw [e, h8] at n8
          cases n8
        · rw [List.mem_singleton.mp hm, h9] at n8
          cases n8
      have lts : ts.length = (placesW n g).length := paired_len kP
      have lpw : (placesW n g).length ≤ 100 := of_decide_eq_true (List.all_eq_true.mp (show ((List.range 8).all fun n => decide ((placesW n g).length ≤ 100)) = true by cases g <;> decide +kernel) n (List.mem_range.mpr (by omega)))
      refine w_forLq (sl_of hP) ?_
      refine w_forW (walk_list (xs := ts.map V.ref)) (fun j σ4 H4 => ∃ ks2 la x7 x8 x9, σ4 = [some (.ref a), some (.str g.s), some (.str o.s), some (.ref kd), some (.str (sT w)), some (.ref LI), some (.ref L), x7, x8, x9] ∧ MS [kd, L] H8 H4 ∧ H4 kd = some (.dK (kvO ks2)) ∧ H4 L = some (.lst (la.map fun w => V.str (sT w))) ∧ Mid n z k g o ks2 la ∧
        (∀ v, v ∈ ks.map Prod.fst → v ∈ ks2.map Prod.fst) ∧ ∀ i < j, ∀ p, (placesW n g)[i]? = some p → turnP w p ∈ ks2.map Prod.fst) ?j0 ?jG ?js ?jd
      case j0 => exact ⟨ks, la, _, _, _, rfl, MS.refl, e8 _ _ h8, e8 _ _ h9, mid, fun _ h => h, fun j hj => (Nat.not_lt_zero j hj).elim⟩
      case jG =>
        rintro j σ4 H4 hj ⟨ks2, la, x7, x8, x9, rfl, m4, h10, h11, mid2, inc, hs2⟩
        exact sl_of (ms_at m4 hP nePL)
      case js =>
        rintro j y σ4 H4 H4' hj ⟨ks2, la, x7, x8, x9, rfl, m4, h10, h11, mid2, inc, hs2⟩ ⟨rfl, hy⟩
        rw [List.getElem?_map] at hy
        obtain ⟨t, ht, hty⟩ := Option.map_eq_some_iff.mp hy
        subst hty
        have hjl : j < (placesW n g).length := by
          rw [List.length_map] at hj
          omega
        have hp := List.getElem?_eq_getElem hjl
        generalize (placesW n g)[j] = p at hp
        have hpm := List.mem_of_getElem? hp
        have h8t := paired_at kP j t p ht hp
        have h4t := ms_at m4 h8t (neP h8t)
        have ta := turn_all g w hw7 p (by rw [zw]; exact hpm)
        refine w_gTup (st_of h4t) rfl ?_
        walk_at "go"
        refine w_lturn hw7 (by omega) ta.2.2.2.2 ?_
        walk_at "go"
        refine w_dnin ?_
        walk_at "go"
        by_cases hin : turnP w p ∈ ks2.map Prod.fst
        · refine ⟨kd, _, rfl, DGet.k (k := .inr (sT (turnP w p))) h10, ?_⟩
          rw [valV_some hin (c := costN g o (turnP w p)) fun q hq e => by rw [(mid2.kn.ok q hq).2.1, e]]
          walk_at "go"
          refine ⟨ks2, la, _, _, _, rfl, m4, h10, h11, mid2, inc, fun i hi q hq => ?_⟩
          by_cases hij : i = j
          · subst hij
            rw [hp] at hq
            cases hq
            exact hin
          · exact hs2 i (by omega) q hq
        · refine ⟨kd, _, rfl, DGet.k (k := .inr (sT (turnP w p))) h10, ?_⟩
          rw [valV_none hin]
          have hwin : w ∈ ks2.map Prod.fst := mid2.kn.low w hwm.1 (by rw [hwm.2]; exact Nat.le_refl _)
          have hval := valV_some hwin (c := k) fun q hq e => by rw [(mid2.kn.ok q hq).2.1, e, hwm.2]
          have zk := mid2.kn.len zn
          have zl := mid2.ll
          have mid3 := mid2.add zn hwm.1 hwm.2 hpm hin
          walk_at "go"
          refine ⟨kd, _, rfl, hval ▸ DGet.k (k := .inr (sT w)) h10, ?_⟩
          walk_at "go"
          refine w_setD h10 (sz_lt (by unfold kvO; rw [List.length_map]; omega)) fun H9 m9 h12 => ?_
          rw [show turnW w p.1 p.2 = turnP w p from rfl, putK_new _ (valV_none hin)] at h12
          have h13 := mu_at m9 h11 (ne_of h11 h10 (by intro z; cases z))
          walk_at "go"
          refine w_apq h13 (by rw [List.length_map]; omega) fun H10 m10 h14 => ?_
          have h15 := mu_at m10 h12 (ne_of h12 h13 (by intro z; cases z))
          walk_at "go"
          refine ⟨ks2 ++ [(turnP w p, k + 1)], la ++ [turnP w p], _, _, _, rfl, (m4.trans (MS.ofMu m9 List.mem_cons_self)).trans (MS.ofMu m10 (List.mem_cons_of_mem _ (List.mem_singleton.mpr rfl))), ?_, ?_, mid3, fun v hv => by rw [List.map_append]; exact List.mem_append_left _ (inc v hv), fun i hi q hq => ?_⟩
          · rw [h15]
            unfold kvO
            rw [List.map_append]
            rfl
          · rw [h14, List.map_append]
            rfl
          · rw [List.map_append]
            by_cases hij : i = j
            · subst hij
              rw [hp] at hq
              cases hq
              exact List.mem_append_right _ (List.mem_singleton.mpr rfl)
            · exact List.mem_append_left _ (hs2 i (by omega) q hq)
      case jd =>
        rintro σ4 H4 ⟨ks2, la, x7, x8, x9, rfl, m4, h10, h11, mid2, inc, hs2⟩
        refine ⟨ks2, la, _, _, _, _, rfl, (m3.trans (MS.ofEx e8)).trans m4, h10, h11, mid2, fun j hj v hv q hq => ?_⟩
        by_cases hij : j = i
        · subst hij
          rw [hw] at hv
          cases hv
          obtain ⟨j2, hj2, hjw⟩ := List.mem_iff_getElem.mp hq
          exact hs2 j2 (by rw [List.length_map, lts]; exact hj2) q (by rw [List.getElem?_eq_getElem hj2, hjw])
        · exact inc _ (hs j (by omega) v hv q hq)
    case id =>
      rintro σ3 H3 ⟨ks', la, x4, x7, x8, x9, rfl, m3, h8, h9, mid, hs⟩
      walk_at "go"
      have e3 := m3 H ((e5.trans e6).trans e7) (fun l hl => by
        rcases List.mem_cons.mp hl with rfl | hl
        · exact nkd
        · rw [List.mem_singleton.mp hl]
          exact nL)
      refine ⟨k + 1, ks', la, L, _, _, _, _, _, by omega, rfl, e3, h8, h9, mid.lev lev zn fun w hw p hp => ?_⟩
      obtain ⟨j, hj, hjw⟩ := List.mem_iff_getElem.mp hw
      exact hs j (by rw [List.length_map]; exact hj) w (by rw [List.getElem?_eq_getElem hj, hjw]) p hp
end Tcf

set_option Elab.async false
set_option linter.all false
set_option maxRecDepth 100000
set_option maxHeartbeats 4000000
/-! RU8: a call leaves lists alone that it is not told of (the frame rule). Own text. -/
namespace Tcf
open PySem PySem.Spec PyProof.Rows L2
/-- the heap without the lists at S -/
def cutH (S : List Addr) (H : Hp) : Hp := fun a => if a ∈ S then none else H a
/-- .. with them again -/
def joinH (S : List Addr) (H G : Hp) : Hp := fun a => if a ∈ S then H a else G a
def Lsts (S : List Addr) (H : Hp) : Prop := ∀ l ∈ S, ∃ xs, H l = some (.lst xs)
/-- a promise that is not told of the lists at some S -/
def Frx (sp : Sp) : Sp := fun vs H Q E => ∃ S, Lsts S H ∧ sp vs (cutH S H) (fun v G => (∀ l ∈ S, G l = none) → Q v (joinH S H G)) (fun C d G => (∀ l ∈ S, G l = none) → E C d (joinH S H G))
section
variable {S : List Addr} {H G G1 : Hp} {a : Addr} {o : HO} {P : Program} {w : World} {h h' : Heap} {fs : List Addr}
theorem cut_in (m : a ∈ S) : cutH S H a = none := if_pos m
theorem cut_out (m : a ∉ S) : cutH S H a = H a := if_neg m
theorem join_in (m : a ∈ S) : joinH S H G a = H a := if_pos m
theorem join_out (m : a ∉ S) : joinH S H G a = G a := if_neg m
theorem cut_none (e : H a = none) : cutH S H a = none := by
  unfold cutH
  split
  · rfl
  · exact e
theorem cut_some (e : cutH S H a = some o) : a ∉ S ∧ H a = some o := by
  unfold cutH at e
  split at e
  · cases e
  · exact ⟨by assumption, e⟩
theorem pair_mono8 {α β : Type} {R R' : α → β → Prop} (h : ∀ a b, R a b → R' a b) : ∀ {l : List α} {r : List β}, Paired R l r → Paired R' l r
  | _, _, .nil => .nil
  | _, _, .cons a b => .cons (h _ _ a) (pair_mono8 h b)
theorem objok_mono (e : ∀ b o, H b = some o → (∀ xs, o ≠ .lst xs) → G b = some o) : ∀ {o : HO}, ObjOk P w H h a o → ObjOk P w G h a o := fun {o} x => by
  induction o with
  | dT kvs =>
    obtain ⟨h1, h2, xs, hp, r⟩ := x
    exact ⟨h1, h2, xs, pair_mono8 (fun p q ⟨a1, a2, a3⟩ => ⟨a1, e _ _ a2 (fun _ z => by cases z), a3⟩) hp, r⟩
  | ins C dx fs =>
    obtain ⟨h1, r⟩ := x
    exact ⟨e _ _ h1 (fun _ z => by cases z), r⟩
  | frz ob u ih => exact ⟨x.1, ih x.2⟩
  | lst xs => exact x
  | tup xs => exact x
  | dK kvs => exact x
  | set S n => exact x
  | own y => exact x
  | xd fs => exact x
  | rng lo hi => exact x
  | tbl ps => exact x
  | met f y => exact x
  | ext φ => exact x
theorem hok_cut (L : Lsts S H) (k : HOk P w H h) : HOk P w (cutH S H) h := fun b o e => by
  obtain ⟨h1, h2⟩ := cut_some e
  refine objok_mono (H := H) (fun c oc hc nl => ?_) (k b o h2)
  rw [cut_out fun m => by
    obtain ⟨xs, hx⟩ := L c m
    rw [hc] at hx
    exact nl xs (Option.some.inj hx)]
  exact hc
theorem hok_join (k : HOk P w H h) (L : Lsts S H) (k2 : HOk P w G h') (hS : ∀ l ∈ S, G l = none) (kept : ∀ l ∈ S, ∀ o, h.get? l = some o → h'.get? l = some o) : HOk P w (joinH S H G) h' := fun b o e => by
  by_cases m : b ∈ S
  · rw [join_in m] at e
    obtain ⟨xs, hx⟩ := L b m
    rw [hx] at e
    cases e
    obtain ⟨h1, its, n, h2, h3⟩ := k b _ hx
    exact ⟨h1, its, n, h2, kept b m _ h3⟩
  · rw [join_out m] at e
    refine objok_mono (H := G) (fun c oc hc nl => ?_) (k2 b o e)
    rw [join_out fun m => by rw [hS c m] at hc; cases hc]
    exact hc
theorem join_none (L : Lsts S H) (hb : H a = none) (e : G a = none) : joinH S H G a = none := by
  rw [join_out fun m => by obtain ⟨xs, hx⟩ := L a m; rw [hb] at hx; cases hx]
  exact e
theorem un_join {B : Heap} (L : Lsts S H) (u : Un fs [] (cutH S H) G h h') : Un fs [] H (joinH S H G) h h' where
  keep b o e n f x := u.keep b o e (cut_none n) f x
  slot b o e n f x := u.slot b o e (cut_none n) f x
  free b o e n x := join_none L n (u.free b o e (cut_none n) x)
  there b o e x := u.there b o e x
  tups b xs e := by
    have m : b ∉ S := fun m => by obtain ⟨ys, hy⟩ := L b m; rw [e] at hy; cases hy
    rw [join_out m]
    exact u.tups b xs (by rw [cut_out m]; exact e)
  frzs b o v e := by
    have m : b ∉ S := fun m => by obtain ⟨ys, hy⟩ := L b m; rw [e] at hy; cases hy
    rw [join_out m]
    exact u.frzs b o v (by rw [cut_out m]; exact e)
  tbls b ps e := by
    have m : b ∉ S := fun m => by obtain ⟨ys, hy⟩ := L b m; rw [e] at hy; cases hy
    rw [join_out m]
    exact u.tbls b ps (by rw [cut_out m]; exact e)
theorem ub_join {B : Heap} (L : Lsts S H) (u : UB fs (cutH S H) G h B h') : UB fs H (joinH S H G) h B h' where
  keep b o e n f := u.keep b o e (cut_none n) f
  slot b o e f := u.slot b o e f
  free b o e n := join_none L n (u.free b o e (cut_none n))
  there b o e f := u.there b o e f
  tups b xs e := by
    have m : b ∉ S := fun m => by obtain ⟨ys, hy⟩ := L b m; rw [e] at hy; cases hy
    rw [join_out m]
    exact u.tups b xs (by rw [cut_out m]; exact e)
  frzs b o v e := by
    have m : b ∉ S := fun m => by obtain ⟨ys, hy⟩ := L b m; rw [e] at hy; cases hy
    rw [join_out m]
    exact u.frzs b o v (by rw [cut_out m]; exact e)
  tbls b ps e := by
    have m : b ∉ S := fun m => by obtain ⟨ys, hy⟩ := L b m; rw [e] at hy; cases hy
    rw [join_out m]
    exact u.tbls b ps (by rw [cut_out m]; exact e)
end
/-- THE FRAME RULE -/
theorem Ok.frm {P : Program} {w : World} {K : PySem.W.Frag} {mg : Str → Option Value} {base : Heap} {k : Nat} {f : Addr} {sp : Sp} (c : Ok P w K mg base k f sp) : Ok P w K mg base k f (Frx sp) := by
  obtain ⟨⟨fd, ps, F, B⟩, kp⟩ := c
  refine ⟨⟨fd, ps, ⟨fun vs H Q E ⟨S, _, h⟩ => F.len _ _ _ _ h, fun A outer s H args us vs Q E hr e0 hb hv ⟨S, L, h⟩ => ?_⟩, B⟩, kp⟩
  have e1 : Env0 P w K mg base A outer s (cutH S H) := ⟨e0.frames, e0.mod, fun b o e => ⟨(e0.bs b o e).1, cut_none (e0.bs b o e).2⟩, e0.bsz, e0.funs, fun b hb => cut_none (e0.frf b hb), hok_cut L e0.hok, e0.bare⟩
  have nf : ∀ l ∈ S, l ∉ frs outer := fun l m hf => by
    obtain ⟨xs, hx⟩ := L l m
    rw [e0.frf l hf] at hx
    cases hx
  have there : ∀ l ∈ S, ∃ o, s.heap.get? l = some o := fun l m => by
    obtain ⟨xs, hx⟩ := L l m
    obtain ⟨_, its, n, _, h3⟩ := e0.hok l _ hx
    exact ⟨_, h3⟩
  refine codeAny_mono (F.run A outer s (cutH S H) args us vs _ _ hr e1 hb hv h) fun r s' hq => ?_
  cases r with
  | error e =>
    obtain ⟨a, B, G, cls, d, rfl, fl, hok, ub, na, os, ag, hE⟩ := (show L2.CX P w outer (cutH S H) s _ e s' from hq)
    have hS : ∀ l ∈ S, G l = none := fun l m => by
      obtain ⟨o, ho⟩ := there l m
      exact ub.free l o ho (cut_in m)
    have kept : ∀ l ∈ S, ∀ o, s.heap.get? l = some o → B.get? l = some o := fun l m o ho => ub.keep l o ho (cut_in m) (nf l m)
    have aS : a ∉ S := fun m => by
      obtain ⟨o, ho⟩ := there a m
      have := kept a m o ho
      rw [fl.2.1] at this
      cases this
    exact ⟨a, B, joinH S H G, cls, d, rfl, fl, hok_join e0.hok L hok hS kept, ub_join L ub, by rw [join_out aS]; exact na, os, ag, hE hS⟩
  | ok fl =>
    cases fl with
    | ret u =>
      obtain ⟨v, G, os, ag, un, hok, rv, hQ⟩ := (show CE outer P w (cutH S H) s _ u s' from hq)
      have hS : ∀ l ∈ S, G l = none := fun l m => by
        obtain ⟨o, ho⟩ := there l m
        exact un.free l o ho (cut_in m) (List.not_mem_nil)
      have kept : ∀ l ∈ S, ∀ o, s.heap.get? l = some o → s'.heap.get? l = some o := fun l m o ho => un.keep l o ho (cut_in m) (nf l m) (List.not_mem_nil)
      exact ⟨v, joinH S H G, os, ag, un_join (B := s'.heap) L un, hok_join e0.hok L hok hS kept, rv, hQ hS⟩
    | next => exact hq
    | brk => exact hq
    | cont => exact hq
end Tcf

set_option Elab.async false
set_option linter.all false
set_option maxRecDepth 100000
set_option maxHeartbeats 4000000
/-! EH: the law's hint, its state (printed from EH.tmpl by gen_der.py). -/
namespace Tcf
open PySem PySem.Spec PyProof.Rows L2
open Evl (Ex)
set_option hygiene false in
local macro_rules | `(tactic| walk_at "lkT") => `(tactic| first | (with_reducible exact T.l_GAMES _) | (with_reducible exact T.l_GOALS _))
set_option hygiene false in
local macro_rules | `(tactic| walk_at "isx") => `(tactic| first | (with_reducible exact T.is_Row (by walk_at "lk")) | (with_reducible exact T.is_Flip (by walk_at "lk")) | (with_reducible exact T.is_Table (by walk_at "lk")))
local macro_rules | `(tactic| walk_at "lk") => `(tactic| first
  | assumption
  | walk_at "lkT"
  | ((with_reducible refine' ex_at (by assumption) ?wk); (case wk => walk_at "lk"))
  | ((with_reducible refine' sl_of ?wk); (case wk => walk_at "lk"))
  | ((with_reducible refine' st_of ?wk); (case wk => walk_at "lk"))
  | ((with_reducible refine' ex_l (by assumption) ?wk); (case wk => walk_at "lk"))
  | ((with_reducible refine' ex_t (by assumption) ?wk); (case wk => walk_at "lk"))
  | ((with_reducible refine' mu_at (by assumption) ?wk ?wn); (case wk => walk_at "lk"); (case wn => assumption)))
set_option hygiene false in
local macro_rules | `(tactic| walk_at "sd") => `(tactic| first
  | exact rfl | assumption | (with_reducible exact T.c_Row) | (with_reducible exact T.c_Flip) | (with_reducible exact T.c_Table) | (with_reducible exact T.c_Trial)
  | (with_reducible exact T.n_Row_colour) | (with_reducible exact T.n_Row_sizes) | (with_reducible exact T.n_Flip_begin) | (with_reducible exact T.n_Flip_finish) | (with_reducible exact T.n_Trial_home) | (with_reducible exact T.n_Trial_kept)
  | (with_reducible exact T.n_Table_beginning) | (with_reducible exact T.n_Table_words) | (with_reducible exact T.n_Table_state))
local macro_rules | `(tactic| walk_at "w") => `(tactic| first
  | (with_reducible refine w_seq ?_) | (with_reducible refine w_asg ?_) | (with_reducible refine w_gName ?_) | (with_reducible refine w_ret ?_) | (with_reducible refine w_ifS ?_) | (with_reducible refine w_drop ?_) | (with_reducible refine w_next ?_)
  | ((with_reducible refine' w_aug ?wh ?_); (case wh => exact rfl)) | (with_reducible refine w_match ?_) | (with_reducible refine w_case ?_)
  | ((with_reducible refine' w_var ?wh ?_); (case wh => exact rfl))
  | (with_reducible refine w_c ?_) | (with_reducible refine w_op ?_) | (with_reducible refine w_un ?_) | (with_reducible refine w_nil ?_) | (with_reducible refine w_cons ?_) | (with_reducible refine w_star ?_) | (with_reducible refine w_tup ?_) | (with_reducible refine w_lst ?_)
  | (with_reducible refine w_if ?_) | (with_reducible refine w_and ?_) | (with_reducible refine w_or ?_) | (with_reducible refine w_not ?_) | (with_reducible refine w_bq ?_) | (with_reducible refine w_B ?_) | (with_reducible refine w_test ?_) | (with_reducible refine w_andV ?_) | (with_reducible refine w_orV ?_) | (with_reducible refine w_notV ?_)
  | (with_reducible refine w_chain ?_) | (with_reducible refine w_rI0 ?_) | (with_reducible refine w_rU ?_) | (with_reducible refine w_ipI ?_)
  | (with_reducible refine w_eqI ?_) | (with_reducible refine w_neI ?_) | (with_reducible refine w_eqS ?_) | (with_reducible refine w_neS ?_) | (with_reducible refine w_eqB ?_) | (with_reducible refine w_neB ?_) | (with_reducible refine w_isNr ?_) | (with_reducible refine w_isNn ?_)
  | (with_reducible refine w_sl ?_) | (with_reducible refine w_noPart ?_) | (with_reducible refine w_part ?_) | (with_reducible refine w_pq ?_) | (with_reducible refine w_revL ?_) | (with_reducible refine w_revS ?_)
  | (with_reducible refine w_cb ?_) | (with_reducible refine w_min2 ?_) | (with_reducible refine w_max2 ?_) | (with_reducible refine w_intB ?_)
  | (with_reducible refine w_fn ?_) | (with_reducible refine w_me ?_) | (with_reducible refine w_pr ?_) | (with_reducible refine w_mk ?_) | (with_reducible refine w_fld ?_)
  | (with_reducible refine w_isi_ii ?_) | (with_reducible refine w_isi_ib ?_) | (with_reducible refine w_isi_ss ?_)
  | ((with_reducible refine' w_isi_ll ?wh ?_); (case wh => walk_at "lk"))
  | ((with_reducible refine' w_isi_own ?wh ?wq); (case wh => walk_at "isx"))
  | ((with_reducible refine' w_lenL ?wh ?_); (case wh => walk_at "lk")) | ((with_reducible refine' w_ixL ?wh ?wi ?_); (case wh => walk_at "lk"); (case wi => first | assumption | exact rfl)) | ((with_reducible refine' w_ixT ?wh ?wi ?_); (case wh => walk_at "lk"); (case wi => first | assumption | exact rfl))
  | ((with_reducible refine' w_slL ?wh ?_); (case wh => walk_at "lk")) | ((with_reducible refine' w_rvq ?wh ?_); (case wh => walk_at "lk")) | ((with_reducible refine' w_listO ?wh ?_); (case wh => walk_at "lk")) | ((with_reducible refine' w_starL ?wh ?_); (case wh => walk_at "lk"))
  | ((with_reducible refine' w_fq ?wh ?wc ?wn ?wl ?_); (case wh => walk_at "lk"); (case wc => walk_at "sd"); (case wn => walk_at "sd"); (case wl => exact rfl))
  | ((with_reducible refine' w_sum ?wh ?_); (case wh => walk_at "lk"))
  | ((with_reducible refine' w_all ?wh ?_); (case wh => walk_at "lk"))
  | (with_reducible refine w_forL ?_) | ((with_reducible refine' w_forLq ?wh ?_); (case wh => walk_at "lk")) | (with_reducible refine w_forS ?_) | (with_reducible refine w_forSq ?_) | (with_reducible refine w_forR1 ?_) | ((with_reducible refine' w_forR1q ?wh ?_); (case wh => omega)) | (with_reducible refine w_forR2 ?_) | ((with_reducible refine' w_forR2q ?wh ?_); (case wh => omega)) | (with_reducible refine w_forE ?_) | ((with_reducible refine' w_forEq ?wh ?_); (case wh => walk_at "lk"))
  | (with_reducible refine w_lcL ?_) | ((with_reducible refine' w_lcLq ?wh ?_); (case wh => walk_at "lk")) | (with_reducible refine w_lcS ?_) | (with_reducible refine w_lcSq ?_) | (with_reducible refine w_lcR2 ?_) | ((with_reducible refine' w_lcR2q ?wh ?_); (case wh => omega))
  | (with_reducible refine w_bm ?_) | ((with_reducible refine' w_bmq ?wh ?_); (case wh => walk_at "lk")) | (with_reducible refine w_bm0 ?_) | ((with_reducible refine' w_bm0q ?wh ?_); (case wh => walk_at "lk"))
  | ((with_reducible refine' w_getL ?wh ?wi ?_); (case wh => walk_at "lk"); (case wi => first | assumption | exact rfl)) | (with_reducible refine w_gSub ?_) | (with_reducible refine w_augS ?_)
  | ((with_reducible refine' w_gTup ?wh ?wl ?_); (case wh => walk_at "lk"); (case wl => exact rfl)) | (with_reducible refine w_gCons ?_) | (with_reducible refine w_gNil ?_)
  | (with_reducible refine w_parT ?_) | (with_reducible refine w_parq ?_) | (with_reducible refine w_par3T ?_) | (with_reducible refine w_par3q ?_) | (with_reducible refine w_sfld ?_) | (with_reducible refine w_ob ?_) | (with_reducible refine w_obq ?_)
  | ((with_reducible refine' w_sfq ?wh ?wc ?wn ?wl ?wq); (case wh => walk_at "lk"); (case wc => walk_at "sd"); (case wn => walk_at "sd"); (case wl => exact Nat.le_of_ble_eq_true rfl))
  | ((with_reducible refine' w_rI ?wh ?wq); (case wh => first | decide | exact ⟨by decide, by decide⟩)) | (with_reducible refine w_pairsC ?_) | (with_reducible refine w_pairsN ?_) | ((with_reducible refine' w_cat ?wh ?wk ?wl ?wq); (case wh => walk_at "lk"); (case wk => walk_at "lk"); (case wl => walk_at "sz"))
  | ((with_reducible refine' w_mqRow ?wh ?wl ?wk ?wq); (case wh => walk_at "rw"); (case wl => exact rfl); (case wk => exact rfl))
  | ((with_reducible refine' w_mq ?wh ?wl ?wq); (case wh => walk_at "lk"); (case wl => exact rfl))
  | ((with_reducible refine' w_wipe ?wh ?wq); (case wh => exact rfl)) | (with_reducible refine w_yesT ?_)
  | (with_reducible refine w_isNumber ?_) | (with_reducible refine w_isCount ?_) | (with_reducible refine w_isColour ?_) | (with_reducible refine w_checkGame ?_) | (with_reducible refine w_checkGoal ?_) | (with_reducible refine w_checkWords ?_)
  | (with_reducible refine iteT ?_) | (with_reducible refine iteF ?_) | ((with_reducible refine' w_yes ?wh ?_); (case wh => exact rfl)) | ((with_reducible refine' w_no ?wh ?_); (case wh => exact rfl)))
local macro_rules | `(tactic| walk_at "sz") => `(tactic| first | (refine sz_le ?_; first | assumption | (simp only [List.length_map, List.length_append, List.length_cons, List.length_nil]; omega) | omega) | (refine sz_lt ?_; first | assumption | (simp only [List.length_map, List.length_append, List.length_cons, List.length_nil]; omega) | omega))
local macro_rules | `(tactic| walk_at "go") => `(tactic| repeat (walk_at "w"))
local macro_rules | `(tactic| walk_at "bt") => `(tactic| first | exact rfl | assumption | (simp [*]; done) | (simp; omega) | (simp [*]; omega))
local macro_rules | `(tactic| walk_at "yes") => `(tactic| ((with_reducible refine' w_yes ?wh ?wq); (case wh => walk_at "bt"); walk_at "go"))
local macro_rules | `(tactic| walk_at "no") => `(tactic| ((with_reducible refine' w_no ?wh ?wq); (case wh => walk_at "bt"); walk_at "go"))
local macro_rules | `(tactic| walk_at "st") => `(tactic| ((try dsimp only [L2.cxOf, L2.Cx.nox, L2.Cx.wish]); walk_at "go"))
local macro_rules | `(tactic| walk_at "rw") => `(tactic| first | assumption | ((with_reducible refine' IsRow.rw ?wk); (case wk => walk_at "rw")) | ((with_reducible refine' IsRw.ex (by assumption) ?wk); (case wk => walk_at "rw")) | ((with_reducible refine' IsRow.ex (by assumption) ?wk); (case wk => walk_at "rw")))
local macro_rules | `(tactic| walk_at "ro") => `(tactic| first | assumption | ((with_reducible refine' IsRow.ex (by assumption) ?wk); (case wk => walk_at "ro")))
local macro_rules | `(tactic| walk_at "fl") => `(tactic| first | assumption | ((with_reducible refine' IsFlip.ex (by assumption) ?wk); (case wk => walk_at "fl")))
local macro_rules | `(tactic| walk_at "w") => `(tactic| first
  | ((with_reducible refine' w_first ?wh ?wq); (case wh => walk_at "rw")) | ((with_reducible refine' w_runs ?wh ?wq); (case wh => walk_at "rw")) | ((with_reducible refine' w_length ?wh ?wq); (case wh => walk_at "rw")) | ((with_reducible refine' w_lengths ?wh ?wq); (case wh => walk_at "rw")))
local macro_rules | `(tactic| walk_at "w") => `(tactic| first
  | ((with_reducible refine' w_start ?wh ?wq); (case wh => walk_at "fl")) | ((with_reducible refine' w_end ?wh ?wq); (case wh => walk_at "fl")))
local macro_rules | `(tactic| walk_at "w") => `(tactic| first | (with_reducible refine w_dget ?_))
def PairV (H : Hp) (v : V) : Option Pl → Prop
  | none => v = .non
  | some p => ∃ t, v = .ref t ∧ H t = some (.tup [.int p.1, .int p.2])
theorem find_pre {α : Type} {c : α → Bool} : ∀ {l : List α} {i : Nat} {p : α}, l[i]? = some p → c p = true → (∀ j < i, ∀ q, l[j]? = some q → c q = false) → l.find? c = some p
  | [], i, p, h, _, _ => by simp at h
  | x :: l, 0, p, h, hc, _ => by
    cases h
    rw [List.find?_cons, hc]
  | x :: l, i + 1, p, h, hc, k => by
    rw [List.find?_cons, k 0 (Nat.succ_pos _) x rfl]
    exact find_pre h hc fun j hj q hq => k (j + 1) (by omega) q hq
theorem find_no {α : Type} {c : α → Bool} {l : List α} (k : ∀ j < l.length, ∀ q, l[j]? = some q → c q = false) : l.find? c = none := by
  rw [List.find?_eq_none]
  intro x hx e
  obtain ⟨j, hj, hjx⟩ := List.mem_iff_getElem.mp hx
  rw [k j hj x (by rw [List.getElem?_eq_getElem hj, hjx])] at e
  cases e
def spLHint : Sp := fun vs H Q _ => ∃ (w : Wd) (n z : Nat) (g : Gm) (o : Go) (kd : Addr), vs = [.str (sT w), .str g.s, .ref kd] ∧ n ≤ 7 ∧ InC n z w ∧ KnownAt n z g o H kd ∧ ∀ v H', Ex H H' → PairV H' v (hintL g o w) → Q v H'
theorem sc_law_hint : FnScope ["_law_word", "_law_game", "_law_known", "_law_start", "_law_end"] ["_law_word", "_law_game", "_law_known"] (defScope (top 56)) := ⟨rfl, rfl, rfl, by decide +kernel, rfl, by decide +kernel, by decide +kernel⟩
theorem ok_law_hint {P : Program} {w : World} {K : PySem.W.Frag} {mg : Str → Option Value} {base : Heap} (T : Tx P K mg) : Ok P w K mg base 2 (He.ga K "_law_hint") (spLHint) := by
  refine ok_mk T.d_law_hint sc_law_hint (fun vs H Q E h => ?len) (fun _ _ _ _ _ _ us hl => match us, hl with | [_, _, _], _ => rfl) (fun cdv A outer s H vs Q E hr h => ⟨_, (pss_cons (ps_if (pt_cmpR op_eq (pe_dget (hu_of hr) (pv 2) (pv 0) (fun _ _ => rfl)) pe_int (nomark _)) (pss_one (ps_ret pe_non)) pss_nil) (pss_cons (ps_for PassesOwn.never rfl (pi_list (pe_fn (ok_law_places T) hr T.g_law_places (pa_cons (pe_callB cq_lenT (by rfl) T.z_len (by decide +kernel) (pa_cons (pv 0) pa_nil)) (pa_cons (pv 1) pa_nil)))) (pg_tup rfl (pgs_cons (pg_name (i := 3) sc_law_hint.nd rfl (Or.inl rfl)) (pgs_cons (pg_name (i := 4) sc_law_hint.nd rfl (Or.inl rfl)) pgs_nil))) (pss_one (ps_if (pt_cmpR op_lt (pe_dget (hu_of hr) (pv 2) (pe_fn (ok_law_turn T) hr T.g_law_turn (pa_cons (pv 0) (pa_cons (pv 3) (pa_cons (pv 4) pa_nil)))) (fun _ _ => rfl)) (pe_dget (hu_of hr) (pv 2) (pv 0) (fun _ _ => rfl)) (nomark _)) (pss_one (ps_ret (pe_tup (pa_cons (pv 3) (pa_cons (pv 4) pa_nil))))) pss_nil))) (pss_one (ps_ret pe_non)))), ?body⟩)
  case len => obtain ⟨w, n, z, g, o, kd, rfl, _⟩ := h; rfl
  case body =>
    obtain ⟨w, n, z, g, o, kd, rfl, zn, hw, hk, q⟩ := h
    have zw : w.length = n := hw.1
    have zs : (sT w).length = w.length := tx_len w
    walk_at "st"
    refine ⟨kd, _, rfl, hk.get hw, ?_⟩
    walk_at "go"
    refine w_ite (fun e => ?_) (fun e => ?_)
    · walk_at "go"
      refine q _ _ (Ex.refl _) ?_
      rw [show hintL g o w = none from if_pos (of_decide_eq_true e)]
      rfl
    have hne : ¬ costW g o w = 0 := of_decide_eq_false e
    walk_at "go"
    refine w_lenS (sz_le (by omega)) ?_
    walk_at "go"
    refine ⟨n, g, by rw [zs, zw], zn, fun PL ts H8 e8 n8 hP kP => ?_⟩
    have lts : ts.length = (placesW n g).length := paired_len kP
    refine w_forLq (sl_of hP) ?_
    refine w_forW (walk_list (xs := ts.map V.ref)) (fun j σ4 H4 => ∃ x3 x4, σ4 = [some (.str (sT w)), some (.str g.s), some (.ref kd), x3, x4] ∧ H4 = H8 ∧ ∀ i < j, ∀ p, (placesW n g)[i]? = some p → ¬ costW g o (turnP w p) < costW g o w) ?j0 ?jG ?js ?jd
    case j0 => exact ⟨_, _, rfl, rfl, fun j hj => (Nat.not_lt_zero j hj).elim⟩
    case jG =>
      rintro j σ4 H4 hj ⟨x3, x4, rfl, rfl, hs⟩
      exact sl_of hP
    case js =>
      rintro j y σ4 H4 H4' hj ⟨x3, x4, rfl, rfl, hs⟩ ⟨rfl, hy⟩
      rw [List.getElem?_map] at hy
      obtain ⟨t, ht, hty⟩ := Option.map_eq_some_iff.mp hy
      subst hty
      have hjl : j < (placesW n g).length := by
        rw [List.length_map] at hj
        omega
      have hp := List.getElem?_eq_getElem hjl
      generalize (placesW n g)[j] = p at hp
      have hpm := List.mem_of_getElem? hp
      have h8t := paired_at kP j t p ht hp
      have ta := turn_all g w (by omega) p (by rw [zw]; exact hpm)
      have ht2 := hw.turn zn hpm
      obtain ⟨ks, hk1, hk2⟩ := hk
      have hk8 : KnownAt n z g o H4' kd := ⟨ks, e8 _ _ hk1, hk2⟩
      refine w_gTup (st_of h8t) rfl ?_
      walk_at "go"
      refine w_lturn (by omega) (by omega) ta.2.2.2.2 ?_
      walk_at "go"
      refine ⟨kd, _, rfl, hk8.get ht2, ?_⟩
      walk_at "go"
      refine ⟨kd, _, rfl, hk8.get hw, ?_⟩
      walk_at "go"
      refine w_ite (fun e2 => ?_) (fun e2 => ?_)
      · walk_at "go"
        refine w_newA (by show (2 : Nat) ≤ sizeLine; decide) fun t2 H9 e9 n9 h9 => ?_
        refine q _ _ (e8.trans e9) ?_
        have : hintL g o w = some p := by
          unfold hintL
          rw [if_neg hne, zw]
          exact find_pre hp (decide_eq_true (of_decide_eq_true e2)) fun i hi q hq => decide_eq_false (hs i hi q hq)
        rw [this]
        exact ⟨t2, rfl, h9⟩
      · walk_at "go"
        refine ⟨_, _, rfl, rfl, fun i hi q hq => ?_⟩
        by_cases hij : i = j
        · subst hij
          rw [hp] at hq
          cases hq
          exact of_decide_eq_false e2
        · exact hs i (by omega) q hq
    case jd =>
      rintro σ4 H4 ⟨x3, x4, rfl, rfl, hs⟩
      walk_at "go"
      refine q _ _ e8 ?_
      have : hintL g o w = none := by
        unfold hintL
        rw [if_neg hne, zw]
        exact find_no fun i hi q hq => decide_eq_false (hs i (by rw [List.length_map, lts]; exact hi) q hq)
      rw [this]
      rfl
end Tcf

set_option Elab.async false
set_option linter.all false
set_option maxRecDepth 100000
set_option maxHeartbeats 4000000
/-! EI: the law's state (printed from EI.tmpl by gen_der.py). -/
namespace Tcf
open PySem PySem.Spec PyProof.Rows L2
open Evl (Ex)
set_option hygiene false in
local macro_rules | `(tactic| walk_at "lkT") => `(tactic| first | (with_reducible exact T.l_GAMES _) | (with_reducible exact T.l_GOALS _))
set_option hygiene false in
local macro_rules | `(tactic| walk_at "isx") => `(tactic| first | (with_reducible exact T.is_Row (by walk_at "lk")) | (with_reducible exact T.is_Flip (by walk_at "lk")) | (with_reducible exact T.is_Table (by walk_at "lk")))
local macro_rules | `(tactic| walk_at "lk") => `(tactic| first
  | assumption
  | walk_at "lkT"
  | ((with_reducible refine' ex_at (by assumption) ?wk); (case wk => walk_at "lk"))
  | ((with_reducible refine' sl_of ?wk); (case wk => walk_at "lk"))
  | ((with_reducible refine' st_of ?wk); (case wk => walk_at "lk"))
  | ((with_reducible refine' ex_l (by assumption) ?wk); (case wk => walk_at "lk"))
  | ((with_reducible refine' ex_t (by assumption) ?wk); (case wk => walk_at "lk"))
  | ((with_reducible refine' mu_at (by assumption) ?wk ?wn); (case wk => walk_at "lk"); (case wn => assumption)))
set_option hygiene false in
local macro_rules | `(tactic| walk_at "sd") => `(tactic| first
  | exact rfl | assumption | (with_reducible exact T.c_Row) | (with_reducible exact T.c_Flip) | (with_reducible exact T.c_Table) | (with_reducible exact T.c_Trial)
  | (with_reducible exact T.n_Row_colour) | (with_reducible exact T.n_Row_sizes) | (with_reducible exact T.n_Flip_begin) | (with_reducible exact T.n_Flip_finish) | (with_reducible exact T.n_Trial_home) | (with_reducible exact T.n_Trial_kept)
  | (with_reducible exact T.n_Table_beginning) | (with_reducible exact T.n_Table_words) | (with_reducible exact T.n_Table_state))
local macro_rules | `(tactic| walk_at "w") => `(tactic| first
  | (with_reducible refine w_seq ?_) | (with_reducible refine w_asg ?_) | (with_reducible refine w_gName ?_) | (with_reducible refine w_ret ?_) | (with_reducible refine w_ifS ?_) | (with_reducible refine w_drop ?_) | (with_reducible refine w_next ?_)
  | ((with_reducible refine' w_aug ?wh ?_); (case wh => exact rfl)) | (with_reducible refine w_match ?_) | (with_reducible refine w_case ?_)
  | ((with_reducible refine' w_var ?wh ?_); (case wh => exact rfl))
  | (with_reducible refine w_c ?_) | (with_reducible refine w_op ?_) | (with_reducible refine w_un ?_) | (with_reducible refine w_nil ?_) | (with_reducible refine w_cons ?_) | (with_reducible refine w_star ?_) | (with_reducible refine w_tup ?_) | (with_reducible refine w_lst ?_)
  | (with_reducible refine w_if ?_) | (with_reducible refine w_and ?_) | (with_reducible refine w_or ?_) | (with_reducible refine w_not ?_) | (with_reducible refine w_bq ?_) | (with_reducible refine w_B ?_) | (with_reducible refine w_test ?_) | (with_reducible refine w_andV ?_) | (with_reducible refine w_orV ?_) | (with_reducible refine w_notV ?_)
  | (with_reducible refine w_chain ?_) | (with_reducible refine w_rI0 ?_) | (with_reducible refine w_rU ?_) | (with_reducible refine w_ipI ?_)
  | (with_reducible refine w_eqI ?_) | (with_reducible refine w_neI ?_) | (with_reducible refine w_eqS ?_) | (with_reducible refine w_neS ?_) | (with_reducible refine w_eqB ?_) | (with_reducible refine w_neB ?_) | (with_reducible refine w_isNr ?_) | (with_reducible refine w_isNn ?_)
  | (with_reducible refine w_sl ?_) | (with_reducible refine w_noPart ?_) | (with_reducible refine w_part ?_) | (with_reducible refine w_pq ?_) | (with_reducible refine w_revL ?_) | (with_reducible refine w_revS ?_)
  | (with_reducible refine w_cb ?_) | (with_reducible refine w_min2 ?_) | (with_reducible refine w_max2 ?_) | (with_reducible refine w_intB ?_)
  | (with_reducible refine w_fn ?_) | (with_reducible refine w_me ?_) | (with_reducible refine w_pr ?_) | (with_reducible refine w_mk ?_) | (with_reducible refine w_fld ?_)
  | (with_reducible refine w_isi_ii ?_) | (with_reducible refine w_isi_ib ?_) | (with_reducible refine w_isi_ss ?_)
  | ((with_reducible refine' w_isi_ll ?wh ?_); (case wh => walk_at "lk"))
  | ((with_reducible refine' w_isi_own ?wh ?wq); (case wh => walk_at "isx"))
  | ((with_reducible refine' w_lenL ?wh ?_); (case wh => walk_at "lk")) | ((with_reducible refine' w_ixL ?wh ?wi ?_); (case wh => walk_at "lk"); (case wi => first | assumption | exact rfl)) | ((with_reducible refine' w_ixT ?wh ?wi ?_); (case wh => walk_at "lk"); (case wi => first | assumption | exact rfl))
  | ((with_reducible refine' w_slL ?wh ?_); (case wh => walk_at "lk")) | ((with_reducible refine' w_rvq ?wh ?_); (case wh => walk_at "lk")) | ((with_reducible refine' w_listO ?wh ?_); (case wh => walk_at "lk")) | ((with_reducible refine' w_starL ?wh ?_); (case wh => walk_at "lk"))
  | ((with_reducible refine' w_fq ?wh ?wc ?wn ?wl ?_); (case wh => walk_at "lk"); (case wc => walk_at "sd"); (case wn => walk_at "sd"); (case wl => exact rfl))
  | ((with_reducible refine' w_sum ?wh ?_); (case wh => walk_at "lk"))
  | ((with_reducible refine' w_all ?wh ?_); (case wh => walk_at "lk"))
  | (with_reducible refine w_forL ?_) | ((with_reducible refine' w_forLq ?wh ?_); (case wh => walk_at "lk")) | (with_reducible refine w_forS ?_) | (with_reducible refine w_forSq ?_) | (with_reducible refine w_forR1 ?_) | ((with_reducible refine' w_forR1q ?wh ?_); (case wh => omega)) | (with_reducible refine w_forR2 ?_) | ((with_reducible refine' w_forR2q ?wh ?_); (case wh => omega)) | (with_reducible refine w_forE ?_) | ((with_reducible refine' w_forEq ?wh ?_); (case wh => walk_at "lk"))
  | (with_reducible refine w_lcL ?_) | ((with_reducible refine' w_lcLq ?wh ?_); (case wh => walk_at "lk")) | (with_reducible refine w_lcS ?_) | (with_reducible refine w_lcSq ?_) | (with_reducible refine w_lcR2 ?_) | ((with_reducible refine' w_lcR2q ?wh ?_); (case wh => omega))
  | (with_reducible refine w_bm ?_) | ((with_reducible refine' w_bmq ?wh ?_); (case wh => walk_at "lk")) | (with_reducible refine w_bm0 ?_) | ((with_reducible refine' w_bm0q ?wh ?_); (case wh => walk_at "lk"))
  | ((with_reducible refine' w_getL ?wh ?wi ?_); (case wh => walk_at "lk"); (case wi => first | assumption | exact rfl)) | (with_reducible refine w_gSub ?_) | (with_reducible refine w_augS ?_)
  | ((with_reducible refine' w_gTup ?wh ?wl ?_); (case wh => walk_at "lk"); (case wl => exact rfl)) | (with_reducible refine w_gCons ?_) | (with_reducible refine w_gNil ?_)
  | (with_reducible refine w_parT ?_) | (with_reducible refine w_parq ?_) | (with_reducible refine w_par3T ?_) | (with_reducible refine w_par3q ?_) | (with_reducible refine w_sfld ?_) | (with_reducible refine w_ob ?_) | (with_reducible refine w_obq ?_)
  | ((with_reducible refine' w_sfq ?wh ?wc ?wn ?wl ?wq); (case wh => walk_at "lk"); (case wc => walk_at "sd"); (case wn => walk_at "sd"); (case wl => exact Nat.le_of_ble_eq_true rfl))
  | ((with_reducible refine' w_rI ?wh ?wq); (case wh => first | decide | exact ⟨by decide, by decide⟩)) | (with_reducible refine w_pairsC ?_) | (with_reducible refine w_pairsN ?_) | ((with_reducible refine' w_cat ?wh ?wk ?wl ?wq); (case wh => walk_at "lk"); (case wk => walk_at "lk"); (case wl => walk_at "sz"))
  | ((with_reducible refine' w_mqRow ?wh ?wl ?wk ?wq); (case wh => walk_at "rw"); (case wl => exact rfl); (case wk => exact rfl))
  | ((with_reducible refine' w_mq ?wh ?wl ?wq); (case wh => walk_at "lk"); (case wl => exact rfl))
  | ((with_reducible refine' w_wipe ?wh ?wq); (case wh => exact rfl)) | (with_reducible refine w_yesT ?_)
  | (with_reducible refine w_isNumber ?_) | (with_reducible refine w_isCount ?_) | (with_reducible refine w_isColour ?_) | (with_reducible refine w_checkGame ?_) | (with_reducible refine w_checkGoal ?_) | (with_reducible refine w_checkWords ?_)
  | (with_reducible refine iteT ?_) | (with_reducible refine iteF ?_) | ((with_reducible refine' w_yes ?wh ?_); (case wh => exact rfl)) | ((with_reducible refine' w_no ?wh ?_); (case wh => exact rfl)))
local macro_rules | `(tactic| walk_at "sz") => `(tactic| first | (refine sz_le ?_; first | assumption | (simp only [List.length_map, List.length_append, List.length_cons, List.length_nil]; omega) | omega) | (refine sz_lt ?_; first | assumption | (simp only [List.length_map, List.length_append, List.length_cons, List.length_nil]; omega) | omega))
local macro_rules | `(tactic| walk_at "go") => `(tactic| repeat (walk_at "w"))
local macro_rules | `(tactic| walk_at "bt") => `(tactic| first | exact rfl | assumption | (simp [*]; done) | (simp; omega) | (simp [*]; omega))
local macro_rules | `(tactic| walk_at "yes") => `(tactic| ((with_reducible refine' w_yes ?wh ?wq); (case wh => walk_at "bt"); walk_at "go"))
local macro_rules | `(tactic| walk_at "no") => `(tactic| ((with_reducible refine' w_no ?wh ?wq); (case wh => walk_at "bt"); walk_at "go"))
local macro_rules | `(tactic| walk_at "st") => `(tactic| ((try dsimp only [L2.cxOf, L2.Cx.nox, L2.Cx.wish]); walk_at "go"))
local macro_rules | `(tactic| walk_at "rw") => `(tactic| first | assumption | ((with_reducible refine' IsRow.rw ?wk); (case wk => walk_at "rw")) | ((with_reducible refine' IsRw.ex (by assumption) ?wk); (case wk => walk_at "rw")) | ((with_reducible refine' IsRow.ex (by assumption) ?wk); (case wk => walk_at "rw")))
local macro_rules | `(tactic| walk_at "ro") => `(tactic| first | assumption | ((with_reducible refine' IsRow.ex (by assumption) ?wk); (case wk => walk_at "ro")))
local macro_rules | `(tactic| walk_at "fl") => `(tactic| first | assumption | ((with_reducible refine' IsFlip.ex (by assumption) ?wk); (case wk => walk_at "fl")))
local macro_rules | `(tactic| walk_at "w") => `(tactic| first
  | ((with_reducible refine' w_first ?wh ?wq); (case wh => walk_at "rw")) | ((with_reducible refine' w_runs ?wh ?wq); (case wh => walk_at "rw")) | ((with_reducible refine' w_length ?wh ?wq); (case wh => walk_at "rw")) | ((with_reducible refine' w_lengths ?wh ?wq); (case wh => walk_at "rw")))
local macro_rules | `(tactic| walk_at "w") => `(tactic| first
  | ((with_reducible refine' w_start ?wh ?wq); (case wh => walk_at "fl")) | ((with_reducible refine' w_end ?wh ?wq); (case wh => walk_at "fl")))
local macro_rules | `(tactic| walk_at "w") => `(tactic| first | (with_reducible refine w_dget ?_))
theorem hu65 {k : Nat} {A : Around} (r : Room k A) : A.units + 65 < cLine := by have := r.un; omega
/-- the state of the law: words, deeds, undone deeds -/
structure LwAt (H : Hp) (z wl dl ul : Addr) (ws : List Wd) (dts uts : List Addr) (ds us : List Pl) : Prop where
  hz : H z = some (.lst [.ref wl, .ref dl, .ref ul])
  hw : H wl = some (.lst (ws.map fun w => V.str (sT w)))
  hd : H dl = some (.lst (dts.map V.ref))
  hu : H ul = some (.lst (uts.map V.ref))
  dF : TupsAt H dts ds
  uF : TupsAt H uts us
  n1 : z ≠ wl
  n2 : z ≠ dl
  n3 : z ≠ ul
  n4 : wl ≠ dl
  n5 : wl ≠ ul
  n6 : dl ≠ ul
/-- .. beside G -/
def Lw (G H : Hp) (z : Addr) (ws : List Wd) (ds us : List Pl) : Prop := Ex G H ∧ ∃ wl dl ul dts uts, LwAt H z wl dl ul ws dts uts ds us ∧ G z = none ∧ G wl = none ∧ G dl = none ∧ G ul = none
/-- a fresh list -/
def AnsV (H H' : Hp) (v : V) (xs : List V) : Prop := ∃ p, v = .ref p ∧ H p = none ∧ H' p = some (.lst xs)
theorem at_last (ws : List Wd) (u : Wd) : atI ((ws ++ [u]).map fun w => V.str (sT w)) (-1) = some (.str (sT u)) := by
  rw [List.map_append]
  exact atI_last _ _
theorem LwAt.ex {H H' : Hp} {z wl dl ul : Addr} {ws : List Wd} {dts uts : List Addr} {ds us : List Pl} (e : Ex H H') (L : LwAt H z wl dl ul ws dts uts ds us) : LwAt H' z wl dl ul ws dts uts ds us :=
  ⟨e _ _ L.hz, e _ _ L.hw, e _ _ L.hd, e _ _ L.hu, L.dF.ex e, L.uF.ex e, L.n1, L.n2, L.n3, L.n4, L.n5, L.n6⟩
theorem LwAt.setW {H H' : Hp} {z wl dl ul : Addr} {ws ws' : List Wd} {dts uts : List Addr} {ds us : List Pl} (L : LwAt H z wl dl ul ws dts uts ds us) (m : Mu wl H H') (h : H' wl = some (.lst (ws'.map fun w => V.str (sT w)))) : LwAt H' z wl dl ul ws' dts uts ds us :=
  ⟨mu_at m L.hz L.n1, h, mu_at m L.hd L.n4.symm, mu_at m L.hu L.n5.symm, L.dF.mu m L.hw, L.uF.mu m L.hw, L.n1, L.n2, L.n3, L.n4, L.n5, L.n6⟩
theorem LwAt.setD {H H' : Hp} {z wl dl ul : Addr} {ws : List Wd} {dts dts' uts : List Addr} {ds ds' us : List Pl} (L : LwAt H z wl dl ul ws dts uts ds us) (m : Mu dl H H') (h : H' dl = some (.lst (dts'.map V.ref))) (k : TupsAt H' dts' ds') : LwAt H' z wl dl ul ws dts' uts ds' us :=
  ⟨mu_at m L.hz L.n2, mu_at m L.hw L.n4, h, mu_at m L.hu L.n6.symm, k, L.uF.mu m L.hd, L.n1, L.n2, L.n3, L.n4, L.n5, L.n6⟩
theorem LwAt.setU {H H' : Hp} {z wl dl ul : Addr} {ws : List Wd} {dts uts uts' : List Addr} {ds us us' : List Pl} (L : LwAt H z wl dl ul ws dts uts ds us) (m : Mu ul H H') (h : H' ul = some (.lst (uts'.map V.ref))) (k : TupsAt H' uts' us') : LwAt H' z wl dl ul ws dts uts' ds us' :=
  ⟨mu_at m L.hz L.n3, mu_at m L.hw L.n5, mu_at m L.hd L.n6, h, L.dF.mu m L.hu, k, L.n1, L.n2, L.n3, L.n4, L.n5, L.n6⟩
theorem LwAt.setZ {H H' : Hp} {z wl dl ul ul' : Addr} {ws : List Wd} {dts uts uts' : List Addr} {ds us us' : List Pl} (L : LwAt H z wl dl ul ws dts uts ds us) (m : Mu z H H') (h : H' z = some (.lst [.ref wl, .ref dl, .ref ul'])) (hu : H' ul' = some (.lst (uts'.map V.ref))) (k : TupsAt H' uts' us') (n3 : z ≠ ul') (n5 : wl ≠ ul') (n6 : dl ≠ ul') :
    LwAt H' z wl dl ul' ws dts uts' ds us' :=
  ⟨h, mu_at m L.hw L.n1.symm, mu_at m L.hd L.n2.symm, hu, L.dF.mu m L.hz, k, L.n1, L.n2, n3, L.n4, n5, n6⟩
theorem TupsAt.mud {l : Addr} {H H' : Hp} {xs : List V} {ts : List Addr} {ps : List Pl} {t : Addr} {p : Pl} (m : Mu l H H') (hl : H l = some (.lst xs)) (h : TupsAt H ts ps) (ht : H t = some (.tup [.int p.1, .int p.2])) : TupsAt H' (ts ++ [t]) (ps ++ [p]) :=
  (h.mu m hl).snoc (mu_at m ht (ne_of ht hl (by intro z; cases z)))
theorem fr_ms {S : List Addr} {H H' : Hp} {p : Addr} (m : MS S H H') (hS : ∀ l ∈ S, H' l ≠ none) (n : H' p = none) : H p = none := by
  cases e : H p with
  | none => rfl
  | some o =>
    have hp : p ∉ S := fun hp => hS p hp n
    rw [ms_at m e hp] at n
    cases n
theorem LwAt.fr {H H' : Hp} {z wl dl ul ul' p : Addr} {ws : List Wd} {dts uts : List Addr} {ds us : List Pl} (L : LwAt H' z wl dl ul ws dts uts ds us) (m : MS [z, wl, dl] H H') (n : H' p = none) : H p = none :=
  fr_ms m (fun l hl => by
    simp only [List.mem_cons, List.not_mem_nil, or_false] at hl
    rcases hl with rfl | rfl | rfl
    · rw [L.hz]; intro z; cases z
    · rw [L.hw]; intro z; cases z
    · rw [L.hd]; intro z; cases z) n
theorem mem_places (n : Nat) (g : Gm) (a b : Nat) : (a, b) ∈ placesW n g ↔ a < b ∧ allowB g n a b = true := by
  unfold placesW allowB okPl
  simp only [List.mem_flatMap, List.mem_range, List.mem_filter, List.mem_map, Prod.mk.injEq, Bool.and_eq_true, Bool.or_eq_true, decide_eq_true_eq]
  constructor
  · rintro ⟨a', ha, ⟨d, hd, h1, h2⟩, h3⟩
    subst h1 h2
    refine ⟨by omega, by omega, ?_⟩
    rcases h3 with (h3 | h3) | ⟨h3, h4⟩
    · exact .inl (.inl h3)
    · exact .inl (.inr (by omega))
    · exact .inr ⟨h3, by omega⟩
  · rintro ⟨h1, h2, h3⟩
    refine ⟨a, by omega, ⟨b - a - 1, by omega, rfl, by omega⟩, ?_⟩
    rcases h3 with (h3 | h3) | ⟨h3, h4⟩
    · exact .inl (.inl h3)
    · exact .inl (.inr (by omega))
    · exact .inr ⟨h3, by omega⟩
theorem dpAll_tups {K : PySem.W.Frag} {H : Hp} : ∀ {ts : List Addr} {ps : List Pl}, TupsAt H ts ps → DpAll K H (ts.map V.ref) (ps.map fun r => PyData.tuple [.int r.1, .int r.2])
  | _, _, .nil => .nil
  | _, _, .cons a b => .cons (.tup (st_of a) (.cons (.int _) (.cons (.int _) .nil))) (dpAll_tups b)
theorem fl_pair (a b : Int) : Fl 2 (.tuple [.int a, .int b]) := fl_tuple fun d hd => by
  simp at hd
  rcases hd with rfl | rfl <;> exact fl_int
theorem fl_pairs (ps : List Pl) : Fl 3 (.list (ps.map fun r => PyData.tuple [.int r.1, .int r.2])) := fl_list fun d hd => by
  obtain ⟨i, hi, rfl⟩ := List.mem_map.mp hd
  exact fl_pair _ _
theorem eqv_pair (a b c d : Int) : PyData.eqv (.tuple [.int a, .int b]) (.tuple [.int c, .int d]) = (decide (a = c) && decide (b = d)) := by
  simp only [PyData.eqv, PyData.eqvAll, Bool.and_true]
  rfl
theorem w_ninPl {K : PySem.W.Frag} {H : Hp} {Q : VK} {p PL : Addr} {ts : List Addr} {n : Nat} {g : Gm} {a b : Int} (h0 : 0 ≤ a) (hab : a < b) (hp : SqT K H p [.int a, .int b]) (hP : SqL K H PL (ts.map V.ref)) (k : TupsAt H ts (placesW n g)) (q : Q (.bl (!allowB g n a b)) H) : rNotInD K (.ref p) (.ref PL) H Q := by
  refine ⟨_, _, .tup hp (.cons (.int _) (.cons (.int _) .nil)), .lst hP (dpAll_tups k), (fl_pair a b).shaped (by decide), (fl_pairs _).shaped (by decide), ?_⟩
  have : (((placesW n g).map fun r => PyData.tuple [.int r.1, .int r.2]).any fun z => PyData.eqv z (.tuple [.int a, .int b])) = allowB g n a b := by
    rw [List.any_map, Bool.eq_iff_iff, List.any_eq_true]
    have e1 : ((a.toNat : Nat) : Int) = a := by omega
    have e2 : ((b.toNat : Nat) : Int) = b := by omega
    constructor
    · rintro ⟨r, hr, e⟩
      have e := (eqv_pair _ _ _ _).symm.trans e
      rw [Bool.and_eq_true, decide_eq_true_eq, decide_eq_true_eq] at e
      rw [← e.1, ← e.2]
      exact ((mem_places n g r.1 r.2).mp hr).2
    · intro e
      refine ⟨(a.toNat, b.toNat), (mem_places n g _ _).mpr ⟨by omega, by rw [e1, e2]; exact e⟩, ?_⟩
      refine (eqv_pair _ _ _ _).trans ?_
      rw [Bool.and_eq_true, decide_eq_true_eq, decide_eq_true_eq]
      exact ⟨e1, e2⟩
  rw [this]
  exact q
def spFlipped : Sp := fun vs H Q _ => ∃ (z : Addr) (ws : List Wd) (u : Wd) (ds us : List Pl) (a b : Int) (g : Gm) (G : Hp), vs = [.ref z, .int a, .int b, .str g.s] ∧ Lw G H z (ws ++ [u]) ds us ∧ u.length ≤ 7 ∧ ws.length ≤ 5000 ∧ ds.length ≤ 5000 ∧
  (¬ (0 ≤ a ∧ a < b) → ∀ v H', Ex H H' → AnsV H H' v [.str "flip"] → Q v H') ∧
  (0 ≤ a → a < b → allowB g u.length a b = false → ∀ v H', Ex H H' → AnsV H H' v [.str "allowed"] → Q v H') ∧
  (∀ a' b' : Nat, a = a' → b = b' → a' < b' → allowB g u.length a b = true → ∀ v H', Lw G H' z (ws ++ [u, turnW u a' b']) (ds ++ [(a', b')]) [] → AnsV H H' v [.str "told", .int ((ds.length + 1 : Nat) : Int)] → Q v H')
theorem sc_law_flipped : FnScope ["_law_state", "_law_start", "_law_end", "_law_game"] ["_law_state", "_law_start", "_law_end", "_law_game"] (defScope (top 59)) := ⟨rfl, rfl, rfl, by decide +kernel, rfl, by decide +kernel, by decide +kernel⟩
theorem ok_law_flipped {P : Program} {w : World} {K : PySem.W.Frag} {mg : Str → Option Value} {base : Heap} (T : Tx P K mg) : Ok P w K mg base 3 (He.ga K "_law_flipped") (spFlipped) := by
  refine ok_mk T.d_law_flipped sc_law_flipped (fun vs H Q E h => ?len) (fun _ _ _ _ _ _ us hl => match us, hl with | [_, _, _, _], _ => rfl) (fun cdv A outer s H vs Q E hr h => ⟨_, (pss_cons (ps_if (pt_not (pt_chain op_le op_lt pe_int (pv 1) (pv 2))) (pss_one (ps_ret (pe_lst (pa_cons pe_str pa_nil)))) pss_nil) (pss_cons (ps_if (pt_cmpR (op_notInD (hu65 hr)) (pe_tup (pa_cons (pv 1) (pa_cons (pv 2) pa_nil))) (pe_fn (ok_law_places T) hr T.g_law_places (pa_cons (pe_callB cq_lenT (by rfl) T.z_len (by decide +kernel) (pa_cons (pe_ix ix_list (pe_ix ix_list (pv 0) pe_int (fun _ _ => rfl)) (pe_un un_neg pe_int) (fun _ _ => rfl)) pa_nil)) (pa_cons (pv 3) pa_nil))) (by rfl)) (pss_one (ps_ret (pe_lst (pa_cons pe_str pa_nil)))) pss_nil) (pss_cons (ps_expr (pe_bm PySem.F.plainAttrs_list PySem.F.slot_list_append PySem.F.type_list_append mt_append (pe_ix ix_list (pv 0) pe_int (fun _ _ => rfl)) (pa_cons (pe_fn (ok_law_turn T) hr T.g_law_turn (pa_cons (pe_ix ix_list (pe_ix ix_list (pv 0) pe_int (fun _ _ => rfl)) (pe_un un_neg pe_int) (fun _ _ => rfl)) (pa_cons (pv 1) (pa_cons (pv 2) pa_nil)))) pa_nil))) (pss_cons (ps_expr (pe_bm PySem.F.plainAttrs_list PySem.F.slot_list_append PySem.F.type_list_append mt_append (pe_ix ix_list (pv 0) pe_int (fun _ _ => rfl)) (pa_cons (pe_tup (pa_cons (pv 1) (pa_cons (pv 2) pa_nil))) pa_nil))) (pss_cons (ps_asg (pe_lst pa_nil) (pg_sub (pv 0) pe_int set_list)) (pss_one (ps_ret (pe_lst (pa_cons pe_str (pa_cons (pe_callB cq_lenQ (by rfl) T.z_len (by decide +kernel) (pa_cons (pe_ix ix_list (pv 0) pe_int (fun _ _ => rfl)) pa_nil)) pa_nil)))))))))), ?body⟩)
  case len => obtain ⟨z, ws, u, ds, us, a, b, g, G, rfl, _⟩ := h; rfl
  case body =>
    obtain ⟨z, ws, u, ds, us, a, b, g, G, rfl, lw, zu, zw, zd, q1, q2, q3⟩ := h
    obtain ⟨eG, wl, dl, ul, dts, uts, L, g1, g2, g3, g4⟩ := lw
    walk_at "st"
    by_cases h0 : 0 ≤ a
    case neg =>
      rw [if_neg (by simpa using h0)]
      walk_at "go"
      refine w_newA (by show (1 : Nat) ≤ sizeLine; decide) fun p H1 e1 n1 h1 => ?_
      exact q1 (fun c => h0 c.1) _ _ e1 ⟨p, rfl, n1, h1⟩
    rw [if_pos (decide_eq_true h0)]
    obtain ⟨a', rfl⟩ := Int.eq_ofNat_of_zero_le h0
    by_cases hab : (a' : Int) < b
    case neg =>
      walk_at "go"
      rw [decide_eq_false hab]
      walk_at "go"
      refine w_newA (by show (1 : Nat) ≤ sizeLine; decide) fun p H1 e1 n1 h1 => ?_
      exact q1 (fun c => hab c.2) _ _ e1 ⟨p, rfl, n1, h1⟩
    walk_at "go"
    rw [decide_eq_true hab]
    walk_at "go"
    refine w_newA (by show (2 : Nat) ≤ sizeLine; decide) fun p H1 e1 n1 h1 => ?_
    have L1 := L.ex e1
    walk_at "go"
    refine w_ixL (K := K) (sl_of L1.hz) (v := .ref wl) rfl ?_
    walk_at "go"
    refine w_ixL (K := K) (sl_of L1.hw) (at_last ws u) ?_
    walk_at "go"
    have zs : (sT u).length = u.length := tx_len u
    refine w_lenS (sz_le (by omega)) ?_
    walk_at "go"
    refine ⟨u.length, g, by rw [zs], zu, fun PL ts H2 e2 n2 h2 k2 => ?_⟩
    have L2 := L1.ex e2
    walk_at "go"
    refine w_ninPl (K := K) h0 hab (st_of (e2 _ _ h1)) (sl_of h2) k2 ?_
    walk_at "go"
    cases hal : allowB g u.length (a' : Nat) b with
    | false =>
      walk_at "go"
      refine w_newA (by show (1 : Nat) ≤ sizeLine; decide) fun p H3 e3 n3 h3 => ?_
      exact q2 h0 hab hal _ _ ((e1.trans e2).trans e3) ⟨p, rfl, fr_back e1 (fr_back e2 n3), h3⟩
    | true =>
      obtain ⟨b', rfl⟩ := Int.eq_ofNat_of_zero_le (show (0 : Int) ≤ b by omega)
      have hb7 : b' ≤ u.length := by
        have := hal
        unfold allowB at this
        simp only [Bool.and_eq_true, decide_eq_true_eq] at this
        omega
      have e02 := e1.trans e2
      walk_at "go"
      refine w_ixL (K := K) (sl_of L2.hz) (v := .ref wl) rfl ?_
      refine w_bmq L2.hw ?_
      walk_at "go"
      refine w_ixL (K := K) (sl_of L2.hz) (v := .ref wl) rfl ?_
      walk_at "go"
      refine w_ixL (K := K) (sl_of L2.hw) (at_last ws u) ?_
      walk_at "go"
      refine w_lturn zu (by omega) hb7 ?_
      walk_at "go"
      refine w_apq L2.hw (by simp; omega) fun H3 m3 h3 => ?_
      have L3 := L2.setW (ws' := ws ++ [u, turnW u a' b']) m3 (by rw [h3]; simp)
      have G3 := m3 G (eG.trans e02) g2
      walk_at "go"
      refine w_ixL (K := K) (sl_of L3.hz) (v := .ref dl) rfl ?_
      refine w_bmq L3.hd ?_
      walk_at "go"
      refine w_newA (by show (2 : Nat) ≤ sizeLine; decide) fun p4 H4 e4 n4 h4 => ?_
      have L4 := L3.ex e4
      have zdt : dts.length = ds.length := paired_len L4.dF
      walk_at "go"
      refine w_apq L4.hd (by rw [List.length_map]; omega) fun H5 m5 h5 => ?_
      have L5 := L4.setD (dts' := dts ++ [p4]) (ds' := ds ++ [(a', b')]) m5 (by rw [h5]; simp) (L4.dF.mud m5 L4.hd h4)
      have G5 := m5 G (G3.trans e4) g3
      walk_at "go"
      refine w_newA (by show (0 : Nat) ≤ sizeLine; decide) fun p6 H6 e6 n6 h6 => ?_
      have L6 := L5.ex e6
      walk_at "go"
      have x1 : z ≠ p6 := fun e => by rw [← e, L5.hz] at n6; cases n6
      have x2 : wl ≠ p6 := fun e => by rw [← e, L5.hw] at n6; cases n6
      have x3 : dl ≠ p6 := fun e => by rw [← e, L5.hd] at n6; cases n6
      refine w_setL (k := 2) L6.hz rfl fun H7 m7 h7 => ?_
      have h76 := mu_at m7 h6 x1.symm
      have L7 := L6.setZ (ul' := p6) (uts' := []) (us' := []) m7 h7 h76 .nil x1 x2 x3
      have G7 := m7 G (G5.trans e6) g1
      walk_at "go"
      refine w_lenL (K := K) (sl_of L7.hd) ?_
      walk_at "go"
      refine w_newA (by show (2 : Nat) ≤ sizeLine; decide) fun p8 H8 e8 n8 h8 => ?_
      have gp6 : G p6 = none := fr_back G5 n6
      refine q3 a' b' rfl rfl (by omega) hal _ _ ⟨G7.trans e8, wl, dl, p6, _, _, L7.ex e8, g1, g2, g3, gp6⟩ ⟨p8, rfl, ?_, ?_⟩
      · exact L7.fr (ul' := ul) ((((((MS.ofEx e02).trans (MS.ofMu m3 (by simp))).trans (MS.ofEx e4)).trans (MS.ofMu m5 (by simp))).trans (MS.ofEx e6)).trans (MS.ofMu m7 (by simp))) n8
      · rw [h8, List.length_map, List.length_append, zdt]
        rfl
end Tcf

set_option Elab.async false
set_option linter.all false
set_option maxRecDepth 100000
set_option maxHeartbeats 4000000
/-! EJ: the law's undo, redo (printed from EJ.tmpl by gen_der.py). -/
namespace Tcf
open PySem PySem.Spec PyProof.Rows L2
open Evl (Ex)
set_option hygiene false in
local macro_rules | `(tactic| walk_at "lkT") => `(tactic| first | (with_reducible exact T.l_GAMES _) | (with_reducible exact T.l_GOALS _))
set_option hygiene false in
local macro_rules | `(tactic| walk_at "isx") => `(tactic| first | (with_reducible exact T.is_Row (by walk_at "lk")) | (with_reducible exact T.is_Flip (by walk_at "lk")) | (with_reducible exact T.is_Table (by walk_at "lk")))
local macro_rules | `(tactic| walk_at "lk") => `(tactic| first
  | assumption
  | walk_at "lkT"
  | ((with_reducible refine' ex_at (by assumption) ?wk); (case wk => walk_at "lk"))
  | ((with_reducible refine' sl_of ?wk); (case wk => walk_at "lk"))
  | ((with_reducible refine' st_of ?wk); (case wk => walk_at "lk"))
  | ((with_reducible refine' ex_l (by assumption) ?wk); (case wk => walk_at "lk"))
  | ((with_reducible refine' ex_t (by assumption) ?wk); (case wk => walk_at "lk"))
  | ((with_reducible refine' mu_at (by assumption) ?wk ?wn); (case wk => walk_at "lk"); (case wn => assumption)))
set_option hygiene false in
local macro_rules | `(tactic| walk_at "sd") => `(tactic| first
  | exact rfl | assumption | (with_reducible exact T.c_Row) | (with_reducible exact T.c_Flip) | (with_reducible exact T.c_Table) | (with_reducible exact T.c_Trial)
  | (with_reducible exact T.n_Row_colour) | (with_reducible exact T.n_Row_sizes) | (with_reducible exact T.n_Flip_begin) | (with_reducible exact T.n_Flip_finish) | (with_reducible exact T.n_Trial_home) | (with_reducible exact T.n_Trial_kept)
  | (with_reducible exact T.n_Table_beginning) | (with_reducible exact T.n_Table_words) | (with_reducible exact T.n_Table_state))
local macro_rules | `(tactic| walk_at "w") => `(tactic| first
  | (with_reducible refine w_seq ?_) | (with_reducible refine w_asg ?_) | (with_reducible refine w_gName ?_) | (with_reducible refine w_ret ?_) | (with_reducible refine w_ifS ?_) | (with_reducible refine w_drop ?_) | (with_reducible refine w_next ?_)
  | ((with_reducible refine' w_aug ?wh ?_); (case wh => exact rfl)) | (with_reducible refine w_match ?_) | (with_reducible refine w_case ?_)
  | ((with_reducible refine' w_var ?wh ?_); (case wh => exact rfl))
  | (with_reducible refine w_c ?_) | (with_reducible refine w_op ?_) | (with_reducible refine w_un ?_) | (with_reducible refine w_nil ?_) | (with_reducible refine w_cons ?_) | (with_reducible refine w_star ?_) | (with_reducible refine w_tup ?_) | (with_reducible refine w_lst ?_)
  | (with_reducible refine w_if ?_) | (with_reducible refine w_and ?_) | (with_reducible refine w_or ?_) | (with_reducible refine w_not ?_) | (with_reducible refine w_bq ?_) | (with_reducible refine w_B ?_) | (with_reducible refine w_test ?_) | (with_reducible refine w_andV ?_) | (with_reducible refine w_orV ?_) | (with_reducible refine w_notV ?_)
  | (with_reducible refine w_chain ?_) | (with_reducible refine w_rI0 ?_) | (with_reducible refine w_rU ?_) | (with_reducible refine w_ipI ?_)
  | (with_reducible refine w_eqI ?_) | (with_reducible refine w_neI ?_) | (with_reducible refine w_eqS ?_) | (with_reducible refine w_neS ?_) | (with_reducible refine w_eqB ?_) | (with_reducible refine w_neB ?_) | (with_reducible refine w_isNr ?_) | (with_reducible refine w_isNn ?_)
  | (with_reducible refine w_sl ?_) | (with_reducible refine w_noPart ?_) | (with_reducible refine w_part ?_) | (with_reducible refine w_pq ?_) | (with_reducible refine w_revL ?_) | (with_reducible refine w_revS ?_)
  | (with_reducible refine w_cb ?_) | (with_reducible refine w_min2 ?_) | (with_reducible refine w_max2 ?_) | (with_reducible refine w_intB ?_)
  | (with_reducible refine w_fn ?_) | (with_reducible refine w_me ?_) | (with_reducible refine w_pr ?_) | (with_reducible refine w_mk ?_) | (with_reducible refine w_fld ?_)
  | (with_reducible refine w_isi_ii ?_) | (with_reducible refine w_isi_ib ?_) | (with_reducible refine w_isi_ss ?_)
  | ((with_reducible refine' w_isi_ll ?wh ?_); (case wh => walk_at "lk"))
  | ((with_reducible refine' w_isi_own ?wh ?wq); (case wh => walk_at "isx"))
  | ((with_reducible refine' w_lenL ?wh ?_); (case wh => walk_at "lk")) | ((with_reducible refine' w_ixL ?wh ?wi ?_); (case wh => walk_at "lk"); (case wi => first | assumption | exact rfl)) | ((with_reducible refine' w_ixT ?wh ?wi ?_); (case wh => walk_at "lk"); (case wi => first | assumption | exact rfl))
  | ((with_reducible refine' w_slL ?wh ?_); (case wh => walk_at "lk")) | ((with_reducible refine' w_rvq ?wh ?_); (case wh => walk_at "lk")) | ((with_reducible refine' w_listO ?wh ?_); (case wh => walk_at "lk")) | ((with_reducible refine' w_starL ?wh ?_); (case wh => walk_at "lk"))
  | ((with_reducible refine' w_fq ?wh ?wc ?wn ?wl ?_); (case wh => walk_at "lk"); (case wc => walk_at "sd"); (case wn => walk_at "sd"); (case wl => exact rfl))
  | ((with_reducible refine' w_sum ?wh ?_); (case wh => walk_at "lk"))
  | ((with_reducible refine' w_all ?wh ?_); (case wh => walk_at "lk"))
  | (with_reducible refine w_forL ?_) | ((with_reducible refine' w_forLq ?wh ?_); (case wh => walk_at "lk")) | (with_reducible refine w_forS ?_) | (with_reducible refine w_forSq ?_) | (with_reducible refine w_forR1 ?_) | ((with_reducible refine' w_forR1q ?wh ?_); (case wh => omega)) | (with_reducible refine w_forR2 ?_) | ((with_reducible refine' w_forR2q ?wh ?_); (case wh => omega)) | (with_reducible refine w_forE ?_) | ((with_reducible refine' w_forEq ?wh ?_); (case wh => walk_at "lk"))
  | (with_reducible refine w_lcL ?_) | ((with_reducible refine' w_lcLq ?wh ?_); (case wh => walk_at "lk")) | (with_reducible refine w_lcS ?_) | (with_reducible refine w_lcSq ?_) | (with_reducible refine w_lcR2 ?_) | ((with_reducible refine' w_lcR2q ?wh ?_); (case wh => omega))
  | (with_reducible refine w_bm ?_) | ((with_reducible refine' w_bmq ?wh ?_); (case wh => walk_at "lk")) | (with_reducible refine w_bm0 ?_) | ((with_reducible refine' w_bm0q ?wh ?_); (case wh => walk_at "lk"))
  | ((with_reducible refine' w_getL ?wh ?wi ?_); (case wh => walk_at "lk"); (case wi => first | assumption | exact rfl)) | (with_reducible refine w_gSub ?_) | (with_reducible refine w_augS ?_)
  | ((with_reducible refine' w_gTup ?wh ?wl ?_); (case wh => walk_at "lk"); (case wl => exact rfl)) | (with_reducible refine w_gCons ?_) | (with_reducible refine w_gNil ?_)
  | (with_reducible refine w_parT ?_) | (with_reducible refine w_parq ?_) | (with_reducible refine w_par3T ?_) | (with_reducible refine w_par3q ?_) | (with_reducible refine w_sfld ?_) | (with_reducible refine w_ob ?_) | (with_reducible refine w_obq ?_)
  | ((with_reducible refine' w_sfq ?wh ?wc ?wn ?wl ?wq); (case wh => walk_at "lk"); (case wc => walk_at "sd"); (case wn => walk_at "sd"); (case wl => exact Nat.le_of_ble_eq_true rfl))
  | ((with_reducible refine' w_rI ?wh ?wq); (case wh => first | decide | exact ⟨by decide, by decide⟩)) | (with_reducible refine w_pairsC ?_) | (with_reducible refine w_pairsN ?_) | ((with_reducible refine' w_cat ?wh ?wk ?wl ?wq); (case wh => walk_at "lk"); (case wk => walk_at "lk"); (case wl => walk_at "sz"))
  | ((with_reducible refine' w_mqRow ?wh ?wl ?wk ?wq); (case wh => walk_at "rw"); (case wl => exact rfl); (case wk => exact rfl))
  | ((with_reducible refine' w_mq ?wh ?wl ?wq); (case wh => walk_at "lk"); (case wl => exact rfl))
  | ((with_reducible refine' w_wipe ?wh ?wq); (case wh => exact rfl)) | (with_reducible refine w_yesT ?_)
  | (with_reducible refine w_isNumber ?_) | (with_reducible refine w_isCount ?_) | (with_reducible refine w_isColour ?_) | (with_reducible refine w_checkGame ?_) | (with_reducible refine w_checkGoal ?_) | (with_reducible refine w_checkWords ?_)
  | (with_reducible refine iteT ?_) | (with_reducible refine iteF ?_) | ((with_reducible refine' w_yes ?wh ?_); (case wh => exact rfl)) | ((with_reducible refine' w_no ?wh ?_); (case wh => exact rfl)))
local macro_rules | `(tactic| walk_at "sz") => `(tactic| first | (refine sz_le ?_; first | assumption | (simp only [List.length_map, List.length_append, List.length_cons, List.length_nil]; omega) | omega) | (refine sz_lt ?_; first | assumption | (simp only [List.length_map, List.length_append, List.length_cons, List.length_nil]; omega) | omega))
local macro_rules | `(tactic| walk_at "go") => `(tactic| repeat (walk_at "w"))
local macro_rules | `(tactic| walk_at "bt") => `(tactic| first | exact rfl | assumption | (simp [*]; done) | (simp; omega) | (simp [*]; omega))
local macro_rules | `(tactic| walk_at "yes") => `(tactic| ((with_reducible refine' w_yes ?wh ?wq); (case wh => walk_at "bt"); walk_at "go"))
local macro_rules | `(tactic| walk_at "no") => `(tactic| ((with_reducible refine' w_no ?wh ?wq); (case wh => walk_at "bt"); walk_at "go"))
local macro_rules | `(tactic| walk_at "st") => `(tactic| ((try dsimp only [L2.cxOf, L2.Cx.nox, L2.Cx.wish]); walk_at "go"))
local macro_rules | `(tactic| walk_at "rw") => `(tactic| first | assumption | ((with_reducible refine' IsRow.rw ?wk); (case wk => walk_at "rw")) | ((with_reducible refine' IsRw.ex (by assumption) ?wk); (case wk => walk_at "rw")) | ((with_reducible refine' IsRow.ex (by assumption) ?wk); (case wk => walk_at "rw")))
local macro_rules | `(tactic| walk_at "ro") => `(tactic| first | assumption | ((with_reducible refine' IsRow.ex (by assumption) ?wk); (case wk => walk_at "ro")))
local macro_rules | `(tactic| walk_at "fl") => `(tactic| first | assumption | ((with_reducible refine' IsFlip.ex (by assumption) ?wk); (case wk => walk_at "fl")))
local macro_rules | `(tactic| walk_at "w") => `(tactic| first
  | ((with_reducible refine' w_first ?wh ?wq); (case wh => walk_at "rw")) | ((with_reducible refine' w_runs ?wh ?wq); (case wh => walk_at "rw")) | ((with_reducible refine' w_length ?wh ?wq); (case wh => walk_at "rw")) | ((with_reducible refine' w_lengths ?wh ?wq); (case wh => walk_at "rw")))
local macro_rules | `(tactic| walk_at "w") => `(tactic| first
  | ((with_reducible refine' w_start ?wh ?wq); (case wh => walk_at "fl")) | ((with_reducible refine' w_end ?wh ?wq); (case wh => walk_at "fl")))
local macro_rules | `(tactic| walk_at "w") => `(tactic| first | (with_reducible refine w_dget ?_))
theorem w_eqNilP {K : PySem.W.Frag} {H : Hp} {Q : VK} {a b : Addr} {ts : List Addr} {ps : List Pl} (h1 : SqL K H a (ts.map V.ref)) (k : TupsAt H ts ps) (h2 : SqL K H b []) (q : Q (.bl ps.isEmpty) H) : rEqD K (.ref a) (.ref b) H Q :=
  w_eqD (.lst h1 (dpAll_tups k)) (dp_nil h2) (fl_pairs ps) fl_nil (by rw [eqv_nil]; cases ps <;> exact q)
theorem TupsAt.last {H : Hp} {ts : List Addr} {ps : List Pl} {p : Pl} (h : TupsAt H ts (ps ++ [p])) : ∃ us t, ts = us ++ [t] ∧ TupsAt H us ps ∧ H t = some (.tup [.int p.1, .int p.2]) := by
  have hl := paired_len h
  have hne : ts ≠ [] := fun z => by rw [z] at hl; simp at hl
  obtain ⟨us, t, rfl⟩ := snoc_of hne
  have hl2 : us.length = ps.length := by simp at hl; exact hl
  refine ⟨us, t, rfl, paired_mk hl2 fun i a b ha hb => ?_, ?_⟩
  · have i1 := (List.getElem?_eq_some_iff.mp ha).1
    have i2 := (List.getElem?_eq_some_iff.mp hb).1
    exact paired_at h i a b (by rw [List.getElem?_append_left i1]; exact ha) (by rw [List.getElem?_append_left i2]; exact hb)
  · exact paired_at h us.length t p (by simp) (by rw [hl2]; simp)
theorem MS.lw {H H' : Hp} {l : Addr} {S : List Addr} (m : Mu l H H') (h : l ∈ S) : MS S H H' := MS.ofMu m h
theorem LwAt.fr4 {H H' : Hp} {z wl dl ul p : Addr} {ws : List Wd} {dts uts : List Addr} {ds us : List Pl} (L : LwAt H' z wl dl ul ws dts uts ds us) (m : MS [z, wl, dl, ul] H H') (n : H' p = none) : H p = none :=
  fr_ms m (fun l hl => by
    simp only [List.mem_cons, List.not_mem_nil, or_false] at hl
    rcases hl with rfl | rfl | rfl | rfl
    · rw [L.hz]; intro z; cases z
    · rw [L.hw]; intro z; cases z
    · rw [L.hd]; intro z; cases z
    · rw [L.hu]; intro z; cases z) n
def spUndone : Sp := fun vs H Q _ => ∃ (z : Addr) (ws : List Wd) (ds us : List Pl) (G : Hp), vs = [.ref z] ∧ Lw G H z ws ds us ∧ ds.length ≤ 5000 ∧ us.length ≤ 5000 ∧ ws ≠ [] ∧
  (ds = [] → ∀ v H', Ex H H' → AnsV H H' v [.str "nothing"] → Q v H') ∧
  (∀ ws' u ds' p, ws = ws' ++ [u] → ds = ds' ++ [p] → ∀ v H', Lw G H' z ws' ds' (us ++ [p]) → AnsV H H' v [.str "told", .int (ds'.length : Nat)] → Q v H')
theorem sc_law_undone : FnScope ["_law_state"] ["_law_state"] (defScope (top 60)) := ⟨rfl, rfl, rfl, by decide +kernel, rfl, by decide +kernel, by decide +kernel⟩
theorem ok_law_undone {P : Program} {w : World} {K : PySem.W.Frag} {mg : Str → Option Value} {base : Heap} (T : Tx P K mg) : Ok P w K mg base 1 (He.ga K "_law_undone") (spUndone) := by
  refine ok_mk T.d_law_undone sc_law_undone (fun vs H Q E h => ?len) (fun _ _ _ _ _ _ us hl => match us, hl with | [_], _ => rfl) (fun cdv A outer s H vs Q E hr h => ⟨_, (pss_cons (ps_if (pt_cmpR (op_eqD hr.units) (pe_ix ix_list (pv 0) pe_int (fun _ _ => rfl)) (pe_lst pa_nil) (nomark _)) (pss_one (ps_ret (pe_lst (pa_cons pe_str pa_nil)))) pss_nil) (pss_cons (ps_expr (pe_bm0 PySem.F.plainAttrs_list PySem.F.slot_list_pop PySem.F.type_list_pop mt_pop (pe_ix ix_list (pv 0) pe_int (fun _ _ => rfl)))) (pss_cons (ps_expr (pe_bm PySem.F.plainAttrs_list PySem.F.slot_list_append PySem.F.type_list_append mt_append (pe_ix ix_list (pv 0) pe_int (fun _ _ => rfl)) (pa_cons (pe_bm0 PySem.F.plainAttrs_list PySem.F.slot_list_pop PySem.F.type_list_pop mt_pop (pe_ix ix_list (pv 0) pe_int (fun _ _ => rfl))) pa_nil))) (pss_one (ps_ret (pe_lst (pa_cons pe_str (pa_cons (pe_callB cq_lenQ (by rfl) T.z_len (by decide +kernel) (pa_cons (pe_ix ix_list (pv 0) pe_int (fun _ _ => rfl)) pa_nil)) pa_nil)))))))), ?body⟩)
  case len => obtain ⟨z, ws, ds, us, G, rfl, _⟩ := h; rfl
  case body =>
    obtain ⟨z, ws, ds, us, G, rfl, lw, zd, zu, hws, q1, q2⟩ := h
    obtain ⟨eG, wl, dl, ul, dts, uts, L, g1, g2, g3, g4⟩ := lw
    walk_at "st"
    refine w_ixL (K := K) (sl_of L.hz) (v := .ref dl) rfl ?_
    walk_at "go"
    refine w_newA (by show (0 : Nat) ≤ sizeLine; decide) fun p1 H1 e1 n1 h1 => ?_
    have L1 := L.ex e1
    walk_at "go"
    refine w_eqNilP (K := K) (sl_of L1.hd) L1.dF (sl_of h1) ?_
    by_cases hds : ds = []
    · subst hds
      walk_at "go"
      refine w_newA (by show (1 : Nat) ≤ sizeLine; decide) fun p H2 e2 n2 h2 => ?_
      exact q1 rfl _ _ (e1.trans e2) ⟨p, rfl, fr_back e1 n2, h2⟩
    obtain ⟨ds', p, rfl⟩ := snoc_of hds
    obtain ⟨ws', u, rfl⟩ := snoc_of hws
    obtain ⟨dts', t, rfl, k', ht⟩ := L1.dF.last
    rw [show (ds' ++ [p]).isEmpty = false by cases ds' <;> rfl]
    walk_at "go"
    refine w_ixL (K := K) (sl_of L1.hz) (v := .ref wl) rfl ?_
    refine w_bm0q L1.hw ?_
    refine w_pop (y := .str (sT u)) L1.hw (by simp) fun H2 m2 h2 => ?_
    have L2 := L1.setW (ws' := ws') m2 (by rw [h2]; simp)
    have G2 := m2 G (eG.trans e1) g2
    walk_at "go"
    refine w_ixL (K := K) (sl_of L2.hz) (v := .ref ul) rfl ?_
    refine w_bmq L2.hu ?_
    walk_at "go"
    refine w_ixL (K := K) (sl_of L2.hz) (v := .ref dl) rfl ?_
    refine w_bm0q L2.hd ?_
    refine w_pop (y := .ref t) L2.hd (by simp) fun H3 m3 h3 => ?_
    have k2 := k'.mu m2 L1.hw
    have t2 := mu_at m2 ht (ne_of ht L1.hw (by intro z; cases z))
    have L3 := L2.setD (dts' := dts') (ds' := ds') m3 (by rw [h3]; simp) (k2.mu m3 L2.hd)
    have t3 := mu_at m3 t2 (ne_of t2 L2.hd (by intro z; cases z))
    have G3 := m3 G G2 g3
    have zut : uts.length = us.length := paired_len L3.uF
    walk_at "go"
    refine w_apq L3.hu (by rw [List.length_map]; omega) fun H4 m4 h4 => ?_
    have L4 := L3.setU (uts' := uts ++ [t]) (us' := us ++ [p]) m4 (by rw [h4]; simp) (L3.uF.mud m4 L3.hu t3)
    have G4 := m4 G G3 g4
    walk_at "go"
    refine w_ixL (K := K) (sl_of L4.hz) (v := .ref dl) rfl ?_
    walk_at "go"
    refine w_lenL (K := K) (sl_of L4.hd) ?_
    walk_at "go"
    refine w_newA (by show (2 : Nat) ≤ sizeLine; decide) fun p8 H8 e8 n8 h8 => ?_
    have zdt : dts'.length = ds'.length := paired_len L4.dF
    refine q2 ws' u ds' p rfl rfl _ _ ⟨G4.trans e8, wl, dl, ul, _, _, L4.ex e8, g1, g2, g3, g4⟩ ⟨p8, rfl, ?_, ?_⟩
    · exact L4.fr4 ((((MS.ofEx e1).trans (MS.ofMu m2 (by simp))).trans (MS.ofMu m3 (by simp))).trans (MS.ofMu m4 (by simp))) n8
    · rw [h8, List.length_map, zdt]
def spRedone : Sp := fun vs H Q _ => ∃ (z : Addr) (ws : List Wd) (u : Wd) (ds us : List Pl) (G : Hp), vs = [.ref z] ∧ Lw G H z (ws ++ [u]) ds us ∧ u.length ≤ 7 ∧ ws.length ≤ 5000 ∧ ds.length ≤ 5000 ∧ us.length ≤ 5000 ∧ OkFl u.length us ∧
  (us = [] → ∀ v H', Ex H H' → AnsV H H' v [.str "nothing"] → Q v H') ∧
  (∀ us' p, us = us' ++ [p] → ∀ v H', Lw G H' z (ws ++ [u, turnW u p.1 p.2]) (ds ++ [p]) us' → AnsV H H' v [.str "told", .int ((ds.length + 1 : Nat) : Int)] → Q v H')
theorem sc_law_redone : FnScope ["_law_state", "_law_start", "_law_end"] ["_law_state"] (defScope (top 61)) := ⟨rfl, rfl, rfl, by decide +kernel, rfl, by decide +kernel, by decide +kernel⟩
theorem ok_law_redone {P : Program} {w : World} {K : PySem.W.Frag} {mg : Str → Option Value} {base : Heap} (T : Tx P K mg) : Ok P w K mg base 2 (He.ga K "_law_redone") (spRedone) := by
  refine ok_mk T.d_law_redone sc_law_redone (fun vs H Q E h => ?len) (fun _ _ _ _ _ _ us hl => match us, hl with | [_], _ => rfl) (fun cdv A outer s H vs Q E hr h => ⟨_, (pss_cons (ps_if (pt_cmpR (op_eqD hr.units) (pe_ix ix_list (pv 0) pe_int (fun _ _ => rfl)) (pe_lst pa_nil) (nomark _)) (pss_one (ps_ret (pe_lst (pa_cons pe_str pa_nil)))) pss_nil) (pss_cons (ps_asg (pe_bm0 PySem.F.plainAttrs_list PySem.F.slot_list_pop PySem.F.type_list_pop mt_pop (pe_ix ix_list (pv 0) pe_int (fun _ _ => rfl))) (pg_tup rfl (pgs_cons (pg_name (i := 1) sc_law_redone.nd rfl (Or.inl rfl)) (pgs_cons (pg_name (i := 2) sc_law_redone.nd rfl (Or.inl rfl)) pgs_nil)))) (pss_cons (ps_expr (pe_bm PySem.F.plainAttrs_list PySem.F.slot_list_append PySem.F.type_list_append mt_append (pe_ix ix_list (pv 0) pe_int (fun _ _ => rfl)) (pa_cons (pe_fn (ok_law_turn T) hr T.g_law_turn (pa_cons (pe_ix ix_list (pe_ix ix_list (pv 0) pe_int (fun _ _ => rfl)) (pe_un un_neg pe_int) (fun _ _ => rfl)) (pa_cons (pv 1) (pa_cons (pv 2) pa_nil)))) pa_nil))) (pss_cons (ps_expr (pe_bm PySem.F.plainAttrs_list PySem.F.slot_list_append PySem.F.type_list_append mt_append (pe_ix ix_list (pv 0) pe_int (fun _ _ => rfl)) (pa_cons (pe_tup (pa_cons (pv 1) (pa_cons (pv 2) pa_nil))) pa_nil))) (pss_one (ps_ret (pe_lst (pa_cons pe_str (pa_cons (pe_callB cq_lenQ (by rfl) T.z_len (by decide +kernel) (pa_cons (pe_ix ix_list (pv 0) pe_int (fun _ _ => rfl)) pa_nil)) pa_nil))))))))), ?body⟩)
  case len => obtain ⟨z, ws, u, ds, us, G, rfl, _⟩ := h; rfl
  case body =>
    obtain ⟨z, ws, u, ds, us, G, rfl, lw, zu7, zw, zd, zu, hok, q1, q2⟩ := h
    obtain ⟨eG, wl, dl, ul, dts, uts, L, g1, g2, g3, g4⟩ := lw
    walk_at "st"
    refine w_ixL (K := K) (sl_of L.hz) (v := .ref ul) rfl ?_
    walk_at "go"
    refine w_newA (by show (0 : Nat) ≤ sizeLine; decide) fun p1 H1 e1 n1 h1 => ?_
    have L1 := L.ex e1
    walk_at "go"
    refine w_eqNilP (K := K) (sl_of L1.hu) L1.uF (sl_of h1) ?_
    by_cases hds : us = []
    · subst hds
      walk_at "go"
      refine w_newA (by show (1 : Nat) ≤ sizeLine; decide) fun p H2 e2 n2 h2 => ?_
      exact q1 rfl _ _ (e1.trans e2) ⟨p, rfl, fr_back e1 n2, h2⟩
    obtain ⟨us', p, rfl⟩ := snoc_of hds
    obtain ⟨uts', t, rfl, k', ht⟩ := L1.uF.last
    have hp := hok p (by simp)
    rw [show (us' ++ [p]).isEmpty = false by cases us' <;> rfl]
    walk_at "go"
    refine w_ixL (K := K) (sl_of L1.hz) (v := .ref ul) rfl ?_
    refine w_bm0q L1.hu ?_
    refine w_pop (y := .ref t) L1.hu (by simp) fun H3 m3 h3 => ?_
    have L3 := L1.setU (uts' := uts') (us' := us') m3 (by rw [h3]; simp) (k'.mu m3 L1.hu)
    have t3 := mu_at m3 ht (ne_of ht L1.hu (by intro z; cases z))
    have G3 := m3 G (eG.trans e1) g4
    walk_at "go"
    refine w_ixL (K := K) (sl_of L3.hz) (v := .ref wl) rfl ?_
    refine w_bmq L3.hw ?_
    walk_at "go"
    refine w_ixL (K := K) (sl_of L3.hz) (v := .ref wl) rfl ?_
    walk_at "go"
    refine w_ixL (K := K) (sl_of L3.hw) (at_last ws u) ?_
    walk_at "go"
    refine w_lturn zu7 (by omega) (by omega) ?_
    walk_at "go"
    refine w_apq L3.hw (by simp; omega) fun H4 m4 h4 => ?_
    have L4 := L3.setW (ws' := ws ++ [u, turnW u p.1 p.2]) m4 (by rw [h4]; simp)
    have G4 := m4 G G3 g2
    walk_at "go"
    refine w_ixL (K := K) (sl_of L4.hz) (v := .ref dl) rfl ?_
    refine w_bmq L4.hd ?_
    walk_at "go"
    refine w_newA (by show (2 : Nat) ≤ sizeLine; decide) fun p5 H5 e5 n5 h5 => ?_
    have L5 := L4.ex e5
    have zdt : dts.length = ds.length := paired_len L5.dF
    walk_at "go"
    refine w_apq L5.hd (by rw [List.length_map]; omega) fun H6 m6 h6 => ?_
    have L6 := L5.setD (dts' := dts ++ [p5]) (ds' := ds ++ [p]) m6 (by rw [h6]; simp) (L5.dF.mud m6 L5.hd h5)
    have G6 := m6 G (G4.trans e5) g3
    walk_at "go"
    refine w_ixL (K := K) (sl_of L6.hz) (v := .ref dl) rfl ?_
    walk_at "go"
    refine w_newA (by show (2 : Nat) ≤ sizeLine; decide) fun p8 H8 e8 n8 h8 => ?_
    refine q2 us' p rfl _ _ ⟨G6.trans e8, wl, dl, ul, _, _, L6.ex e8, g1, g2, g3, g4⟩ ⟨p8, rfl, ?_, ?_⟩
    · exact L6.fr4 (((((MS.ofEx e1).trans (MS.ofMu m3 (by simp))).trans (MS.ofMu m4 (by simp))).trans (MS.ofEx e5)).trans (MS.ofMu m6 (by simp))) n8
    · rw [h8, List.length_append, List.length_map, zdt]
      rfl
end Tcf

set_option Elab.async false
set_option linter.all false
set_option maxRecDepth 100000
set_option maxHeartbeats 4000000
/-! EK: the law's list of deeds (printed from EK.tmpl by gen_der.py). -/
namespace Tcf
open PySem PySem.Spec PyProof.Rows L2
open Evl (Ex)
set_option hygiene false in
local macro_rules | `(tactic| walk_at "lkT") => `(tactic| first | (with_reducible exact T.l_GAMES _) | (with_reducible exact T.l_GOALS _))
set_option hygiene false in
local macro_rules | `(tactic| walk_at "isx") => `(tactic| first | (with_reducible exact T.is_Row (by walk_at "lk")) | (with_reducible exact T.is_Flip (by walk_at "lk")) | (with_reducible exact T.is_Table (by walk_at "lk")))
local macro_rules | `(tactic| walk_at "lk") => `(tactic| first
  | assumption
  | walk_at "lkT"
  | ((with_reducible refine' ex_at (by assumption) ?wk); (case wk => walk_at "lk"))
  | ((with_reducible refine' sl_of ?wk); (case wk => walk_at "lk"))
  | ((with_reducible refine' st_of ?wk); (case wk => walk_at "lk"))
  | ((with_reducible refine' ex_l (by assumption) ?wk); (case wk => walk_at "lk"))
  | ((with_reducible refine' ex_t (by assumption) ?wk); (case wk => walk_at "lk"))
  | ((with_reducible refine' mu_at (by assumption) ?wk ?wn); (case wk => walk_at "lk"); (case wn => assumption)))
set_option hygiene false in
local macro_rules | `(tactic| walk_at "sd") => `(tactic| first
  | exact rfl | assumption | (with_reducible exact T.c_Row) | (with_reducible exact T.c_Flip) | (with_reducible exact T.c_Table) | (with_reducible exact T.c_Trial)
  | (with_reducible exact T.n_Row_colour) | (with_reducible exact T.n_Row_sizes) | (with_reducible exact T.n_Flip_begin) | (with_reducible exact T.n_Flip_finish) | (with_reducible exact T.n_Trial_home) | (with_reducible exact T.n_Trial_kept)
  | (with_reducible exact T.n_Table_beginning) | (with_reducible exact T.n_Table_words) | (with_reducible exact T.n_Table_state))
local macro_rules | `(tactic| walk_at "w") => `(tactic| first
  | (with_reducible refine w_seq ?_) | (with_reducible refine w_asg ?_) | (with_reducible refine w_gName ?_) | (with_reducible refine w_ret ?_) | (with_reducible refine w_ifS ?_) | (with_reducible refine w_drop ?_) | (with_reducible refine w_next ?_)
  | ((with_reducible refine' w_aug ?wh ?_); (case wh => exact rfl)) | (with_reducible refine w_match ?_) | (with_reducible refine w_case ?_)
  | ((with_reducible refine' w_var ?wh ?_); (case wh => exact rfl))
  | (with_reducible refine w_c ?_) | (with_reducible refine w_op ?_) | (with_reducible refine w_un ?_) | (with_reducible refine w_nil ?_) | (with_reducible refine w_cons ?_) | (with_reducible refine w_star ?_) | (with_reducible refine w_tup ?_) | (with_reducible refine w_lst ?_)
  | (with_reducible refine w_if ?_) | (with_reducible refine w_and ?_) | (with_reducible refine w_or ?_) | (with_reducible refine w_not ?_) | (with_reducible refine w_bq ?_) | (with_reducible refine w_B ?_) | (with_reducible refine w_test ?_) | (with_reducible refine w_andV ?_) | (with_reducible refine w_orV ?_) | (with_reducible refine w_notV ?_)
  | (with_reducible refine w_chain ?_) | (with_reducible refine w_rI0 ?_) | (with_reducible refine w_rU ?_) | (with_reducible refine w_ipI ?_)
  | (with_reducible refine w_eqI ?_) | (with_reducible refine w_neI ?_) | (with_reducible refine w_eqS ?_) | (with_reducible refine w_neS ?_) | (with_reducible refine w_eqB ?_) | (with_reducible refine w_neB ?_) | (with_reducible refine w_isNr ?_) | (with_reducible refine w_isNn ?_)
  | (with_reducible refine w_sl ?_) | (with_reducible refine w_noPart ?_) | (with_reducible refine w_part ?_) | (with_reducible refine w_pq ?_) | (with_reducible refine w_revL ?_) | (with_reducible refine w_revS ?_)
  | (with_reducible refine w_cb ?_) | (with_reducible refine w_min2 ?_) | (with_reducible refine w_max2 ?_) | (with_reducible refine w_intB ?_)
  | (with_reducible refine w_fn ?_) | (with_reducible refine w_me ?_) | (with_reducible refine w_pr ?_) | (with_reducible refine w_mk ?_) | (with_reducible refine w_fld ?_)
  | (with_reducible refine w_isi_ii ?_) | (with_reducible refine w_isi_ib ?_) | (with_reducible refine w_isi_ss ?_)
  | ((with_reducible refine' w_isi_ll ?wh ?_); (case wh => walk_at "lk"))
  | ((with_reducible refine' w_isi_own ?wh ?wq); (case wh => walk_at "isx"))
  | ((with_reducible refine' w_lenL ?wh ?_); (case wh => walk_at "lk")) | ((with_reducible refine' w_ixL ?wh ?wi ?_); (case wh => walk_at "lk"); (case wi => first | assumption | exact rfl)) | ((with_reducible refine' w_ixT ?wh ?wi ?_); (case wh => walk_at "lk"); (case wi => first | assumption | exact rfl))
  | ((with_reducible refine' w_slL ?wh ?_); (case wh => walk_at "lk")) | ((with_reducible refine' w_rvq ?wh ?_); (case wh => walk_at "lk")) | ((with_reducible refine' w_listO ?wh ?_); (case wh => walk_at "lk")) | ((with_reducible refine' w_starL ?wh ?_); (case wh => walk_at "lk"))
  | ((with_reducible refine' w_fq ?wh ?wc ?wn ?wl ?_); (case wh => walk_at "lk"); (case wc => walk_at "sd"); (case wn => walk_at "sd"); (case wl => exact rfl))
  | ((with_reducible refine' w_sum ?wh ?_); (case wh => walk_at "lk"))
  | ((with_reducible refine' w_all ?wh ?_); (case wh => walk_at "lk"))
  | (with_reducible refine w_forL ?_) | ((with_reducible refine' w_forLq ?wh ?_); (case wh => walk_at "lk")) | (with_reducible refine w_forS ?_) | (with_reducible refine w_forSq ?_) | (with_reducible refine w_forR1 ?_) | ((with_reducible refine' w_forR1q ?wh ?_); (case wh => omega)) | (with_reducible refine w_forR2 ?_) | ((with_reducible refine' w_forR2q ?wh ?_); (case wh => omega)) | (with_reducible refine w_forE ?_) | ((with_reducible refine' w_forEq ?wh ?_); (case wh => walk_at "lk"))
  | (with_reducible refine w_lcL ?_) | ((with_reducible refine' w_lcLq ?wh ?_); (case wh => walk_at "lk")) | (with_reducible refine w_lcS ?_) | (with_reducible refine w_lcSq ?_) | (with_reducible refine w_lcR2 ?_) | ((with_reducible refine' w_lcR2q ?wh ?_); (case wh => omega))
  | (with_reducible refine w_bm ?_) | ((with_reducible refine' w_bmq ?wh ?_); (case wh => walk_at "lk")) | (with_reducible refine w_bm0 ?_) | ((with_reducible refine' w_bm0q ?wh ?_); (case wh => walk_at "lk"))
  | ((with_reducible refine' w_getL ?wh ?wi ?_); (case wh => walk_at "lk"); (case wi => first | assumption | exact rfl)) | (with_reducible refine w_gSub ?_) | (with_reducible refine w_augS ?_)
  | ((with_reducible refine' w_gTup ?wh ?wl ?_); (case wh => walk_at "lk"); (case wl => exact rfl)) | (with_reducible refine w_gCons ?_) | (with_reducible refine w_gNil ?_)
  | (with_reducible refine w_parT ?_) | (with_reducible refine w_parq ?_) | (with_reducible refine w_par3T ?_) | (with_reducible refine w_par3q ?_) | (with_reducible refine w_sfld ?_) | (with_reducible refine w_ob ?_) | (with_reducible refine w_obq ?_)
  | ((with_reducible refine' w_sfq ?wh ?wc ?wn ?wl ?wq); (case wh => walk_at "lk"); (case wc => walk_at "sd"); (case wn => walk_at "sd"); (case wl => exact Nat.le_of_ble_eq_true rfl))
  | ((with_reducible refine' w_rI ?wh ?wq); (case wh => first | decide | exact ⟨by decide, by decide⟩)) | (with_reducible refine w_pairsC ?_) | (with_reducible refine w_pairsN ?_) | ((with_reducible refine' w_cat ?wh ?wk ?wl ?wq); (case wh => walk_at "lk"); (case wk => walk_at "lk"); (case wl => walk_at "sz"))
  | ((with_reducible refine' w_mqRow ?wh ?wl ?wk ?wq); (case wh => walk_at "rw"); (case wl => exact rfl); (case wk => exact rfl))
  | ((with_reducible refine' w_mq ?wh ?wl ?wq); (case wh => walk_at "lk"); (case wl => exact rfl))
  | ((with_reducible refine' w_wipe ?wh ?wq); (case wh => exact rfl)) | (with_reducible refine w_yesT ?_)
  | (with_reducible refine w_isNumber ?_) | (with_reducible refine w_isCount ?_) | (with_reducible refine w_isColour ?_) | (with_reducible refine w_checkGame ?_) | (with_reducible refine w_checkGoal ?_) | (with_reducible refine w_checkWords ?_)
  | (with_reducible refine iteT ?_) | (with_reducible refine iteF ?_) | ((with_reducible refine' w_yes ?wh ?_); (case wh => exact rfl)) | ((with_reducible refine' w_no ?wh ?_); (case wh => exact rfl)))
local macro_rules | `(tactic| walk_at "sz") => `(tactic| first | (refine sz_le ?_; first | assumption | (simp only [List.length_map, List.length_append, List.length_cons, List.length_nil]; omega) | omega) | (refine sz_lt ?_; first | assumption | (simp only [List.length_map, List.length_append, List.length_cons, List.length_nil]; omega) | omega))
local macro_rules | `(tactic| walk_at "go") => `(tactic| repeat (walk_at "w"))
local macro_rules | `(tactic| walk_at "bt") => `(tactic| first | exact rfl | assumption | (simp [*]; done) | (simp; omega) | (simp [*]; omega))
local macro_rules | `(tactic| walk_at "yes") => `(tactic| ((with_reducible refine' w_yes ?wh ?wq); (case wh => walk_at "bt"); walk_at "go"))
local macro_rules | `(tactic| walk_at "no") => `(tactic| ((with_reducible refine' w_no ?wh ?wq); (case wh => walk_at "bt"); walk_at "go"))
local macro_rules | `(tactic| walk_at "st") => `(tactic| ((try dsimp only [L2.cxOf, L2.Cx.nox, L2.Cx.wish]); walk_at "go"))
local macro_rules | `(tactic| walk_at "rw") => `(tactic| first | assumption | ((with_reducible refine' IsRow.rw ?wk); (case wk => walk_at "rw")) | ((with_reducible refine' IsRw.ex (by assumption) ?wk); (case wk => walk_at "rw")) | ((with_reducible refine' IsRow.ex (by assumption) ?wk); (case wk => walk_at "rw")))
local macro_rules | `(tactic| walk_at "ro") => `(tactic| first | assumption | ((with_reducible refine' IsRow.ex (by assumption) ?wk); (case wk => walk_at "ro")))
local macro_rules | `(tactic| walk_at "fl") => `(tactic| first | assumption | ((with_reducible refine' IsFlip.ex (by assumption) ?wk); (case wk => walk_at "fl")))
local macro_rules | `(tactic| walk_at "w") => `(tactic| first
  | ((with_reducible refine' w_first ?wh ?wq); (case wh => walk_at "rw")) | ((with_reducible refine' w_runs ?wh ?wq); (case wh => walk_at "rw")) | ((with_reducible refine' w_length ?wh ?wq); (case wh => walk_at "rw")) | ((with_reducible refine' w_lengths ?wh ?wq); (case wh => walk_at "rw")))
local macro_rules | `(tactic| walk_at "w") => `(tactic| first
  | ((with_reducible refine' w_start ?wh ?wq); (case wh => walk_at "fl")) | ((with_reducible refine' w_end ?wh ?wq); (case wh => walk_at "fl")))
local macro_rules | `(tactic| walk_at "w") => `(tactic| first | (with_reducible refine w_dget ?_))
theorem cutV_last (xs : List V) (x : V) : cutV (xs ++ [x]) (some (-1)) none = [x] := by
  unfold cutV
  have e1 : HT.sIx (xs ++ [x]).length 0 (some (-1)) = xs.length := by
    unfold HT.sIx
    simp
    omega
  have e2 : HT.sIx (xs ++ [x]).length (xs ++ [x]).length none = (xs ++ [x]).length := rfl
  rw [e1, e2]
  simp
def spListed : Sp := fun vs H Q _ => ∃ (z : Addr) (ws : List Wd) (u : Wd) (ds us : List Pl) (G : Hp) (fl : Addr) (ts : List Addr) (ps : List Pl) (g : Gm), vs = [.ref z, .ref fl, .str g.s] ∧ Lw G H z (ws ++ [u]) ds us ∧ u.length ≤ 7 ∧
  H fl = some (.lst (ts.map V.ref)) ∧ TupsAt H ts ps ∧ (∀ p ∈ ps, p.1 < p.2) ∧ ps.length ≤ 1000 ∧
  (∀ i, applyP g u ps 0 = .error i → ∀ v H', Ex H H' → AnsV H H' v [.str "plan", .int (i : Nat)] → Q v H') ∧
  (∀ w, applyP g u ps 0 = .ok w → ∀ v fd found H', Ex H H' → AnsV H H' v [.str "told", .ref fd] → H fd = none → H' fd = some (.lst (found.map fun w => V.str (sT w))) → ∀ fs x, u :: found = fs ++ [x] → x = w → found.length ≤ 1000 → Q v H')
theorem sc_law_listed : FnScope ["_law_state", "_law_flips", "_law_game", "_law_found", "_law_at", "_law_place", "_law_word"] ["_law_state", "_law_flips", "_law_game"] (defScope (top 62)) := ⟨rfl, rfl, rfl, by decide +kernel, rfl, by decide +kernel, by decide +kernel⟩
theorem ok_law_listed {P : Program} {w : World} {K : PySem.W.Frag} {mg : Str → Option Value} {base : Heap} (T : Tx P K mg) : Ok P w K mg base 2 (He.ga K "_law_listed") (spListed) := by
  refine ok_mk T.d_law_listed sc_law_listed (fun vs H Q E h => ?len) (fun _ _ _ _ _ _ us hl => match us, hl with | [_, _, _], _ => rfl) (fun cdv A outer s H vs Q E hr h => ⟨_, (pss_cons (ps_set (i := 3) sc_law_listed.nd rfl (.inl rfl) (pe_lst pa_nil)) (pss_cons (ps_for PassesOwn.never rfl (pi_enum (by rfl) T.z_enumerate (pa_cons (pv 1) pa_nil)) (pg_tup rfl (pgs_cons (pg_name (i := 4) sc_law_listed.nd rfl (Or.inl rfl)) (pgs_cons (pg_name (i := 5) sc_law_listed.nd rfl (Or.inl rfl)) pgs_nil))) (pss_cons (ps_set (i := 6) sc_law_listed.nd rfl (.inl rfl) (pe_ix ix_list (pe_op op_cat (pe_slice sl_list (pe_ix ix_list (pv 0) pe_int (fun _ _ => rfl)) (po_some (pe_un un_neg pe_int)) po_none) (pv 3)) (pe_un un_neg pe_int) (fun _ _ => rfl))) (pss_cons (ps_if (pt_cmpR (op_notInD (hu65 hr)) (pv 5) (pe_fn (ok_law_places T) hr T.g_law_places (pa_cons (pe_callB cq_lenT (by rfl) T.z_len (by decide +kernel) (pa_cons (pv 6) pa_nil)) (pa_cons (pv 2) pa_nil))) (by rfl)) (pss_one (ps_ret (pe_lst (pa_cons pe_str (pa_cons (pv 4) pa_nil))))) pss_nil) (pss_one (ps_expr (pe_bm PySem.F.plainAttrs_list PySem.F.slot_list_append PySem.F.type_list_append mt_append (pv 3) (pa_cons (pe_fn (ok_law_turn T) hr T.g_law_turn (pa_cons (pv 6) (pa_cons (pe_ix ix_tup (pv 5) pe_int (fun _ _ => rfl)) (pa_cons (pe_ix ix_tup (pv 5) pe_int (fun _ _ => rfl)) pa_nil)))) pa_nil))))))) (pss_one (ps_ret (pe_lst (pa_cons pe_str (pa_cons (pv 3) pa_nil))))))), ?body⟩)
  case len => obtain ⟨z, ws, u, ds, us, G, fl, ts, ps, g, rfl, _⟩ := h; rfl
  case body =>
    obtain ⟨z, ws, u, ds, us, G, fl, ts, ps, g, rfl, lw, zu, hfl, hts, hps, zps, q1, q2⟩ := h
    obtain ⟨eG, wl, dl, ul, dts, uts, L, g1, g2, g3, g4⟩ := lw
    walk_at "st"
    refine w_newA (by show (0 : Nat) ≤ sizeLine; decide) fun fd H1 e1 n1 h1 => ?_
    walk_at "go"
    have zt := paired_len hts
    have hz := L.hz
    have hw0 := L.hw
    refine w_forW (walk_enum (xs := List.map V.ref ts)) (fun i σ' H' => ∃ fnd fs x x1 x2 x3, σ' = [some (.ref z), some (.ref fl), some (.str g.s), some (.ref fd), x1, x2, x3] ∧ Ex H H' ∧ H' fd = some (.lst (fnd.map fun w => V.str (sT w))) ∧ u :: fnd = fs ++ [x] ∧ x.length = u.length ∧ fnd.length = i ∧ applyP g u (ps.take i) 0 = .ok x) ?i0 ?iG ?is ?id
    case i0 => exact ⟨[], [], u, none, none, none, rfl, e1, h1, rfl, rfl, rfl, rfl⟩
    case iG =>
      rintro i σ' H' _ ⟨fnd, fs, x, x1, x2, x3, _, e5, _⟩
      exact sl_of (e5 _ _ hfl)
    case is =>
      rintro i y σ' H' H'' hi ⟨fnd, fs, x, x1, x2, x3, rfl, e5, hfd, hlast, zx, zf, hap⟩ ⟨T1, y1, y2, rfl, nT, rfl, hy1, hy2⟩
      cases hy1
      obtain ⟨t, ht, rfl⟩ := map_at hy2
      have eT : Ex H' (upd H' T1 (.tup [.int (i : Nat), .ref t])) := Ex.new nT
      have hT : (upd H' T1 (.tup [.int (i : Nat), .ref t])) T1 = some (.tup [.int (i : Nat), .ref t]) := upd_same
      generalize upd H' T1 (.tup [.int (i : Nat), .ref t]) = H3 at *
      obtain ⟨p, hp⟩ : ∃ p, ps[i]? = some p := by
        have : i < ps.length := by rw [← zt]; exact (List.getElem?_eq_some_iff.mp ht).1
        exact ⟨ps[i], List.getElem?_eq_getElem this⟩
      have hi2 := (List.getElem?_eq_some_iff.mp hp).1
      have htp := paired_at hts i t p ht hp
      have e6 := e5.trans eT
      have happ := applyP_app g (ps.take i) (ps.drop i) u x 0 hap
      rw [List.take_append_drop] at happ
      refine w_gTup (st_of hT) rfl ?_
      walk_at "go"
      rw [List.map_append, List.map_singleton, cutV_last]
      refine w_new fun p4 H4 e4 n4 h4 => ?_
      walk_at "go"
      have hcat : [V.str (sT u)] ++ (fnd.map fun w => V.str (sT w)) = (fs.map fun w => V.str (sT w)) ++ [V.str (sT x)] := by
        have := congrArg (List.map fun w => V.str (sT w)) hlast
        simpa using this
      refine w_cat h4 (e4 _ _ (eT _ _ hfd)) (by rw [List.length_map]; exact sz_le (by simp; omega)) ?_
      rw [hcat]
      refine w_new fun p5 H5 e5 n5 h5 => ?_
      walk_at "go"
      refine w_ixL (K := K) (sl_of h5) (atI_last _ _) ?_
      walk_at "go"
      have zs : (sT x).length = x.length := tx_len x
      have e8 := (e6.trans e4).trans e5
      refine w_lenS (sz_le (by omega)) ?_
      walk_at "go"
      refine ⟨x.length, g, by rw [zs], by omega, fun PL ts2 H6 e7 n6 h6 k6 => ?_⟩
      have htp6 := e7 _ _ (e8 _ _ htp)
      have hlt := hps p (List.mem_of_getElem? hp)
      walk_at "go"
      refine w_ninPl (K := K) (a := p.1) (b := p.2) (by omega) (by omega) (st_of htp6) (sl_of h6) k6 ?_
      rw [List.drop_eq_getElem_cons hi2, applyP_cons, show ps[i] = p by rw [List.getElem?_eq_getElem hi2] at hp; exact Option.some.inj hp, List.length_take, Nat.min_eq_left (by omega), Nat.zero_add] at happ
      cases hal : allowB g x.length p.1 p.2 with
      | false =>
        rw [hal, if_neg (by decide)] at happ
        walk_at "go"
        refine w_newA (by show (2 : Nat) ≤ sizeLine; decide) fun p9 H9 e9 n9 h9 => ?_
        exact q1 i happ _ _ ((e8.trans e7).trans e9) ⟨p9, rfl, fr_back (e8.trans e7) n9, h9⟩
      | true =>
        have hb : p.2 ≤ x.length := by
          have := hal
          unfold allowB at this
          simp only [Bool.and_eq_true, decide_eq_true_eq] at this
          omega
        have f6 := e7 _ _ (e5 _ _ (e4 _ _ (eT _ _ hfd)))
        walk_at "go"
        refine w_lturn (by omega) (by omega) hb ?_
        walk_at "go"
        refine w_apq f6 (by rw [List.length_map]; omega) fun H7 m7 h7 => ?_
        walk_at "go"
        rw [hal, if_pos rfl] at happ
        refine ⟨fnd ++ [turnW x p.1 p.2], fs ++ [x], turnW x p.1 p.2, _, _, _, rfl, m7 H (e8.trans e7) n1, by rw [h7]; simp, by rw [← List.cons_append, hlast], (turnW_len x _ _ (by omega) hb).trans zx, by simp [zf], ?_⟩
        have h3 := applyP_app g (ps.take i) [p] u x 0 hap
        rw [List.take_succ_eq_append_getElem hi2, show ps[i] = p by rw [List.getElem?_eq_getElem hi2] at hp; exact Option.some.inj hp, h3, applyP_cons, hal, if_pos rfl]
        rfl
    case id =>
      rintro σ' H' ⟨fnd, fs, x, x1, x2, x3, rfl, e5, hfd, hlast, zx, zf, hap⟩
      walk_at "go"
      refine w_newA (by show (2 : Nat) ≤ sizeLine; decide) fun p4 H4 e4 n4 h4 => ?_
      rw [List.length_map, zt, List.take_length] at hap
      exact q2 x hap _ fd fnd _ (e5.trans e4) ⟨p4, rfl, fr_back e5 n4, h4⟩ n1 (e4 _ _ hfd) fs x hlast rfl (by rw [zf, List.length_map, zt]; omega)
end Tcf

set_option Elab.async false
set_option linter.all false
set_option maxRecDepth 100000
set_option maxHeartbeats 4000000
/-! EL: drawn places (printed from EL.tmpl by gen_der.py). -/
namespace Tcf
open PySem PySem.Spec PyProof.Rows L2
open Evl (Ex)
set_option hygiene false in
local macro_rules | `(tactic| walk_at "lkT") => `(tactic| first | (with_reducible exact T.l_GAMES _) | (with_reducible exact T.l_GOALS _))
set_option hygiene false in
local macro_rules | `(tactic| walk_at "isx") => `(tactic| first | (with_reducible exact T.is_Row (by walk_at "lk")) | (with_reducible exact T.is_Flip (by walk_at "lk")) | (with_reducible exact T.is_Table (by walk_at "lk")))
local macro_rules | `(tactic| walk_at "lk") => `(tactic| first
  | assumption
  | walk_at "lkT"
  | ((with_reducible refine' ex_at (by assumption) ?wk); (case wk => walk_at "lk"))
  | ((with_reducible refine' sl_of ?wk); (case wk => walk_at "lk"))
  | ((with_reducible refine' st_of ?wk); (case wk => walk_at "lk"))
  | ((with_reducible refine' ex_l (by assumption) ?wk); (case wk => walk_at "lk"))
  | ((with_reducible refine' ex_t (by assumption) ?wk); (case wk => walk_at "lk"))
  | ((with_reducible refine' mu_at (by assumption) ?wk ?wn); (case wk => walk_at "lk"); (case wn => assumption)))
set_option hygiene false in
local macro_rules | `(tactic| walk_at "sd") => `(tactic| first
  | exact rfl | assumption | (with_reducible exact T.c_Row) | (with_reducible exact T.c_Flip) | (with_reducible exact T.c_Table) | (with_reducible exact T.c_Trial)
  | (with_reducible exact T.n_Row_colour) | (with_reducible exact T.n_Row_sizes) | (with_reducible exact T.n_Flip_begin) | (with_reducible exact T.n_Flip_finish) | (with_reducible exact T.n_Trial_home) | (with_reducible exact T.n_Trial_kept)
  | (with_reducible exact T.n_Table_beginning) | (with_reducible exact T.n_Table_words) | (with_reducible exact T.n_Table_state))
local macro_rules | `(tactic| walk_at "w") => `(tactic| first
  | (with_reducible refine w_seq ?_) | (with_reducible refine w_asg ?_) | (with_reducible refine w_gName ?_) | (with_reducible refine w_ret ?_) | (with_reducible refine w_ifS ?_) | (with_reducible refine w_drop ?_) | (with_reducible refine w_next ?_)
  | ((with_reducible refine' w_aug ?wh ?_); (case wh => exact rfl)) | (with_reducible refine w_match ?_) | (with_reducible refine w_case ?_)
  | ((with_reducible refine' w_var ?wh ?_); (case wh => exact rfl))
  | (with_reducible refine w_c ?_) | (with_reducible refine w_op ?_) | (with_reducible refine w_un ?_) | (with_reducible refine w_nil ?_) | (with_reducible refine w_cons ?_) | (with_reducible refine w_star ?_) | (with_reducible refine w_tup ?_) | (with_reducible refine w_lst ?_)
  | (with_reducible refine w_if ?_) | (with_reducible refine w_and ?_) | (with_reducible refine w_or ?_) | (with_reducible refine w_not ?_) | (with_reducible refine w_bq ?_) | (with_reducible refine w_B ?_) | (with_reducible refine w_test ?_) | (with_reducible refine w_andV ?_) | (with_reducible refine w_orV ?_) | (with_reducible refine w_notV ?_)
  | (with_reducible refine w_chain ?_) | (with_reducible refine w_rI0 ?_) | (with_reducible refine w_rU ?_) | (with_reducible refine w_ipI ?_)
  | (with_reducible refine w_eqI ?_) | (with_reducible refine w_neI ?_) | (with_reducible refine w_eqS ?_) | (with_reducible refine w_neS ?_) | (with_reducible refine w_eqB ?_) | (with_reducible refine w_neB ?_) | (with_reducible refine w_isNr ?_) | (with_reducible refine w_isNn ?_)
  | (with_reducible refine w_sl ?_) | (with_reducible refine w_noPart ?_) | (with_reducible refine w_part ?_) | (with_reducible refine w_pq ?_) | (with_reducible refine w_revL ?_) | (with_reducible refine w_revS ?_)
  | (with_reducible refine w_cb ?_) | (with_reducible refine w_min2 ?_) | (with_reducible refine w_max2 ?_) | (with_reducible refine w_intB ?_)
  | (with_reducible refine w_fn ?_) | (with_reducible refine w_me ?_) | (with_reducible refine w_pr ?_) | (with_reducible refine w_mk ?_) | (with_reducible refine w_fld ?_)
  | (with_reducible refine w_isi_ii ?_) | (with_reducible refine w_isi_ib ?_) | (with_reducible refine w_isi_ss ?_)
  | ((with_reducible refine' w_isi_ll ?wh ?_); (case wh => walk_at "lk"))
  | ((with_reducible refine' w_isi_own ?wh ?wq); (case wh => walk_at "isx"))
  | ((with_reducible refine' w_lenL ?wh ?_); (case wh => walk_at "lk")) | ((with_reducible refine' w_ixL ?wh ?wi ?_); (case wh => walk_at "lk"); (case wi => first | assumption | exact rfl)) | ((with_reducible refine' w_ixT ?wh ?wi ?_); (case wh => walk_at "lk"); (case wi => first | assumption | exact rfl))
  | ((with_reducible refine' w_slL ?wh ?_); (case wh => walk_at "lk")) | ((with_reducible refine' w_rvq ?wh ?_); (case wh => walk_at "lk")) | ((with_reducible refine' w_listO ?wh ?_); (case wh => walk_at "lk")) | ((with_reducible refine' w_starL ?wh ?_); (case wh => walk_at "lk"))
  | ((with_reducible refine' w_fq ?wh ?wc ?wn ?wl ?_); (case wh => walk_at "lk"); (case wc => walk_at "sd"); (case wn => walk_at "sd"); (case wl => exact rfl))
  | ((with_reducible refine' w_sum ?wh ?_); (case wh => walk_at "lk"))
  | ((with_reducible refine' w_all ?wh ?_); (case wh => walk_at "lk"))
  | (with_reducible refine w_forL ?_) | ((with_reducible refine' w_forLq ?wh ?_); (case wh => walk_at "lk")) | (with_reducible refine w_forS ?_) | (with_reducible refine w_forSq ?_) | (with_reducible refine w_forR1 ?_) | ((with_reducible refine' w_forR1q ?wh ?_); (case wh => omega)) | (with_reducible refine w_forR2 ?_) | ((with_reducible refine' w_forR2q ?wh ?_); (case wh => omega)) | (with_reducible refine w_forE ?_) | ((with_reducible refine' w_forEq ?wh ?_); (case wh => walk_at "lk"))
  | (with_reducible refine w_lcL ?_) | ((with_reducible refine' w_lcLq ?wh ?_); (case wh => walk_at "lk")) | (with_reducible refine w_lcS ?_) | (with_reducible refine w_lcSq ?_) | (with_reducible refine w_lcR2 ?_) | ((with_reducible refine' w_lcR2q ?wh ?_); (case wh => omega))
  | (with_reducible refine w_bm ?_) | ((with_reducible refine' w_bmq ?wh ?_); (case wh => walk_at "lk")) | (with_reducible refine w_bm0 ?_) | ((with_reducible refine' w_bm0q ?wh ?_); (case wh => walk_at "lk"))
  | ((with_reducible refine' w_getL ?wh ?wi ?_); (case wh => walk_at "lk"); (case wi => first | assumption | exact rfl)) | (with_reducible refine w_gSub ?_) | (with_reducible refine w_augS ?_)
  | ((with_reducible refine' w_gTup ?wh ?wl ?_); (case wh => walk_at "lk"); (case wl => exact rfl)) | (with_reducible refine w_gCons ?_) | (with_reducible refine w_gNil ?_)
  | (with_reducible refine w_parT ?_) | (with_reducible refine w_parq ?_) | (with_reducible refine w_par3T ?_) | (with_reducible refine w_par3q ?_) | (with_reducible refine w_sfld ?_) | (with_reducible refine w_ob ?_) | (with_reducible refine w_obq ?_)
  | ((with_reducible refine' w_sfq ?wh ?wc ?wn ?wl ?wq); (case wh => walk_at "lk"); (case wc => walk_at "sd"); (case wn => walk_at "sd"); (case wl => exact Nat.le_of_ble_eq_true rfl))
  | ((with_reducible refine' w_rI ?wh ?wq); (case wh => first | decide | exact ⟨by decide, by decide⟩)) | (with_reducible refine w_pairsC ?_) | (with_reducible refine w_pairsN ?_) | ((with_reducible refine' w_cat ?wh ?wk ?wl ?wq); (case wh => walk_at "lk"); (case wk => walk_at "lk"); (case wl => walk_at "sz"))
  | ((with_reducible refine' w_mqRow ?wh ?wl ?wk ?wq); (case wh => walk_at "rw"); (case wl => exact rfl); (case wk => exact rfl))
  | ((with_reducible refine' w_mq ?wh ?wl ?wq); (case wh => walk_at "lk"); (case wl => exact rfl))
  | ((with_reducible refine' w_wipe ?wh ?wq); (case wh => exact rfl)) | (with_reducible refine w_yesT ?_)
  | (with_reducible refine w_isNumber ?_) | (with_reducible refine w_isCount ?_) | (with_reducible refine w_isColour ?_) | (with_reducible refine w_checkGame ?_) | (with_reducible refine w_checkGoal ?_) | (with_reducible refine w_checkWords ?_)
  | (with_reducible refine iteT ?_) | (with_reducible refine iteF ?_) | ((with_reducible refine' w_yes ?wh ?_); (case wh => exact rfl)) | ((with_reducible refine' w_no ?wh ?_); (case wh => exact rfl)))
local macro_rules | `(tactic| walk_at "sz") => `(tactic| first | (refine sz_le ?_; first | assumption | (simp only [List.length_map, List.length_append, List.length_cons, List.length_nil]; omega) | omega) | (refine sz_lt ?_; first | assumption | (simp only [List.length_map, List.length_append, List.length_cons, List.length_nil]; omega) | omega))
local macro_rules | `(tactic| walk_at "go") => `(tactic| repeat (walk_at "w"))
local macro_rules | `(tactic| walk_at "bt") => `(tactic| first | exact rfl | assumption | (simp [*]; done) | (simp; omega) | (simp [*]; omega))
local macro_rules | `(tactic| walk_at "yes") => `(tactic| ((with_reducible refine' w_yes ?wh ?wq); (case wh => walk_at "bt"); walk_at "go"))
local macro_rules | `(tactic| walk_at "no") => `(tactic| ((with_reducible refine' w_no ?wh ?wq); (case wh => walk_at "bt"); walk_at "go"))
local macro_rules | `(tactic| walk_at "st") => `(tactic| ((try dsimp only [L2.cxOf, L2.Cx.nox, L2.Cx.wish]); walk_at "go"))
local macro_rules | `(tactic| walk_at "rw") => `(tactic| first | assumption | ((with_reducible refine' IsRow.rw ?wk); (case wk => walk_at "rw")) | ((with_reducible refine' IsRw.ex (by assumption) ?wk); (case wk => walk_at "rw")) | ((with_reducible refine' IsRow.ex (by assumption) ?wk); (case wk => walk_at "rw")))
local macro_rules | `(tactic| walk_at "ro") => `(tactic| first | assumption | ((with_reducible refine' IsRow.ex (by assumption) ?wk); (case wk => walk_at "ro")))
local macro_rules | `(tactic| walk_at "fl") => `(tactic| first | assumption | ((with_reducible refine' IsFlip.ex (by assumption) ?wk); (case wk => walk_at "fl")))
local macro_rules | `(tactic| walk_at "w") => `(tactic| first
  | ((with_reducible refine' w_first ?wh ?wq); (case wh => walk_at "rw")) | ((with_reducible refine' w_runs ?wh ?wq); (case wh => walk_at "rw")) | ((with_reducible refine' w_length ?wh ?wq); (case wh => walk_at "rw")) | ((with_reducible refine' w_lengths ?wh ?wq); (case wh => walk_at "rw")))
local macro_rules | `(tactic| walk_at "w") => `(tactic| first
  | ((with_reducible refine' w_start ?wh ?wq); (case wh => walk_at "fl")) | ((with_reducible refine' w_end ?wh ?wq); (case wh => walk_at "fl")))
local macro_rules | `(tactic| walk_at "w") => `(tactic| first | (with_reducible refine w_dget ?_))
def spDrawnPl : Sp := fun vs H Q _ => ∃ (s : Addr) (n : Nat) (g : Gm), vs = [.ref s, .int n, .str g.s] ∧ IsStm H s ∧ n ≤ 7 ∧ ∀ (a b : Nat) v H', Mu s H H' → IsStm H' s → PairV H' v (some (a, b)) → a ≤ 8 → b ≤ 12 → Q v H'
theorem sc_law_drawn_place : FnScope ["_law_stream_here", "_law_length", "_law_game", "_law_places_here", "_law_start"] ["_law_stream_here", "_law_length", "_law_game"] (defScope (top 63)) := ⟨rfl, rfl, rfl, by decide +kernel, rfl, by decide +kernel, by decide +kernel⟩
theorem ok_law_drawn_place {P : Program} {w : World} {K : PySem.W.Frag} {mg : Str → Option Value} {base : Heap} (T : Tx P K mg) : Ok P w K mg base 2 (He.ga K "_law_drawn_place") (spDrawnPl) := by
  refine ok_mk T.d_law_drawn_place sc_law_drawn_place (fun vs H Q E h => ?len) (fun _ _ _ _ _ _ us hl => match us, hl with | [_, _, _], _ => rfl) (fun cdv A outer s H vs Q E hr h => ⟨_, (pss_cons (ps_if (PW.pt (pw_and (pt_cmpR op_gt (pe_fn (ok_law_draw T) hr T.g_law_draw (pa_cons (pv 0) (pa_cons pe_int pa_nil))) pe_int (nomark _)) (pw_and1 (pt_cmpR op_gt (pv 1) pe_int (nomark _))))) (pss_cons (ps_set (i := 3) sc_law_drawn_place.nd rfl (.inl rfl) (pe_fn (ok_law_places T) hr T.g_law_places (pa_cons (pv 1) (pa_cons (pv 2) pa_nil)))) (pss_one (ps_ret (pe_ix ix_list (pv 3) (pe_fn (ok_law_draw T) hr T.g_law_draw (pa_cons (pv 0) (pa_cons (pe_callB cq_lenQ (by rfl) T.z_len (by decide +kernel) (pa_cons (pv 3) pa_nil)) pa_nil))) (fun _ _ => rfl))))) pss_nil) (pss_cons (ps_set (i := 4) sc_law_drawn_place.nd rfl (.inl rfl) (pe_fn (ok_law_draw T) hr T.g_law_draw (pa_cons (pv 0) (pa_cons (pe_op op_add (pv 1) pe_int) pa_nil)))) (pss_one (ps_ret (pe_tup (pa_cons (pv 4) (pa_cons (pe_op op_add (pv 4) (pe_fn (ok_law_draw T) hr T.g_law_draw (pa_cons (pv 0) (pa_cons pe_int pa_nil)))) pa_nil))))))), ?body⟩)
  case len => obtain ⟨s, n, g, rfl, _⟩ := h; rfl
  case body =>
    obtain ⟨s', n, g, rfl, hs, zn, q⟩ := h
    walk_at "st"
    refine ⟨s', 4, rfl, hs, by decide, by decide, fun d H1 m1 hs1 hd => ?_⟩
    walk_at "go"
    by_cases hd0 : d = 0
    · subst hd0
      rw [if_neg (by decide)]
      walk_at "go"
      refine ⟨s', n + 2, by push_cast; rfl, hs1, by omega, by omega, fun a H2 m2 hs2 ha => ?_⟩
      walk_at "go"
      refine ⟨s', 4, rfl, hs2, by decide, by decide, fun b H3 m3 hs3 hb => ?_⟩
      walk_at "go"
      refine w_newA (by show (2 : Nat) ≤ sizeLine; decide) fun t H4 e4 n4 h4 => ?_
      have hs4 : IsStm H4 s' := by
        obtain ⟨x, y, h1, h2⟩ := hs3
        exact ⟨x, y, e4 _ _ h1, h2⟩
      exact q a (a + b) _ _ (((m1.trans m2).trans m3).ex e4) hs4 ⟨t, rfl, by rw [h4]; push_cast; rfl⟩ (by omega) (by omega)
    rw [if_pos (by simp; omega)]
    by_cases hn0 : n = 0
    · subst hn0
      walk_at "go"
      refine ⟨s', 2, rfl, hs1, by omega, by omega, fun a H2 m2 hs2 ha => ?_⟩
      walk_at "go"
      refine ⟨s', 4, rfl, hs2, by decide, by decide, fun b H3 m3 hs3 hb => ?_⟩
      walk_at "go"
      refine w_newA (by show (2 : Nat) ≤ sizeLine; decide) fun t H4 e4 n4 h4 => ?_
      have hs4 : IsStm H4 s' := by
        obtain ⟨x, y, h1, h2⟩ := hs3
        exact ⟨x, y, e4 _ _ h1, h2⟩
      exact q a (a + b) _ _ (((m1.trans m2).trans m3).ex e4) hs4 ⟨t, rfl, by rw [h4]; push_cast; rfl⟩ (by omega) (by omega)
    walk_at "go"
    rw [if_pos (by simp; omega)]
    walk_at "go"
    refine ⟨n, g, rfl, zn, fun PL ts H2 e2 n2 h2 k2 => ?_⟩
    have hs2 : IsStm H2 s' := by
      obtain ⟨x, y, h1, h2⟩ := hs1
      exact ⟨x, y, e2 _ _ h1, h2⟩
    have ne2 : PL ≠ s' := fun z => by
      obtain ⟨x, y, h1, _⟩ := hs1
      rw [z, h1] at n2
      cases n2
    walk_at "go"
    have hpos : 0 < ts.length := by
      rw [paired_len k2]
      exact List.length_pos_of_mem ((mem_places n g 0 1).mpr ⟨by decide, by simp [allowB]; omega⟩)
    have lpw : ts.length ≤ 100 := by
      rw [paired_len k2]
      exact of_decide_eq_true (List.all_eq_true.mp (show ((List.range 8).all fun n => decide ((placesW n g).length ≤ 100)) = true by cases g <;> decide +kernel) n (List.mem_range.mpr (by omega)))
    refine ⟨s', ts.length, by rw [List.length_map], hs2, by omega, by omega, fun i H3 m3 hs3 hi0 => ?_⟩
    have hi : i < ts.length := by omega
    have ht := List.getElem?_eq_getElem hi
    generalize ts[i] = t at ht
    have hpl : i < (placesW n g).length := by rw [← paired_len k2]; exact hi
    have hp := List.getElem?_eq_getElem hpl
    generalize (placesW n g)[i] = p at hp
    have htp := paired_at k2 i t p ht hp
    have hab := (mem_places n g p.1 p.2).mp (List.mem_of_getElem? hp)
    have hb : p.2 ≤ n := by
      have := hab.2
      unfold allowB at this
      simp only [Bool.and_eq_true, decide_eq_true_eq] at this
      omega
    have nt : t ≠ s' := fun z => by
      obtain ⟨x, y, h1, _⟩ := hs2
      rw [z, h1] at htp
      cases htp
    refine w_ixL (K := K) (sl_of (mu_at m3 h2 ne2)) (v := .ref t) (at_nat (by rw [List.getElem?_map, ht]; rfl) rfl) ?_
    exact q p.1 p.2 _ _ ((m1.ex e2).trans m3) hs3 ⟨t, rfl, mu_at m3 htp nt⟩ (by omega) (by omega)
def spSomePl : Sp := fun vs H Q _ => ∃ (s : Addr) (n : Nat) (g : Gm), vs = [.ref s, .int n, .str g.s] ∧ IsStm H s ∧ n ≤ 7 ∧ ∀ fl ts (ps : List Pl) H', Mu s H H' → IsStm H' s → H fl = none → H' fl = some (.lst (ts.map V.ref)) → TupsAt H' ts ps → (∀ p ∈ ps, p.1 < p.2) → ps.length ≤ 3 → Q (.ref fl) H'
theorem sc_law_some_places : FnScope ["_law_stream_here", "_law_length", "_law_game", "_law_found", "_law_turn_here", "_law_start", "_law_end"] ["_law_stream_here", "_law_length", "_law_game"] (defScope (top 64)) := ⟨rfl, rfl, rfl, by decide +kernel, rfl, by decide +kernel, by decide +kernel⟩
theorem ok_law_some_places {P : Program} {w : World} {K : PySem.W.Frag} {mg : Str → Option Value} {base : Heap} (T : Tx P K mg) : Ok P w K mg base 3 (He.ga K "_law_some_places") (spSomePl) := by
  refine ok_mk T.d_law_some_places sc_law_some_places (fun vs H Q E h => ?len) (fun _ _ _ _ _ _ us hl => match us, hl with | [_, _, _], _ => rfl) (fun cdv A outer s H vs Q E hr h => ⟨_, (pss_cons (ps_set (i := 3) sc_law_some_places.nd rfl (.inl rfl) (pe_lst pa_nil)) (pss_cons (ps_for PassesOwn.never rfl (pi_range1 (by rfl) T.z_range (pa_cons (pe_fn (ok_law_draw T) hr T.g_law_draw (pa_cons (pv 0) (pa_cons pe_int pa_nil))) pa_nil)) (pg_name (i := 4) sc_law_some_places.nd rfl (Or.inl rfl)) (pss_cons (ps_asg (pe_fn (ok_law_drawn_place T) hr T.g_law_drawn_place (pa_cons (pv 0) (pa_cons (pv 1) (pa_cons (pv 2) pa_nil)))) (pg_tup rfl (pgs_cons (pg_name (i := 5) sc_law_some_places.nd rfl (Or.inl rfl)) (pgs_cons (pg_name (i := 6) sc_law_some_places.nd rfl (Or.inl rfl)) pgs_nil)))) (pss_one (ps_expr (pe_bm PySem.F.plainAttrs_list PySem.F.slot_list_append PySem.F.type_list_append mt_append (pv 3) (pa_cons (pe_tup (pa_cons (pv 5) (pa_cons (pe_callB (cq_max2 rfl) (by rfl) T.z_max (by decide +kernel) (pa_cons (pe_op op_add (pv 5) pe_int) (pa_cons (pv 6) pa_nil))) pa_nil))) pa_nil)))))) (pss_one (ps_ret (pv 3))))), ?body⟩)
  case len => obtain ⟨s, n, g, rfl, _⟩ := h; rfl
  case body =>
    obtain ⟨s', n, g, rfl, hs, zn, q⟩ := h
    walk_at "st"
    refine w_newA (by show (0 : Nat) ≤ sizeLine; decide) fun L H1 e1 n1 h1 => ?_
    walk_at "go"
    have hs1 : IsStm H1 s' := by
      obtain ⟨x, y, h1, h2⟩ := hs
      exact ⟨x, y, e1 _ _ h1, h2⟩
    have neL : L ≠ s' := fun z => by
      obtain ⟨x, y, h1, _⟩ := hs
      rw [z, h1] at n1
      cases n1
    refine ⟨s', 4, rfl, hs1, by decide, by decide, fun d H2 m2 hs2 hd => ?_⟩
    have h2 := mu_at m2 h1 neL
    walk_at "go"
    rw [Int.toNat_natCast]
    refine w_forW (walk_range (lo := 0) (n := d)) (fun i σ' H' => ∃ (ts : List Addr) (ps : List Pl) (x4 x5 x6 : Option V), σ' = [some (.ref s'), some (.int n), some (.str g.s), some (.ref L), x4, x5, x6] ∧ MS [s', L] H H' ∧ IsStm H' s' ∧ H' L = some (.lst (ts.map V.ref)) ∧ TupsAt H' ts ps ∧ (∀ p ∈ ps, p.1 < p.2) ∧ ps.length = i) ?i0 ?iG ?is ?id
    case i0 => exact ⟨[], [], none, none, none, rfl, (MS.ofEx e1).trans (MS.ofMu m2 (by simp)), hs2, h2, .nil, by simp, rfl⟩
    case iG => exact fun _ _ _ _ _ => trivial
    case is =>
      rintro i x σ' H' H'' hi ⟨ts, ps, x4, x5, x6, rfl, m3, hs3, h3, k3, o3, z3⟩ ⟨rfl, rfl⟩
      walk_at "go"
      refine ⟨s', n, g, rfl, hs3, zn, fun a b v H4 m4 hs4 hv za zb => ?_⟩
      obtain ⟨t, rfl, ht⟩ := hv
      have h4 := mu_at m4 h3 neL
      have k4 : TupsAt H4 ts ps := paired_mono (fun t (p : Pl) hk => mu_at m4 hk fun z => by
        obtain ⟨x, y, h1, _⟩ := hs3
        rw [z, h1] at hk
        cases hk) k3
      walk_at "go"
      obtain ⟨c, hc, hac⟩ : ∃ c : Nat, (if ((b : Nat) : Int) > ((a : Nat) : Int) + 1 then ((b : Nat) : Int) else ((a : Nat) : Int) + 1) = ((c : Nat) : Int) ∧ a < c := by
        by_cases h : ((b : Nat) : Int) > ((a : Nat) : Int) + 1
        · exact ⟨b, if_pos h, by omega⟩
        · exact ⟨a + 1, by rw [if_neg h]; omega, by omega⟩
      dsimp only
      rw [hc]
      refine w_newA (by show (2 : Nat) ≤ sizeLine; decide) fun p5 H5 e5 n5 h5 => ?_
      have h5L := e5 _ _ h4
      have zt : ts.length = ps.length := paired_len k4
      walk_at "go"
      refine w_apq h5L (by rw [List.length_map]; omega) fun H6 m6 h6 => ?_
      walk_at "go"
      have hs6 : IsStm H6 s' := by
        obtain ⟨x, y, h1, h2⟩ := hs4
        exact ⟨x, y, mu_at m6 (e5 _ _ h1) neL.symm, h2⟩
      refine ⟨ts ++ [p5], ps ++ [(a, c)], _, _, _, rfl, ((m3.trans (MS.ofMu m4 (by simp))).trans (MS.ofEx e5)).trans (MS.ofMu m6 (by simp)), hs6, by rw [h6]; simp, (k4.ex e5).mud (p := (a, c)) m6 h5L h5, fun p hp => ?_, by simp [z3]⟩
      rcases List.mem_append.mp hp with hp | hp
      · exact o3 p hp
      · rw [List.mem_singleton.mp hp]
        exact hac
    case id =>
      rintro σ' H' ⟨ts, ps, x4, x5, x6, rfl, m3, hs3, h3, k3, o3, z3⟩
      walk_at "go"
      refine q L ts ps H' (fun G e hG => m3 G e fun l hl => ?_) hs3 n1 h3 k3 o3 (by omega)
      rcases List.mem_cons.mp hl with rfl | hl
      · exact hG
      · rw [List.mem_singleton.mp hl]
        exact fr_back e n1
end Tcf

set_option Elab.async false
set_option linter.all false
set_option maxRecDepth 100000
set_option maxHeartbeats 4000000
/-! RU9: a try of many clauses, some of which name what they caught. Own text. -/
namespace Tcf
open PySem PySem.Spec PyProof.Rows L2
/-- a clause: the class it names, the slot of its own name, its suite's reading -/
structure Clz where
  cl : Value
  slot : Option Nat
  rd : Addr → Value → Option Addr → TS
/-- the ends of a suite whose name stands in slot i -/
def endsN (i : Nat) (D : Ends) : Ends := { nx := fun τ G => D.nx (τ.set i none) G, rt := D.rt, bk := fun τ G => D.bk (τ.set i none) G, ct := fun τ G => D.ct (τ.set i none) G }
def Clz.go (c : Clz) (a : Addr) (cls : Value) (d : Option Addr) (D : Ends) (σ : L2.St) (H : Hp) : Prop :=
  match c.slot with
  | none => c.rd a cls d D σ H
  | some i => c.rd a cls d (endsN i D) (σ.set i (some (.ref a))) H
def wClz (K : PySem.W.Frag) (out : WX) (D : Ends) : List Clz → WX
  | [] => out
  | c :: r => fun cls d σ H => ∃ b, PySem.W.exmOne K cls c.cl = some b ∧ (b = true → ∀ a, H a = none → c.go a cls d D σ H) ∧ (b = false → wClz K out D r cls d σ H)
inductive ClzOk (X : Cx) : List ExceptHandler → List Clz → Prop
  | nil : ClzOk X [] []
  | pl {x : Str} {c : Value} {rd : Addr → Value → Option Addr → TS} {b1 : Stmt} {bs : List Stmt} {q1 q2 : Pos} {hs : List ExceptHandler} {l : List Clz} (nm : Names X x c)
      (su : ∀ (a : Addr) (ob : Obj) (cls : Value) (d : Option Addr) (pn : List (Addr × Obj)), Zc cls d ob → (∃ vs, ob.data = .fields vs) → PSs (X.suite a ((a, ob) :: pn)) (b1 :: bs) (rd a cls d)) (r : ClzOk X hs l) :
      ClzOk X (.ExceptHandler (some (.Name x q1)) none (b1 :: bs) q2 :: hs) (⟨c, none, rd⟩ :: l)
  | nd {x n : Str} {c : Value} {i : Nat} {rd : Addr → Value → Option Addr → TS} {b1 : Stmt} {bs : List Stmt} {q1 q2 : Pos} {hs : List ExceptHandler} {l : List Clz} (nm : Names X x c) (hN : X.N.Nodup) (hi : X.N[i]? = some n) (hk : X.env.kindOf n = some .local)
      (su : ∀ (a : Addr) (ob : Obj) (cls : Value) (d : Option Addr) (pn : List (Addr × Obj)), Zc cls d ob → (∃ vs, ob.data = .fields vs) → PSs (X.suite a ((a, ob) :: pn)) (b1 :: bs) (rd a cls d)) (r : ClzOk X hs l) :
      ClzOk X (.ExceptHandler (some (.Name x q1)) (some n) (b1 :: bs) q2 :: hs) (⟨c, some i, rd⟩ :: l)
section
variable {X : Cx}
/-- looking up the name of a clause -/
theorem name_ok {x : Str} {c : Value} {q : Pos} {a : Addr} {ob : Obj} {pn : List (Addr × Obj)} {τ : L2.St} {G : Hp} {s : Shared} {F R : Value → Shared → Prop} (nm : Names X x c) (I : Inv (X.suite a ((a, ob) :: pn)) [] τ G s) (f : F c s) :
    wpAny (model X.prog X.w) (X.A.mark (some (.ref a))) (eval (.Name x q) X.env) F R s := by
  obtain ⟨g, db, m | ⟨m, v, n⟩⟩ := nm
  · exact ld_glob I g m f db
  · exact ld_blt I g m v f n db
/-- the suite's ends, told of the context outside -/
theorem ends_ok {a : Addr} {q : Addr × Obj} {pins pn' : List (Addr × Obj)} {D : Ends} (ok : X.Ok) {f : Flow} {s : Shared} (h : SP (X.suite a (q :: (X.pn ++ pins))) [] D f s) : SP X pins D f s := by
  cases f with
  | next => obtain ⟨τ, G, J, k⟩ := h; exact ⟨τ, G, J.unsuite ok, k⟩
  | brk => obtain ⟨τ, G, J, k⟩ := h; exact ⟨τ, G, J.unsuite ok, k⟩
  | cont => obtain ⟨τ, G, J, k⟩ := h; exact ⟨τ, G, J.unsuite ok, k⟩
  | ret u => obtain ⟨v, τ, G, J, r, k⟩ := h; exact ⟨v, τ, G, J.unsuite ok, r, k⟩
theorem endsN_ok {a : Addr} {q : Addr × Obj} {pins : List (Addr × Obj)} {D : Ends} {i : Nat} {n : Str} {p : Pos} (ok : X.Ok) (hN : X.N.Nodup) (hi : X.N[i]? = some n) (hk : X.env.kindOf n = some .local) {f : Flow} {s : Shared}
    (h : SP (X.suite a (q :: (X.pn ++ pins))) [] (endsN i D) f s) : wpAny (model X.prog X.w) X.A (do bindName X.env n .none; unbindBehindTheSuite X.env n p) (fun _ z => SP X pins D f z) X.xe s := by
  cases f with
  | next => obtain ⟨τ, G, J, k⟩ := h; exact gone_ok (J.unsuite ok) hN hi hk fun z Jz => ⟨_, _, Jz, k⟩
  | brk => obtain ⟨τ, G, J, k⟩ := h; exact gone_ok (J.unsuite ok) hN hi hk fun z Jz => ⟨_, _, Jz, k⟩
  | cont => obtain ⟨τ, G, J, k⟩ := h; exact gone_ok (J.unsuite ok) hN hi hk fun z Jz => ⟨_, _, Jz, k⟩
  | ret u => obtain ⟨v, τ, G, J, r, k⟩ := h; exact gone_ok (J.unsuite ok) hN hi hk fun z Jz => ⟨_, _, _, Jz, r, k⟩
theorem ps_tryZ {body : List Stmt} {h1 : ExceptHandler} {hs : List ExceptHandler} {l : List Clz} {pos : Pos} {tb : WX → TS} (es : X.stack = X.env :: X.outer) (ef : X.env.frame = some X.env.locals)
    (hb : ∀ (W : WX) (pn : List (Addr × Obj)) (xe : Value → Shared → Prop), Takes (X.tr pn xe) W → PSs (X.tr pn xe) body (tb W))
    (hh : ClzOk X (h1 :: hs) l) : PS X (.Try body (h1 :: hs) [] [] pos) (fun D σ H => tb (fun cls d τ G => τ.length = X.N.length → wClz X.K (fun _ _ _ _ => False) D l cls d τ G) D σ H) := by
  refine ⟨fun pins s σ H D I h => ?_⟩
  have ok := I.ok
  have eA : X.A.frames = some (X.env :: X.outer) := by rw [ok.frames, es]
  refine wpAny_Try_except (wpAny_mono ((hb (fun cls d τ G => τ.length = X.N.length → wClz X.K (fun _ _ _ _ => False) D l cls d τ G) (X.pn ++ pins) (fun e s₁ => wpAny (model X.prog X.w) X.A (noteFrame e X.env) (fun _ s₂ => wpAny (model X.prog X.w) X.A (setFlight e none) (fun _ s₃ =>
    wpAny (model X.prog X.w) X.A (handleBy e X.env (h1 :: hs)) (SP X pins D) X.xe s₃) X.xe s₂) X.xe s₁) (fun u z xx => ?caught)).run [] s σ H D (I.toTry _) h) (fun f z hz => ?calm) (fun e z k => k))
  case calm =>
    cases f with
    | next => obtain ⟨τ, G, J, k⟩ := hz; exact wpAny_execs_nil ⟨τ, G, J.ofTry ok, k⟩
    | brk => obtain ⟨τ, G, J, k⟩ := hz; exact ⟨τ, G, J.ofTry ok, k⟩
    | cont => obtain ⟨τ, G, J, k⟩ := hz; exact ⟨τ, G, J.ofTry ok, k⟩
    | ret u => obtain ⟨v, τ, G, J, r, k⟩ := hz; exact ⟨v, τ, G, J.ofTry ok, r, k⟩
  case caught =>
    obtain ⟨a, B, sI, pins', τ, G, cls, d, rfl, JT, nb, up, sky, na, os, ag, wished⟩ := xx
    have J : Inv X pins τ G sI := JT.ofTry ok
    rw [es] at sky
    show wpAny (model X.prog X.w) X.A (noteFrame (.ref a) X.env) _ _ _
    refine Sky.land Zc.steady eA ef sky fun h3 f3 up3 => ?_
    have J3 : Inv X pins τ G { z with heap := h3 } := J.landed nb f3.1 (up.trans up3) os ag
    obtain ⟨o3, v3, g3, z3, d3⟩ := f3.there
    have off : a ∉ frs (X.env :: X.outer) := fun hm => by
      obtain ⟨_, o', g', no⟩ := f3.2.2.1.mem hm
      rw [g3] at g'
      cases g'
      exact no _ d3
    have nL : a ≠ X.env.locals := fun q => off (List.mem_filterMap.mpr ⟨X.env, List.mem_cons_self, by rw [ef, q]⟩)
    have nF : a ∉ X.fs := fun hm => by
      obtain ⟨v, hv, q⟩ := List.mem_filterMap.mp hm
      exact off (List.mem_filterMap.mpr ⟨v, List.mem_cons_of_mem _ hv, q⟩)
    have T3 := J3.suite g3 d3 na nL nF
    have LT : PySem.W.Looks (model X.prog X.w) h3 (typeOf (.ref a)) cls := fun A Q E s k q => wpAny_typeOf_ref (k _ _ g3) (by rw [z3.1]; exact q)
    have all : ∀ {ks : List ExceptHandler} {cs : List Clz}, ClzOk X ks cs → wClz X.K (fun _ _ _ _ => False) D cs cls d τ G →
        wpAny (model X.prog X.w) X.A (handleBy (.ref a) X.env ks) (SP X pins D) X.xe { z with heap := h3 } := by
      intro ks cs hk
      induction hk with
      | nil => exact fun w => w.elim
      | @pl x c rd b1 bs q1 q2 hs2 l2 nm su r ih =>
        rintro ⟨b, eb, yes, no⟩
        refine wpAny_handleBy_cons (codeAny_handlers_test (name_ok nm T3 ((PySem.W.exm_one (M := model X.prog X.w) J3.kIn LT eb).here ?_))) (by intro q; cases q)
        cases b with
        | false => exact ih (no rfl)
        | true =>
          refine codeAny_handlers_suite (HandSPX.lands_againZ f3 fun h4 f4 up4 => ?_)
          obtain ⟨o4, v4, g4, z4, d4⟩ := f4.there
          have J4 : Inv X pins τ G { z with heap := h4 } := J.landed nb f4.1 ((up.trans up3).trans up4) os ag
          have T4 := J4.suite g4 d4 na nL nF
          exact wpAny_mono ((su a o4 cls d (X.pn ++ pins) z4 ⟨_, d4⟩).run [] _ _ G _ T4 (yes rfl a na)) (fun f y hy => ends_ok (pn' := []) ok hy) (fun _ _ q => False.elim q)
      | @nd x n c i rd b1 bs q1 q2 hs2 l2 nm hN hi hk su r ih =>
        rintro ⟨b, eb, yes, no⟩
        refine wpAny_handleBy_cons (codeAny_handlers_test (name_ok nm T3 ((PySem.W.exm_one (M := model X.prog X.w) J3.kIn LT eb).here ?_))) (by intro q; cases q)
        cases b with
        | false => exact ih (no rfl)
        | true =>
          refine codeAny_handlers_suite_as (HandSPX.lands_againZ f3 fun h4 f4 up4 => ?_)
          obtain ⟨o4, v4, g4, z4, d4⟩ := f4.there
          have J4 : Inv X pins τ G { z with heap := h4 } := J.landed nb f4.1 ((up.trans up3).trans up4) os ag
          have T4 := J4.suite g4 d4 na nL nF
          refine store_ok (X := X.suite a ((a, o4) :: (X.pn ++ pins))) (v := .ref a) T4 hN hi (.inl hk) rfl (fun s5 T5 => ?_) (.inr hk)
          exact wpAny_mono ((su a o4 cls d (X.pn ++ pins) z4 ⟨_, d4⟩).run [] s5 _ G _ T5 (yes rfl a na)) (fun f y hy => endsN_ok ok hN hi hk hy) (fun _ _ q => False.elim q)
    exact all hh (wished J.len)
end
end Tcf

set_option Elab.async false
set_option linter.all false
set_option maxRecDepth 100000
set_option maxHeartbeats 4000000
/-! EM: what was heard of a call; lambdas handed to it (printed from EM.tmpl by gen_der.py). -/
namespace Tcf
open PySem PySem.Spec PyProof.Rows L2
open Evl (Ex)
set_option hygiene false in
local macro_rules | `(tactic| walk_at "lkT") => `(tactic| first | (with_reducible exact T.l_GAMES _) | (with_reducible exact T.l_GOALS _))
set_option hygiene false in
local macro_rules | `(tactic| walk_at "isx") => `(tactic| first | (with_reducible exact T.is_Row (by walk_at "lk")) | (with_reducible exact T.is_Flip (by walk_at "lk")) | (with_reducible exact T.is_Table (by walk_at "lk")))
local macro_rules | `(tactic| walk_at "lk") => `(tactic| first
  | assumption
  | walk_at "lkT"
  | ((with_reducible refine' ex_at (by assumption) ?wk); (case wk => walk_at "lk"))
  | ((with_reducible refine' sl_of ?wk); (case wk => walk_at "lk"))
  | ((with_reducible refine' st_of ?wk); (case wk => walk_at "lk"))
  | ((with_reducible refine' ex_l (by assumption) ?wk); (case wk => walk_at "lk"))
  | ((with_reducible refine' ex_t (by assumption) ?wk); (case wk => walk_at "lk"))
  | ((with_reducible refine' mu_at (by assumption) ?wk ?wn); (case wk => walk_at "lk"); (case wn => assumption)))
set_option hygiene false in
local macro_rules | `(tactic| walk_at "sd") => `(tactic| first
  | exact rfl | assumption | (with_reducible exact T.c_Row) | (with_reducible exact T.c_Flip) | (with_reducible exact T.c_Table) | (with_reducible exact T.c_Trial)
  | (with_reducible exact T.n_Row_colour) | (with_reducible exact T.n_Row_sizes) | (with_reducible exact T.n_Flip_begin) | (with_reducible exact T.n_Flip_finish) | (with_reducible exact T.n_Trial_home) | (with_reducible exact T.n_Trial_kept)
  | (with_reducible exact T.n_Table_beginning) | (with_reducible exact T.n_Table_words) | (with_reducible exact T.n_Table_state))
local macro_rules | `(tactic| walk_at "w") => `(tactic| first
  | (with_reducible refine w_seq ?_) | (with_reducible refine w_asg ?_) | (with_reducible refine w_gName ?_) | (with_reducible refine w_ret ?_) | (with_reducible refine w_ifS ?_) | (with_reducible refine w_drop ?_) | (with_reducible refine w_next ?_)
  | ((with_reducible refine' w_aug ?wh ?_); (case wh => exact rfl)) | (with_reducible refine w_match ?_) | (with_reducible refine w_case ?_)
  | ((with_reducible refine' w_var ?wh ?_); (case wh => exact rfl))
  | (with_reducible refine w_c ?_) | (with_reducible refine w_op ?_) | (with_reducible refine w_un ?_) | (with_reducible refine w_nil ?_) | (with_reducible refine w_cons ?_) | (with_reducible refine w_star ?_) | (with_reducible refine w_tup ?_) | (with_reducible refine w_lst ?_)
  | (with_reducible refine w_if ?_) | (with_reducible refine w_and ?_) | (with_reducible refine w_or ?_) | (with_reducible refine w_not ?_) | (with_reducible refine w_bq ?_) | (with_reducible refine w_B ?_) | (with_reducible refine w_test ?_) | (with_reducible refine w_andV ?_) | (with_reducible refine w_orV ?_) | (with_reducible refine w_notV ?_)
  | (with_reducible refine w_chain ?_) | (with_reducible refine w_rI0 ?_) | (with_reducible refine w_rU ?_) | (with_reducible refine w_ipI ?_)
  | (with_reducible refine w_eqI ?_) | (with_reducible refine w_neI ?_) | (with_reducible refine w_eqS ?_) | (with_reducible refine w_neS ?_) | (with_reducible refine w_eqB ?_) | (with_reducible refine w_neB ?_) | (with_reducible refine w_isNr ?_) | (with_reducible refine w_isNn ?_)
  | (with_reducible refine w_sl ?_) | (with_reducible refine w_noPart ?_) | (with_reducible refine w_part ?_) | (with_reducible refine w_pq ?_) | (with_reducible refine w_revL ?_) | (with_reducible refine w_revS ?_)
  | (with_reducible refine w_cb ?_) | (with_reducible refine w_min2 ?_) | (with_reducible refine w_max2 ?_) | (with_reducible refine w_intB ?_)
  | (with_reducible refine w_fn ?_) | (with_reducible refine w_me ?_) | (with_reducible refine w_pr ?_) | (with_reducible refine w_mk ?_) | (with_reducible refine w_fld ?_)
  | (with_reducible refine w_isi_ii ?_) | (with_reducible refine w_isi_ib ?_) | (with_reducible refine w_isi_ss ?_)
  | ((with_reducible refine' w_isi_ll ?wh ?_); (case wh => walk_at "lk"))
  | ((with_reducible refine' w_isi_own ?wh ?wq); (case wh => walk_at "isx"))
  | ((with_reducible refine' w_lenL ?wh ?_); (case wh => walk_at "lk")) | ((with_reducible refine' w_ixL ?wh ?wi ?_); (case wh => walk_at "lk"); (case wi => first | assumption | exact rfl)) | ((with_reducible refine' w_ixT ?wh ?wi ?_); (case wh => walk_at "lk"); (case wi => first | assumption | exact rfl))
  | ((with_reducible refine' w_slL ?wh ?_); (case wh => walk_at "lk")) | ((with_reducible refine' w_rvq ?wh ?_); (case wh => walk_at "lk")) | ((with_reducible refine' w_listO ?wh ?_); (case wh => walk_at "lk")) | ((with_reducible refine' w_starL ?wh ?_); (case wh => walk_at "lk"))
  | ((with_reducible refine' w_fq ?wh ?wc ?wn ?wl ?_); (case wh => walk_at "lk"); (case wc => walk_at "sd"); (case wn => walk_at "sd"); (case wl => exact rfl))
  | ((with_reducible refine' w_sum ?wh ?_); (case wh => walk_at "lk"))
  | ((with_reducible refine' w_all ?wh ?_); (case wh => walk_at "lk"))
  | (with_reducible refine w_forL ?_) | ((with_reducible refine' w_forLq ?wh ?_); (case wh => walk_at "lk")) | (with_reducible refine w_forS ?_) | (with_reducible refine w_forSq ?_) | (with_reducible refine w_forR1 ?_) | ((with_reducible refine' w_forR1q ?wh ?_); (case wh => omega)) | (with_reducible refine w_forR2 ?_) | ((with_reducible refine' w_forR2q ?wh ?_); (case wh => omega)) | (with_reducible refine w_forE ?_) | ((with_reducible refine' w_forEq ?wh ?_); (case wh => walk_at "lk"))
  | (with_reducible refine w_lcL ?_) | ((with_reducible refine' w_lcLq ?wh ?_); (case wh => walk_at "lk")) | (with_reducible refine w_lcS ?_) | (with_reducible refine w_lcSq ?_) | (with_reducible refine w_lcR2 ?_) | ((with_reducible refine' w_lcR2q ?wh ?_); (case wh => omega))
  | (with_reducible refine w_bm ?_) | ((with_reducible refine' w_bmq ?wh ?_); (case wh => walk_at "lk")) | (with_reducible refine w_bm0 ?_) | ((with_reducible refine' w_bm0q ?wh ?_); (case wh => walk_at "lk"))
  | ((with_reducible refine' w_getL ?wh ?wi ?_); (case wh => walk_at "lk"); (case wi => first | assumption | exact rfl)) | (with_reducible refine w_gSub ?_) | (with_reducible refine w_augS ?_)
  | ((with_reducible refine' w_gTup ?wh ?wl ?_); (case wh => walk_at "lk"); (case wl => exact rfl)) | (with_reducible refine w_gCons ?_) | (with_reducible refine w_gNil ?_)
  | (with_reducible refine w_parT ?_) | (with_reducible refine w_parq ?_) | (with_reducible refine w_par3T ?_) | (with_reducible refine w_par3q ?_) | (with_reducible refine w_sfld ?_) | (with_reducible refine w_ob ?_) | (with_reducible refine w_obq ?_)
  | ((with_reducible refine' w_sfq ?wh ?wc ?wn ?wl ?wq); (case wh => walk_at "lk"); (case wc => walk_at "sd"); (case wn => walk_at "sd"); (case wl => exact Nat.le_of_ble_eq_true rfl))
  | ((with_reducible refine' w_rI ?wh ?wq); (case wh => first | decide | exact ⟨by decide, by decide⟩)) | (with_reducible refine w_pairsC ?_) | (with_reducible refine w_pairsN ?_) | ((with_reducible refine' w_cat ?wh ?wk ?wl ?wq); (case wh => walk_at "lk"); (case wk => walk_at "lk"); (case wl => walk_at "sz"))
  | ((with_reducible refine' w_mqRow ?wh ?wl ?wk ?wq); (case wh => walk_at "rw"); (case wl => exact rfl); (case wk => exact rfl))
  | ((with_reducible refine' w_mq ?wh ?wl ?wq); (case wh => walk_at "lk"); (case wl => exact rfl))
  | ((with_reducible refine' w_wipe ?wh ?wq); (case wh => exact rfl)) | (with_reducible refine w_yesT ?_)
  | (with_reducible refine w_isNumber ?_) | (with_reducible refine w_isCount ?_) | (with_reducible refine w_isColour ?_) | (with_reducible refine w_checkGame ?_) | (with_reducible refine w_checkGoal ?_) | (with_reducible refine w_checkWords ?_)
  | (with_reducible refine iteT ?_) | (with_reducible refine iteF ?_) | ((with_reducible refine' w_yes ?wh ?_); (case wh => exact rfl)) | ((with_reducible refine' w_no ?wh ?_); (case wh => exact rfl)))
local macro_rules | `(tactic| walk_at "sz") => `(tactic| first | (refine sz_le ?_; first | assumption | (simp only [List.length_map, List.length_append, List.length_cons, List.length_nil]; omega) | omega) | (refine sz_lt ?_; first | assumption | (simp only [List.length_map, List.length_append, List.length_cons, List.length_nil]; omega) | omega))
local macro_rules | `(tactic| walk_at "go") => `(tactic| repeat (walk_at "w"))
local macro_rules | `(tactic| walk_at "bt") => `(tactic| first | exact rfl | assumption | (simp [*]; done) | (simp; omega) | (simp [*]; omega))
local macro_rules | `(tactic| walk_at "yes") => `(tactic| ((with_reducible refine' w_yes ?wh ?wq); (case wh => walk_at "bt"); walk_at "go"))
local macro_rules | `(tactic| walk_at "no") => `(tactic| ((with_reducible refine' w_no ?wh ?wq); (case wh => walk_at "bt"); walk_at "go"))
local macro_rules | `(tactic| walk_at "st") => `(tactic| ((try dsimp only [L2.cxOf, L2.Cx.nox, L2.Cx.wish]); walk_at "go"))
local macro_rules | `(tactic| walk_at "rw") => `(tactic| first | assumption | ((with_reducible refine' IsRow.rw ?wk); (case wk => walk_at "rw")) | ((with_reducible refine' IsRw.ex (by assumption) ?wk); (case wk => walk_at "rw")) | ((with_reducible refine' IsRow.ex (by assumption) ?wk); (case wk => walk_at "rw")))
local macro_rules | `(tactic| walk_at "ro") => `(tactic| first | assumption | ((with_reducible refine' IsRow.ex (by assumption) ?wk); (case wk => walk_at "ro")))
local macro_rules | `(tactic| walk_at "fl") => `(tactic| first | assumption | ((with_reducible refine' IsFlip.ex (by assumption) ?wk); (case wk => walk_at "fl")))
local macro_rules | `(tactic| walk_at "w") => `(tactic| first
  | ((with_reducible refine' w_first ?wh ?wq); (case wh => walk_at "rw")) | ((with_reducible refine' w_runs ?wh ?wq); (case wh => walk_at "rw")) | ((with_reducible refine' w_length ?wh ?wq); (case wh => walk_at "rw")) | ((with_reducible refine' w_lengths ?wh ?wq); (case wh => walk_at "rw")))
local macro_rules | `(tactic| walk_at "w") => `(tactic| first
  | ((with_reducible refine' w_start ?wh ?wq); (case wh => walk_at "fl")) | ((with_reducible refine' w_end ?wh ?wq); (case wh => walk_at "fl")))
local macro_rules | `(tactic| walk_at "w") => `(tactic| first | (with_reducible refine w_dget ?_))
/-- where the two defs that make lambdas keep their tables -/
def lamT (K : PySem.W.Frag) : List (Addr × Str) := [((He.cT K ("_law_pair", none)).2, ("_law_pair" : Str) ++ ".<locals>." ++ "<lambda>"), ((He.cT K ("_law_more_pair", none)).2, ("_law_more_pair" : Str) ++ ".<locals>." ++ "<lambda>")]
/-- what is told of an exception -/
def HeardX (K : PySem.W.Frag) (Q : VK) : XK := fun cls d H => (cls = .ref (He.ga K "InvalidFlip") ∧ NewQ (.lst [.str "flip"]) Q H) ∨ (cls = .ref (He.ga K "NotAllowed") ∧ NewQ (.lst [.str "allowed"]) Q H) ∨
  (cls = .ref (He.ga K "NothingToUndo") ∧ NewQ (.lst [.str "nothing"]) Q H) ∨ (cls = .ref (He.ga K "InvalidPlan") ∧ ∃ dd v, d = some dd ∧ H dd = some (.xd [("index", v)]) ∧ NewQ (.lst [.str "plan", v]) Q H)
/-- .. and of an answer -/
def THeard (K : PySem.W.Frag) : (XK → Hp → VK → Prop) → Hp → VK → Prop := fun tl H Q => tl (HeardX K Q) H fun v H1 => ([V.str "told", v] : List V).length ≤ sizeLine ∧ NewQ (.lst [.str "told", v]) Q H1
theorem sc_heard : FnScope ["_law_call", "e"] ["_law_call"] (defScope (top 57)) := ⟨rfl, rfl, rfl, by decide +kernel, rfl, by decide +kernel, by decide +kernel⟩
theorem heard_gives {X : Cx} (T : Tx X.prog X.K X.mg) {cdg : Value} {g : Addr} {q : Str} : LamX.GivesTo X ["_law_call", "e"] "_law_heard" (defScope (top 57)) g cdg (defBody (top 57)) "_law_call" q (THeard X.K) := by
  intro f c' s H Q tl act hc h
  refine ⟨_, pss_one (ps_tryZ (tb := fun W D σ H => ∃ Ech : XK, (∀ cls d σ' H', Ech cls d H' → W cls d σ' H') ∧ σ[0]? = some (some (.ref f)) ∧ H c' = some (LamX.CodeO c' q) ∧ tl Ech H fun v H1 => ([V.str "told", v] : List V).length ≤ sizeLine ∧ NewQ (.lst [.str "told", v]) D.rt H1) rfl rfl (fun W pn xe tk => ?body)
    (.pl ⟨rfl, by decide, .inl T.ge_InvalidFlip⟩ (fun a ob cls d pn hz hf => pss_one (ps_ret (pe_lst (pa_cons pe_str pa_nil))))
      (.pl ⟨rfl, by decide, .inl T.ge_NotAllowed⟩ (fun a ob cls d pn hz hf => pss_one (ps_ret (pe_lst (pa_cons pe_str pa_nil))))
        (.pl ⟨rfl, by decide, .inl T.ge_NothingToUndo⟩ (fun a ob cls d pn hz hf => pss_one (ps_ret (pe_lst (pa_cons pe_str pa_nil))))
          (.nd (i := 1) ⟨rfl, by decide, .inl T.ge_InvalidPlan⟩ sc_heard.nd rfl rfl (fun a ob cls d pn hz hf => pss_one (ps_ret (pe_lst (pa_cons pe_str (pa_cons (pe_xf T.ipX.1 T.ipX.2 hz hf (pv 1)) pa_nil))))) .nil))))), ?read⟩
  case body =>
    refine ⟨fun pins s' σ H' D I h' => ?_⟩
    obtain ⟨Ech, hW, h1, h2, h3⟩ := h'
    refine PSs.run (t := tRet (tLst (tCons (tC (.str "told")) (tCons (fun σZ HZ Q => σZ[0]? = some (some (V.ref f)) ∧ HZ c' = some (LamX.CodeO c' q) ∧ tl Ech HZ Q) tNil)))) (pss_one (ps_ret (pe_lst (pa_cons pe_str (pa_cons (act W pn xe Ech _ _ tk hW) pa_nil))))) pins s' σ H' D I ?_
    walk_at "go"
    exact ⟨h1, h2, h3⟩
  case read =>
    refine ⟨HeardX X.K Q, fun cls d σ' H' hx hl => ?_, rfl, hc, h⟩
    obtain ⟨rfl, q⟩ | ⟨rfl, q⟩ | ⟨rfl, q⟩ | ⟨rfl, dd, v, rfl, hd, q⟩ := hx
    · refine ⟨_, T.x_InvalidFlip_InvalidFlip, fun _ a na => ?_, fun z => by cases z⟩
      dsimp only [Clz.go, endsN]
      walk_at "go"
      exact ⟨by show (1 : Nat) ≤ sizeLine; decide, q⟩
    · refine ⟨_, T.x_NotAllowed_InvalidFlip, (fun z => by cases z), fun _ => ⟨_, T.x_NotAllowed_NotAllowed, fun _ a na => ?_, fun z => by cases z⟩⟩
      dsimp only [Clz.go, endsN]
      walk_at "go"
      exact ⟨by show (1 : Nat) ≤ sizeLine; decide, q⟩
    · refine ⟨_, T.x_NothingToUndo_InvalidFlip, (fun z => by cases z), fun _ => ⟨_, T.x_NothingToUndo_NotAllowed, (fun z => by cases z), fun _ => ⟨_, T.x_NothingToUndo_NothingToUndo, fun _ a na => ?_, fun z => by cases z⟩⟩⟩
      dsimp only [Clz.go, endsN]
      walk_at "go"
      exact ⟨by show (1 : Nat) ≤ sizeLine; decide, q⟩
    · refine ⟨_, T.x_InvalidPlan_InvalidFlip, (fun z => by cases z), fun _ => ⟨_, T.x_InvalidPlan_NotAllowed, (fun z => by cases z), fun _ => ⟨_, T.x_InvalidPlan_NothingToUndo, (fun z => by cases z), fun _ => ⟨_, T.x_InvalidPlan_InvalidPlan, fun _ a na => ?_, fun z => by cases z⟩⟩⟩⟩
      dsimp only [Clz.go, endsN]
      have h1 : (σ'.set 1 (some (V.ref a)))[1]? = some (some (.ref a)) := by
        rw [List.getElem?_set_self]
        rw [hl]
        show 1 < 2
        decide
      walk_at "go"
      refine ⟨.ref a, h1, rfl, rfl, dd, _, v, rfl, hd, rfl, ?_⟩
      exact ⟨by show (2 : Nat) ≤ sizeLine; decide, q⟩
/-! ### a lambda handed to it -/
theorem lamT_uniq {P : Program} {K : PySem.W.Frag} {mg : Str → Option Value} (T : Tx P K mg) : ∀ p ∈ lamT K, ∀ q ∈ lamT K, p.1 = q.1 → p.2 = q.2 := by
  intro p hp q hq e
  simp only [lamT, List.mem_cons, List.not_mem_nil, or_false] at hp hq
  rcases hp with rfl | rfl <;> rcases hq with rfl | rfl
  · rfl
  · exact absurd e T.cT_ne
  · exact absurd e.symm T.cT_ne
  · rfl
def tHeard (K : PySem.W.Frag) (t : XK → TE) : TE := LamX.tLam (lamT K) (THeard K) t
theorem pe_heard {X : Cx} {c Pt : Addr} {k : Nat} {params : Arguments} {body : Expr} {scope : Scope} {t : XK → TE} {p lpos pos : Pos} (T : Tx X.prog X.K X.mg) (hg : Gl X "_law_heard") (TB : LamX.TabB X.base X.mg c Pt) (hcode : X.env.code = .ref c) (hm : (Pt, X.env.qual ++ "<lambda>") ∈ lamT X.K) (hr : Room (k + 2) X.A)
    (L : LamX.lamSB X.env.scope scope = true) (hdef : defaultsOf params X.env = ([], []))
    (hbind : ∀ (q : Str) (cl : List (Str × Addr)) (pm cv ctv : Value), bindArgs (PySem.W.kla_fn "<lambda>" q params body scope cl pm cv ctv) ⟨[], []⟩ = pure [])
    (hbody : ∀ (A : Around) (outer : List Env) (s : Shared) (H : Hp) (E : XK) (f c' : Addr), Room k (A.deeper (LamX.lamEnv X scope s.heap.objs.size f c')) → PE (LamX.lamCx X A outer s H E scope f c') body (t E)) :
    PE X (.Call (.Name "_law_heard" p) [.Lambda params body scope lpos] [] pos) (tHeard X.K t) := by
  obtain ⟨fd, F⟩ := T.d_law_heard
  have hb : Binds X.K fd ["_law_call"] [] := F.binds fun _ _ _ _ _ _ us hl => match us, hl with | [_], _ => rfl
  obtain ⟨oc, od, kV, doc, pm, an, cdv, ct, osl, rfl, lk, hcd⟩ := F.ex
  exact LamX.pe_lamcall hg T.g_law_heard F.kp lk hcd hb sc_heard rfl (.inl rfl) (heard_gives T) TB hcode hm (fun q hq e => lamT_uniq T q hq _ hm e) hr (LamX.lamS_by L) hdef hbind hbody
theorem w_heard {K : PySem.W.Frag} {t : XK → TE} {σ : L2.St} {H : Hp} {Q : VK} (h : LamX.Tabs (lamT K) H) (q : ∀ H1, LamX.ExtN H H1 → LamX.Tabs (lamT K) H1 → t (HeardX K Q) σ H1 fun v H2 => ([V.str "told", v] : List V).length ≤ sizeLine ∧ NewQ (.lst [.str "told", v]) Q H2) : tHeard K t σ H Q := ⟨h, fun H1 e h1 => q H1 e h1⟩
/-- a def of the top from its text, its code object known -/
theorem ok_mkC {P : Program} {w : World} {K : PySem.W.Frag} {mg : Str → Option Value} {base : Heap} {x : Str} {st : Stmt} {N ps : List Str} {k : Nat} {sp : Sp} (F : ∃ fd, Fun K x x st (He.ga K x) fd) (S : FnScope N ps (defScope st)) (len : ∀ vs H Q E, sp vs H Q E → vs.length = ps.length)
    (hbind : ∀ (kV doc pm : Value) (an : Option Addr) (cdv ct : Value) (us : List Value), us.length = ps.length → bindArgs (PySem.W.fnOf x x (defArgs st) (defBody st) (defScope st) .none kV doc pm an cdv ct) ⟨us, []⟩ = pure (ps.zip us))
    (hbody : ∀ (A : Around) (outer : List Env) (s : Shared) (H : Hp) (vs : List V) (Q : VK) (E : XK), Room k (A.deeper (envOfC x (defScope st) s.heap.objs.size (He.ga K x) (.ref (He.cT K (x, none)).1))) → sp vs H Q E →
      ∃ t, PSs (cxOf CX0 P w K mg base N x (defScope st) (He.ga K x) (.ref (He.cT K (x, none)).1) A outer s H E).nox (defBody st) t ∧ t { nx := fun _ H' => Q .non H', rt := Q } (start N vs) H) : Ok P w K mg base (k + 1) (He.ga K x) sp := by
  obtain ⟨fd, F⟩ := F
  obtain ⟨oc, od, kV, doc, pm, an, cdv, ct, osl, e, lk, hcd⟩ := F.ex
  subst e
  obtain ⟨c, hc⟩ := He.codeIn_ref hcd
  have e2 : (He.cT K (x, none)).1 = c := He.codeOf_eq (p := (x, none)) lk hc
  rw [e2] at hbody
  refine ⟨⟨_, ps, cx0_up (fn_of lk hcd S len fun A outer s H vs Q E hr hsp => ?_), F.binds hbind⟩, F.kp⟩
  rw [hc] at hr ⊢
  obtain ⟨t, h, q⟩ := hbody A outer s H vs Q E hr hsp
  exact ⟨t, h.nox, q⟩
end Tcf

set_option Elab.async false
set_option linter.all false
set_option maxRecDepth 100000
set_option maxHeartbeats 4000000
/-! EP: the law's whole state: stream, table, words, tables of code objects, kept objects. Own text. -/
namespace Tcf
open PySem PySem.Spec PyProof.Rows L2
open Evl (Ex)
/-! ### words along the deeds -/
def scanW : Wd → List Pl → List Wd
  | u, [] => [u]
  | u, p :: ps => u :: scanW (turnW u p.1 p.2) ps
def iniW : Wd → List Pl → List Wd
  | _, [] => []
  | u, p :: ps => u :: iniW (turnW u p.1 p.2) ps
def endW (u : Wd) (ps : List Pl) : Wd := ps.foldl (fun u p => turnW u p.1 p.2) u
theorem scan_ini : ∀ (ps : List Pl) (u : Wd), scanW u ps = iniW u ps ++ [endW u ps]
  | [], _ => rfl
  | p :: ps, u => by
    show u :: scanW _ ps = u :: (iniW _ ps ++ [endW _ ps])
    rw [scan_ini ps]
theorem scan_snoc : ∀ (ps : List Pl) (u : Wd) (p : Pl), scanW u (ps ++ [p]) = scanW u ps ++ [turnW (endW u ps) p.1 p.2]
  | [], _, _ => rfl
  | q :: ps, u, p => by
    show u :: scanW _ (ps ++ [p]) = u :: (scanW _ ps ++ [turnW (endW _ ps) p.1 p.2])
    rw [scan_snoc ps]
theorem end_snoc (ps : List Pl) (u : Wd) (p : Pl) : endW u (ps ++ [p]) = turnW (endW u ps) p.1 p.2 := by
  unfold endW
  rw [List.foldl_append]
  rfl
theorem scan_snoc2 (ps : List Pl) (u : Wd) (p : Pl) : scanW u (ps ++ [p]) = iniW u ps ++ [endW u ps, turnW (endW u ps) p.1 p.2] := by
  rw [scan_snoc, scan_ini, List.append_assoc]
  rfl
theorem ini_len : ∀ (ps : List Pl) (u : Wd), (iniW u ps).length = ps.length
  | [], _ => rfl
  | p :: ps, u => congrArg Nat.succ (ini_len ps _)
def AlF (g : Gm) (n : Nat) (ps : List Pl) : Prop := ∀ p ∈ ps, p ∈ placesW n g
theorem AlF.nil {g : Gm} {n : Nat} : AlF g n [] := fun _ h => (List.not_mem_nil h).elim
theorem AlF.snoc {g : Gm} {n : Nat} {ps : List Pl} {p : Pl} (h : AlF g n ps) (k : p ∈ placesW n g) : AlF g n (ps ++ [p]) := fun q hq => by
  rcases List.mem_append.mp hq with hq | hq
  · exact h q hq
  · rw [List.mem_singleton.mp hq]
    exact k
theorem AlF.app {g : Gm} {n : Nat} {ps qs : List Pl} (h : AlF g n ps) (k : AlF g n qs) : AlF g n (ps ++ qs) := fun q hq => (List.mem_append.mp hq).elim (h q) (k q)
theorem AlF.left {g : Gm} {n : Nat} {ps qs : List Pl} (h : AlF g n (ps ++ qs)) : AlF g n ps := fun q hq => h q (List.mem_append_left _ hq)
theorem AlF.right {g : Gm} {n : Nat} {ps qs : List Pl} (h : AlF g n (ps ++ qs)) : AlF g n qs := fun q hq => h q (List.mem_append_right _ hq)
theorem pl_le {g : Gm} {n : Nat} {p : Pl} (h : p ∈ placesW n g) : p.1 < p.2 ∧ p.2 ≤ n := by
  have := (mem_places n g p.1 p.2).mp h
  refine ⟨this.1, ?_⟩
  have h2 := this.2
  unfold allowB at h2
  simp only [Bool.and_eq_true, decide_eq_true_eq] at h2
  omega
theorem AlF.ok {g : Gm} {n : Nat} {ps : List Pl} (h : AlF g n ps) : OkFl n ps := fun p hp => pl_le (h p hp)
theorem end_in {n zz : Nat} {g : Gm} (hn : n ≤ 7) : ∀ (ps : List Pl) (u : Wd), InC n zz u → AlF g n ps → InC n zz (endW u ps)
  | [], _, h, _ => h
  | p :: ps, u, h, k => end_in hn ps _ (h.turn hn (k p List.mem_cons_self)) fun q hq => k q (List.mem_cons_of_mem _ hq)
theorem scan_in {n zz : Nat} {g : Gm} (hn : n ≤ 7) : ∀ (ps : List Pl) (u : Wd), InC n zz u → AlF g n ps → ∀ w ∈ scanW u ps, InC n zz w
  | [], _, h, _, w, hw => by
    rw [List.mem_singleton.mp hw]
    exact h
  | p :: ps, u, h, k, w, hw => by
    rcases List.mem_cons.mp hw with rfl | hw
    · exact h
    · exact scan_in hn ps _ (h.turn hn (k p List.mem_cons_self)) (fun q hq => k q (List.mem_cons_of_mem _ hq)) w hw
theorem end_back {n zz : Nat} {g : Gm} (hn : n ≤ 7) {ps : List Pl} {u : Wd} {p : Pl} (h : InC n zz u) (k : AlF g n (ps ++ [p])) : turnW (endW u (ps ++ [p])) p.1 p.2 = endW u ps := by
  rw [end_snoc]
  have h1 := end_in hn ps u h k.left
  have h2 := turn_all g (endW u ps) (by rw [h1.1]; exact hn) p (by rw [h1.1]; exact k p (by simp))
  exact h2.1
theorem scan_back (ps : List Pl) (u : Wd) (p : Pl) {ws : List Wd} {v : Wd} (h : scanW u (ps ++ [p]) = ws ++ [v]) : ws = scanW u ps := by
  rw [scan_snoc] at h
  exact ((List.append_inj' h rfl).1).symm
/-! ### the world of one table -/
structure Wo where
  s : Addr
  tb : Addr
  z : Addr
  kd : Addr
  n : Nat
  zz : Nat
  g : Gm
  o : Go
  u0 : Wd
def Lt (o : HO) : Prop := (∃ xs, o = .lst xs) ∨ (∃ xs, o = .tup xs) ∨ ∃ ob u, o = .frz ob u
def InG (K : PySem.W.Frag) (c : Wo) (L : List (Addr × HO)) (ds us : List Pl) (G : Hp) : Prop := (∃ r0 wt st r tdl tul dfs ufs, TabO K G c.tb r0 wt st ∧ BgAt K G r0 wt c.u0 c.g c.o ∧ StAt K G st r tdl tul dfs ufs (endW c.u0 ds) ds us) ∧
  KnownAt c.n c.zz c.g c.o G c.kd ∧ ∀ x ∈ L, G x.1 = some x.2 ∧ Lt x.2
structure Big (K : PySem.W.Frag) (c : Wo) (L : List (Addr × HO)) (lds lus tds tus : List Pl) (m : Nat) (H : Hp) : Prop where
  ex : ∃ wl dl ul dts uts, LwAt H c.z wl dl ul (scanW c.u0 lds) dts uts lds lus ∧ InG K c L tds tus (cutH [c.s, c.z, wl, dl, ul] H)
  stm : IsStm H c.s
  tab : LamX.Tabs (lamT K) H
  cls : InC c.n c.zz c.u0
  n7 : c.n ≤ 7
  a1 : AlF c.g c.n lds
  a2 : AlF c.g c.n lus
  a3 : AlF c.g c.n tds
  a4 : AlF c.g c.n tus
  z1 : lds.length ≤ m
  z2 : lus.length ≤ m
  z3 : tds.length ≤ m
  z4 : tus.length ≤ m
section
variable {K : PySem.W.Frag} {c : Wo} {L : List (Addr × HO)} {lds lus tds tus : List Pl} {m : Nat} {H H' G G' : Hp} {S : List Addr} {p : Addr} {o : HO}
theorem cut_ex (e : Ex H H') : Ex (cutH S H) (cutH S H') := fun a o h => by
  obtain ⟨n, h⟩ := cut_some h
  rw [cut_out n]
  exact e a o h
theorem cut_sub : Ex (cutH S H) H := fun a o h => (cut_some h).2
theorem KnownAt.ex {n z : Nat} {g : Gm} {o : Go} {kd : Addr} (e : Ex H H') (h : KnownAt n z g o H kd) : KnownAt n z g o H' kd := by
  obtain ⟨ks, h1, h2⟩ := h
  exact ⟨ks, e _ _ h1, h2⟩
theorem InG.ex {ds us : List Pl} (e : Ex G G') (h : InG K c L ds us G) : InG K c L ds us G' := by
  obtain ⟨⟨r0, wt, st, r, tdl, tul, dfs, ufs, h1, h2, h3⟩, h4, h5⟩ := h
  exact ⟨⟨r0, wt, st, r, tdl, tul, dfs, ufs, h1.ex e, h2.ex e, h3.ex e⟩, h4.ex e, fun x hx => ⟨e _ _ (h5 x hx).1, (h5 x hx).2⟩⟩
/-- the heap without the tables of code objects -/
def noTb (G : Hp) : Hp := fun a => match G a with
  | some (.tbl _) => none
  | x => x
theorem noTb_at {a : Addr} (h : G a = some o) (n : ∀ ps, o ≠ .tbl ps) : noTb G a = some o := by
  unfold noTb
  rw [h]
  cases o <;> first | rfl | exact absurd rfl (n _)
theorem noTb_sub : Ex (noTb G) G := fun a o h => by
  unfold noTb at h
  split at h
  · cases h
  · exact h
theorem noTb_ne {a : Addr} {ps : Array Value} : noTb G a ≠ some (.tbl ps) := fun h => by
  unfold noTb at h
  split at h
  · cases h
  · rename_i n
    exact n ps h
theorem IsRow.noTb {r : Addr} {w : Wd} (h : IsRow K G r w) : IsRow K (noTb G) r w := by
  obtain ⟨h0, dx, q, h1, h2⟩ := h
  exact ⟨h0, dx, q, noTb_at h1 (fun _ z => by cases z), noTb_at h2 (fun _ z => by cases z)⟩
theorem FlipsAt.noTb {fs : List Addr} {ps : List Pl} (h : FlipsAt K G fs ps) : FlipsAt K (noTb G) fs ps := paired_mono (fun _ _ ⟨dx, k⟩ => ⟨dx, noTb_at k (fun _ z => by cases z)⟩) h
theorem InG.noTb {ds us : List Pl} (h : InG K c L ds us G) : InG K c L ds us (noTb G) := by
  obtain ⟨⟨r0, wt, st, r, tdl, tul, dfs, ufs, ⟨dx, h1⟩, h2, h3⟩, ⟨ks, h4, h4b⟩, h5⟩ := h
  refine ⟨⟨r0, wt, st, r, tdl, tul, dfs, ufs, ⟨dx, noTb_at h1 (fun _ z => by cases z)⟩, ⟨h2.row.noTb, noTb_at h2.wds (fun _ z => by cases z)⟩, ⟨noTb_at h3.tup (fun _ z => by cases z), h3.row.noTb, noTb_at h3.don (fun _ z => by cases z), noTb_at h3.und (fun _ z => by cases z), h3.dF.noTb, h3.uF.noTb⟩⟩, ⟨ks, noTb_at h4 (fun _ z => by cases z), h4b⟩, fun x hx => ⟨noTb_at (h5 x hx).1 fun ps z => ?_, (h5 x hx).2⟩⟩
  rcases (h5 x hx).2 with ⟨xs, e⟩ | ⟨xs, e⟩ | ⟨ob, xs, e⟩ <;> (rw [e] at z; cases z)
/-- the stream is none of the state's lists -/
theorem stm_ne {z wl dl ul s : Addr} {ws : List Wd} {dts uts : List Addr} {ds us : List Pl} (W : LwAt H z wl dl ul ws dts uts ds us) (h : IsStm H s) : s ∉ [z, wl, dl, ul] := fun hm => by
  obtain ⟨x, y, h1, _⟩ := h
  simp only [List.mem_cons, List.not_mem_nil, or_false] at hm
  rcases hm with rfl | rfl | rfl | rfl
  · have := h1.symm.trans W.hz
    simp at this
  · have := h1.symm.trans W.hw
    cases ws <;> simp at this
  · have := h1.symm.trans W.hd
    cases dts <;> simp at this
  · have := h1.symm.trans W.hu
    cases uts <;> simp at this
theorem lists_of {z wl dl ul s : Addr} {ws : List Wd} {dts uts : List Addr} {ds us : List Pl} (W : LwAt H z wl dl ul ws dts uts ds us) (h : IsStm H s) : Lsts [s, z, wl, dl, ul] H := fun l hm => by
  obtain ⟨x, y, h1, _⟩ := h
  simp only [List.mem_cons, List.not_mem_nil, or_false] at hm
  rcases hm with rfl | rfl | rfl | rfl | rfl
  · exact ⟨_, h1⟩
  · exact ⟨_, W.hz⟩
  · exact ⟨_, W.hw⟩
  · exact ⟨_, W.hd⟩
  · exact ⟨_, W.hu⟩
theorem lsts_at {S : List Addr} (h : Lsts S H) (e : H p = some o) (n : ∀ xs, o ≠ .lst xs) : p ∉ S := fun hm => by
  obtain ⟨xs, h1⟩ := h p hm
  rw [e] at h1
  exact n xs (Option.some.inj h1)
theorem lsts_no {S : List Addr} (h : Lsts S H) (e : H p = none) : p ∉ S := fun hm => by
  obtain ⟨xs, h1⟩ := h p hm
  rw [e] at h1
  cases h1
theorem Big.get (b : Big K c L lds lus tds tus m H) (hp : (p, o) ∈ L) : H p = some o := by
  obtain ⟨wl, dl, ul, dts, uts, W, _, _, h5⟩ := b.ex
  exact cut_sub _ _ (h5 _ hp).1
theorem Big.drop {L' : List (Addr × HO)} (b : Big K c L lds lus tds tus m H) (h : ∀ x ∈ L', x ∈ L) : Big K c L' lds lus tds tus m H := by
  obtain ⟨⟨wl, dl, ul, dts, uts, W, h3, h4, h5⟩, x1, x2, x3, x4, x5, x6, x7, x8, x9, x10, x11, x12⟩ := b
  exact ⟨⟨wl, dl, ul, dts, uts, W, h3, h4, fun x hx => h5 x (h x hx)⟩, x1, x2, x3, x4, x5, x6, x7, x8, x9, x10, x11, x12⟩
theorem Big.le {m' : Nat} (b : Big K c L lds lus tds tus m H) (h : m ≤ m') : Big K c L lds lus tds tus m' H := by
  obtain ⟨x0, x1, x2, x3, x4, x5, x6, x7, x8, x9, x10, x11, x12⟩ := b
  exact ⟨x0, x1, x2, x3, x4, x5, x6, x7, x8, by omega, by omega, by omega, by omega⟩
/-- the stream is drawn from, objects are made -/
theorem Big.step (b : Big K c L lds lus tds tus m H) (e : Mu c.s H H') (hs : IsStm H' c.s) (ht : LamX.Tabs (lamT K) H') (L2 : List (Addr × HO)) (h2 : ∀ x ∈ L2, H' x.1 = some x.2 ∧ Lt x.2 ∧ (H x.1 = none ∨ ∃ xs, x.2 = .tup xs)) : Big K c (L2 ++ L) lds lus tds tus m H' := by
  obtain ⟨⟨wl, dl, ul, dts, uts, W, G⟩, x1, x2, x3, x4, x5, x6, x7, x8, x9, x10, x11, x12⟩ := b
  have nS := stm_ne W x1
  have lS := lists_of W x1
  obtain ⟨sx, sy, hsL, _⟩ := id x1
  simp only [List.mem_cons, List.not_mem_nil, or_false, not_or] at nS
  obtain ⟨n1, n2, n3, n4⟩ := nS
  have W' : LwAt H' c.z wl dl ul (scanW c.u0 lds) dts uts lds lus := ⟨mu_at e W.hz (Ne.symm n1), mu_at e W.hw (Ne.symm n2), mu_at e W.hd (Ne.symm n3), mu_at e W.hu (Ne.symm n4), W.dF.mu e hsL, W.uF.mu e hsL, W.n1, W.n2, W.n3, W.n4, W.n5, W.n6⟩
  have lS' := lists_of W' hs
  have eC : Ex (cutH [c.s, c.z, wl, dl, ul] H) (cutH [c.s, c.z, wl, dl, ul] H') := fun a o h => by
    obtain ⟨n, h⟩ := cut_some h
    rw [cut_out n]
    exact mu_at e h fun z => n (by rw [z]; simp)
  obtain ⟨g1, g2, g3⟩ := G.ex eC
  refine ⟨⟨wl, dl, ul, dts, uts, W', g1, g2, fun x hx => ?_⟩, hs, ht, x3, x4, x5, x6, x7, x8, x9, x10, x11, x12⟩
  rcases List.mem_append.mp hx with hx | hx
  · obtain ⟨k1, k2, k3⟩ := h2 x hx
    refine ⟨?_, k2⟩
    rw [cut_out]
    · exact k1
    · rcases k3 with k3 | ⟨xs, k3⟩
      · exact lsts_no lS k3
      · exact lsts_at lS' k1 fun ys z => by rw [k3] at z; cases z
  · exact g3 x hx
theorem IsStm.ex {s : Addr} (e : Ex H H') (h : IsStm H s) : IsStm H' s := by
  obtain ⟨x, y, h1, h2⟩ := h
  exact ⟨x, y, e _ _ h1, h2⟩
theorem CodeO_nl {a : Addr} {q : Str} {xs : List V} : LamX.CodeO a q ≠ .lst xs := fun z => by
  unfold LamX.CodeO at z
  cases z
theorem tabs_mu {T : List (Addr × Str)} {l : Addr} {xs : List V} (e : Mu l H H') (hl : H l = some (.lst xs)) (t : LamX.Tabs T H) : LamX.Tabs T H' := fun p hp => by
  obtain ⟨ps, h1, h2, h3⟩ := t p hp
  refine ⟨ps, mu_at e h1 (ne_of h1 hl (by intro z; cases z)), h2, fun pos cv hc => ?_⟩
  obtain ⟨c, e1, e2⟩ := h3 pos cv hc
  exact ⟨c, e1, mu_at e e2 (ne_of e2 hl CodeO_nl)⟩
theorem Big.draw (b : Big K c L lds lus tds tus m H) (e : Mu c.s H H') (hs : IsStm H' c.s) : Big K c L lds lus tds tus m H' := by
  obtain ⟨x, y, h1, _⟩ := b.stm
  exact b.step e hs (tabs_mu e h1 b.tab) [] fun _ h => (List.not_mem_nil h).elim
theorem Big.ext (b : Big K c L lds lus tds tus m H) (e : Ex H H') : Big K c L lds lus tds tus m H' := b.draw (Mu.ofEx e) (b.stm.ex e)
theorem Big.add (b : Big K c L lds lus tds tus m H) (e : Ex H H') (n : H p = none) (h : H' p = some o) (l : Lt o) : Big K c ((p, o) :: L) lds lus tds tus m H' :=
  b.step (Mu.ofEx e) (b.stm.ex e) (b.tab.ext e) [(p, o)] fun x hx => by
    rw [List.mem_singleton.mp hx]
    exact ⟨h, l, .inl n⟩
theorem Big.addT {xs : List V} (b : Big K c L lds lus tds tus m H) (h : H p = some (.tup xs)) : Big K c ((p, .tup xs) :: L) lds lus tds tus m H :=
  b.step (Mu.ofEx (fun _ _ h => h)) b.stm b.tab [(p, .tup xs)] fun x hx => by
    rw [List.mem_singleton.mp hx]
    exact ⟨h, .inr (.inl ⟨_, rfl⟩), .inr ⟨_, rfl⟩⟩
/-- a lambda is made -/
theorem Big.lam (b : Big K c L lds lus tds tus m H) (e : LamX.ExtN H H') (ht : LamX.Tabs (lamT K) H') : Big K c L lds lus tds tus m H' := by
  obtain ⟨⟨wl, dl, ul, dts, uts, W, G⟩, ⟨sx, sy, hsL, hs2⟩, x2, x3, x4, x5, x6, x7, x8, x9, x10, x11, x12⟩ := b
  have W' : LwAt H' c.z wl dl ul (scanW c.u0 lds) dts uts lds lus := ⟨e _ _ W.hz (fun _ z => by cases z), e _ _ W.hw (fun _ z => by cases z), e _ _ W.hd (fun _ z => by cases z), e _ _ W.hu (fun _ z => by cases z),
    paired_mono (fun _ _ k => e _ _ k (fun _ z => by cases z)) W.dF, paired_mono (fun _ _ k => e _ _ k (fun _ z => by cases z)) W.uF, W.n1, W.n2, W.n3, W.n4, W.n5, W.n6⟩
  have eC : Ex (noTb (cutH [c.s, c.z, wl, dl, ul] H)) (cutH [c.s, c.z, wl, dl, ul] H') := fun a o h => by
    obtain ⟨n, h1⟩ := cut_some (noTb_sub _ _ h)
    rw [cut_out n]
    exact e _ _ h1 fun ps z => noTb_ne (by rw [h, z])
  exact ⟨⟨wl, dl, ul, dts, uts, W', G.noTb.ex eC⟩, ⟨sx, sy, e _ _ hsL (fun _ z => by cases z), hs2⟩, ht, x3, x4, x5, x6, x7, x8, x9, x10, x11, x12⟩
/-- the law's state is changed -/
theorem Big.law {wl dl ul : Addr} {dts uts : List Addr} {lds' lus' : List Pl} {m' : Nat} (b : Big K c L lds lus tds tus m H) (W : LwAt H c.z wl dl ul (scanW c.u0 lds) dts uts lds lus) (w : Lw (cutH [c.z, wl, dl, ul] H) H' c.z (scanW c.u0 lds') lds' lus') (a1 : AlF c.g c.n lds') (a2 : AlF c.g c.n lus')
    (hm : m ≤ m') (z1 : lds'.length ≤ m') (z2 : lus'.length ≤ m') : Big K c L lds' lus' tds tus m' H' ∧ (∀ (p : Addr) (x : Str) (k : Int), H' p = some (.lst [.str x, .int k]) → Big K c ((p, .lst [.str x, .int k]) :: L) lds' lus' tds tus m' H') := by
  obtain ⟨⟨wl0, dl0, ul0, dts0, uts0, W0, G⟩, x1, x2, x3, x4, x5, x6, x7, x8, x9, x10, x11, x12⟩ := b
  have q := W0.hz.symm.trans W.hz
  simp only [Option.some.injEq, HO.lst.injEq, List.cons.injEq, V.ref.injEq, and_true] at q
  obtain ⟨rfl, rfl, rfl⟩ := q
  obtain ⟨eG, wl', dl', ul', dts', uts', W', g1, g2, g3, g4⟩ := w
  have nS := stm_ne W x1
  have lS := lists_of W x1
  have hs : IsStm H' c.s := by
    obtain ⟨x, y, h1, h2⟩ := x1
    exact ⟨x, y, eG _ _ (by rw [cut_out nS]; exact h1), h2⟩
  have lS' := lists_of W' hs
  have sub : ∀ l, l ∉ [c.s, c.z, wl0, dl0, ul0] → l ∉ [c.z, wl0, dl0, ul0] := fun l hl hm => hl (List.mem_cons_of_mem _ hm)
  have eC : Ex (cutH [c.s, c.z, wl0, dl0, ul0] H) (cutH [c.s, c.z, wl', dl', ul'] H') := fun a o h => by
    obtain ⟨n, h1⟩ := cut_some h
    have h2 : cutH [c.z, wl0, dl0, ul0] H a = some o := by rw [cut_out (sub a n)]; exact h1
    rw [cut_out fun hm => ?_]
    · exact eG _ _ h2
    · simp only [List.mem_cons, List.not_mem_nil, or_false] at hm
      rcases hm with z | z | z | z | z
      · exact n (by rw [z]; simp)
      · rw [z, g1] at h2; cases h2
      · rw [z, g2] at h2; cases h2
      · rw [z, g3] at h2; cases h2
      · rw [z, g4] at h2; cases h2
  have ht : LamX.Tabs (lamT K) H' := fun p hp => by
    obtain ⟨ps, h1, h2, h3⟩ := x2 p hp
    refine ⟨ps, eG _ _ (by rw [cut_out (sub _ (lsts_at lS h1 fun _ z => by cases z))]; exact h1), h2, fun pos cv hc => ?_⟩
    obtain ⟨cc, e1, e2⟩ := h3 pos cv hc
    exact ⟨cc, e1, eG _ _ (by rw [cut_out (sub _ (lsts_at lS e2 fun _ z => CodeO_nl z))]; exact e2)⟩
  have b' : Big K c L lds' lus' tds tus m' H' := ⟨⟨wl', dl', ul', dts', uts', W', G.ex eC⟩, hs, ht, x3, x4, a1, a2, x7, x8, z1, z2, by omega, by omega⟩
  refine ⟨b', fun p x k hp => ?_⟩
  obtain ⟨j1, j2, j3⟩ := G.ex eC
  refine ⟨⟨wl', dl', ul', dts', uts', W', j1, j2, fun y hy => ?_⟩, hs, ht, x3, x4, a1, a2, x7, x8, z1, z2, by omega, by omega⟩
  rcases List.mem_cons.mp hy with rfl | hy
  · refine ⟨?_, .inl ⟨_, rfl⟩⟩
    rw [cut_out fun hm => ?_]
    · exact hp
    · simp only [List.mem_cons, List.not_mem_nil, or_false] at hm
      rcases hm with z | z | z | z | z
      · obtain ⟨x', y', h1, _⟩ := hs
        rw [z, h1] at hp
        simp at hp
      · have := hp.symm.trans (z ▸ W'.hz)
        simp at this
      · have := hp.symm.trans (z ▸ W'.hw)
        rw [scan_ini] at this
        simp only [Option.some.injEq, HO.lst.injEq] at this
        have h3 := congrArg List.reverse this
        simp at h3
      · have := hp.symm.trans (z ▸ W'.hd)
        cases dts' <;> simp at this
      · have := hp.symm.trans (z ▸ W'.hu)
        cases uts' <;> simp at this
  · exact j3 y hy
/-- the table is changed -/
theorem Big.table {wl dl ul : Addr} {dts uts : List Addr} {tds' tus' : List Pl} {m' : Nat} (b : Big K c L lds lus tds tus m H) (W : LwAt H c.z wl dl ul (scanW c.u0 lds) dts uts lds lus) (e : Mu c.tb (cutH [c.s, c.z, wl, dl, ul] H) G) (hG : ∀ l ∈ [c.s, c.z, wl, dl, ul], G l = none)
    (t : ∃ r0 wt st r tdl tul dfs ufs, TabO K G c.tb r0 wt st ∧ BgAt K G r0 wt c.u0 c.g c.o ∧ StAt K G st r tdl tul dfs ufs (endW c.u0 tds') tds' tus') (a3 : AlF c.g c.n tds') (a4 : AlF c.g c.n tus') (hm : m ≤ m') (z3 : tds'.length ≤ m') (z4 : tus'.length ≤ m') :
    Big K c L lds lus tds' tus' m' (joinH [c.s, c.z, wl, dl, ul] H G) := by
  obtain ⟨⟨wl0, dl0, ul0, dts0, uts0, W0, ⟨r0, wt, st, r, tdl, tul, dfs, ufs, ⟨dx, hT⟩, _, _⟩, k4, k5⟩, x1, x2, x3, x4, x5, x6, x7, x8, x9, x10, x11, x12⟩ := b
  have q := W0.hz.symm.trans W.hz
  simp only [Option.some.injEq, HO.lst.injEq, List.cons.injEq, V.ref.injEq, and_true] at q
  obtain ⟨rfl, rfl, rfl⟩ := q
  have lS := lists_of W x1
  have keep : ∀ {a : Addr} {o : HO}, cutH [c.s, c.z, wl0, dl0, ul0] H a = some o → (∀ C d f, o ≠ .ins C d f) → G a = some o := fun h n => mu_at e h (ne_of h hT (n _ _ _))
  have over : ∀ {a : Addr} {o : HO}, H a = some o → (∀ xs, o ≠ .lst xs) → (∀ C d f, o ≠ .ins C d f) → joinH [c.s, c.z, wl0, dl0, ul0] H G a = some o := fun {a o} h n1 n2 => by
    have na := lsts_at lS h n1
    rw [join_out na]
    exact keep (by rw [cut_out na]; exact h) n2
  have inS : ∀ {l : Addr} {o : HO}, l ∈ [c.s, c.z, wl0, dl0, ul0] → H l = some o → joinH [c.s, c.z, wl0, dl0, ul0] H G l = some o := fun hl h => by rw [join_in hl]; exact h
  have W' : LwAt (joinH [c.s, c.z, wl0, dl0, ul0] H G) c.z wl0 dl0 ul0 (scanW c.u0 lds) dts uts lds lus := ⟨inS (by simp) W.hz, inS (by simp) W.hw, inS (by simp) W.hd, inS (by simp) W.hu,
    paired_mono (fun _ _ k => over k (fun _ z => by cases z) (fun _ _ _ z => by cases z)) W.dF, paired_mono (fun _ _ k => over k (fun _ z => by cases z) (fun _ _ _ z => by cases z)) W.uF, W.n1, W.n2, W.n3, W.n4, W.n5, W.n6⟩
  have eq : cutH [c.s, c.z, wl0, dl0, ul0] (joinH [c.s, c.z, wl0, dl0, ul0] H G) = G := funext fun a => by
    by_cases ha : a ∈ [c.s, c.z, wl0, dl0, ul0]
    · rw [cut_in ha, hG a ha]
    · rw [cut_out ha, join_out ha]
  refine ⟨⟨wl0, dl0, ul0, dts, uts, W', ?_⟩, ?_, fun p hp => ?_, x3, x4, x5, x6, a3, a4, by omega, by omega, z3, z4⟩
  · rw [eq]
    obtain ⟨ks, k4, k4b⟩ := k4
    refine ⟨t, ⟨ks, keep k4 (fun _ _ _ z => by cases z), k4b⟩, fun x hx => ⟨keep (k5 x hx).1 fun _ _ _ z => ?_, (k5 x hx).2⟩⟩
    rcases (k5 x hx).2 with ⟨xs, q⟩ | ⟨xs, q⟩ | ⟨ob, xs, q⟩ <;> (rw [q] at z; cases z)
  · obtain ⟨x, y, h1, h2⟩ := x1
    exact ⟨x, y, inS (by simp) h1, h2⟩
  · obtain ⟨ps, h1, h2, h3⟩ := x2 p hp
    refine ⟨ps, over h1 (fun _ z => by cases z) (fun _ _ _ z => by cases z), h2, fun pos cv hc => ?_⟩
    obtain ⟨cc, e1, e2⟩ := h3 pos cv hc
    exact ⟨cc, e1, over e2 (fun _ z => CodeO_nl z) (fun _ _ _ z => by unfold LamX.CodeO at z; cases z)⟩
end
end Tcf

set_option Elab.async false
set_option linter.all false
set_option maxRecDepth 100000
set_option maxHeartbeats 4000000
/-! EQ: deeds of the table and of the law, told of the whole state (printed from EQ.tmpl by gen_der.py). -/
namespace Tcf
open PySem PySem.Spec PyProof.Rows L2
open Evl (Ex)
set_option hygiene false in
local macro_rules | `(tactic| walk_at "lkT") => `(tactic| first | (with_reducible exact T.l_GAMES _) | (with_reducible exact T.l_GOALS _))
set_option hygiene false in
local macro_rules | `(tactic| walk_at "isx") => `(tactic| first | (with_reducible exact T.is_Row (by walk_at "lk")) | (with_reducible exact T.is_Flip (by walk_at "lk")) | (with_reducible exact T.is_Table (by walk_at "lk")))
local macro_rules | `(tactic| walk_at "lk") => `(tactic| first
  | assumption
  | walk_at "lkT"
  | ((with_reducible refine' ex_at (by assumption) ?wk); (case wk => walk_at "lk"))
  | ((with_reducible refine' sl_of ?wk); (case wk => walk_at "lk"))
  | ((with_reducible refine' st_of ?wk); (case wk => walk_at "lk"))
  | ((with_reducible refine' ex_l (by assumption) ?wk); (case wk => walk_at "lk"))
  | ((with_reducible refine' ex_t (by assumption) ?wk); (case wk => walk_at "lk"))
  | ((with_reducible refine' mu_at (by assumption) ?wk ?wn); (case wk => walk_at "lk"); (case wn => assumption)))
set_option hygiene false in
local macro_rules | `(tactic| walk_at "sd") => `(tactic| first
  | exact rfl | assumption | (with_reducible exact T.c_Row) | (with_reducible exact T.c_Flip) | (with_reducible exact T.c_Table) | (with_reducible exact T.c_Trial)
  | (with_reducible exact T.n_Row_colour) | (with_reducible exact T.n_Row_sizes) | (with_reducible exact T.n_Flip_begin) | (with_reducible exact T.n_Flip_finish) | (with_reducible exact T.n_Trial_home) | (with_reducible exact T.n_Trial_kept)
  | (with_reducible exact T.n_Table_beginning) | (with_reducible exact T.n_Table_words) | (with_reducible exact T.n_Table_state))
local macro_rules | `(tactic| walk_at "w") => `(tactic| first
  | (with_reducible refine w_seq ?_) | (with_reducible refine w_asg ?_) | (with_reducible refine w_gName ?_) | (with_reducible refine w_ret ?_) | (with_reducible refine w_ifS ?_) | (with_reducible refine w_drop ?_) | (with_reducible refine w_next ?_)
  | ((with_reducible refine' w_aug ?wh ?_); (case wh => exact rfl)) | (with_reducible refine w_match ?_) | (with_reducible refine w_case ?_)
  | ((with_reducible refine' w_var ?wh ?_); (case wh => exact rfl))
  | (with_reducible refine w_c ?_) | (with_reducible refine w_op ?_) | (with_reducible refine w_un ?_) | (with_reducible refine w_nil ?_) | (with_reducible refine w_cons ?_) | (with_reducible refine w_star ?_) | (with_reducible refine w_tup ?_) | (with_reducible refine w_lst ?_)
  | (with_reducible refine w_if ?_) | (with_reducible refine w_and ?_) | (with_reducible refine w_or ?_) | (with_reducible refine w_not ?_) | (with_reducible refine w_bq ?_) | (with_reducible refine w_B ?_) | (with_reducible refine w_test ?_) | (with_reducible refine w_andV ?_) | (with_reducible refine w_orV ?_) | (with_reducible refine w_notV ?_)
  | (with_reducible refine w_chain ?_) | (with_reducible refine w_rI0 ?_) | (with_reducible refine w_rU ?_) | (with_reducible refine w_ipI ?_)
  | (with_reducible refine w_eqI ?_) | (with_reducible refine w_neI ?_) | (with_reducible refine w_eqS ?_) | (with_reducible refine w_neS ?_) | (with_reducible refine w_eqB ?_) | (with_reducible refine w_neB ?_) | (with_reducible refine w_isNr ?_) | (with_reducible refine w_isNn ?_)
  | (with_reducible refine w_sl ?_) | (with_reducible refine w_noPart ?_) | (with_reducible refine w_part ?_) | (with_reducible refine w_pq ?_) | (with_reducible refine w_revL ?_) | (with_reducible refine w_revS ?_)
  | (with_reducible refine w_cb ?_) | (with_reducible refine w_min2 ?_) | (with_reducible refine w_max2 ?_) | (with_reducible refine w_intB ?_)
  | (with_reducible refine w_fn ?_) | (with_reducible refine w_me ?_) | (with_reducible refine w_pr ?_) | (with_reducible refine w_mk ?_) | (with_reducible refine w_fld ?_)
  | (with_reducible refine w_isi_ii ?_) | (with_reducible refine w_isi_ib ?_) | (with_reducible refine w_isi_ss ?_)
  | ((with_reducible refine' w_isi_ll ?wh ?_); (case wh => walk_at "lk"))
  | ((with_reducible refine' w_isi_own ?wh ?wq); (case wh => walk_at "isx"))
  | ((with_reducible refine' w_lenL ?wh ?_); (case wh => walk_at "lk")) | ((with_reducible refine' w_ixL ?wh ?wi ?_); (case wh => walk_at "lk"); (case wi => first | assumption | exact rfl)) | ((with_reducible refine' w_ixT ?wh ?wi ?_); (case wh => walk_at "lk"); (case wi => first | assumption | exact rfl))
  | ((with_reducible refine' w_slL ?wh ?_); (case wh => walk_at "lk")) | ((with_reducible refine' w_rvq ?wh ?_); (case wh => walk_at "lk")) | ((with_reducible refine' w_listO ?wh ?_); (case wh => walk_at "lk")) | ((with_reducible refine' w_starL ?wh ?_); (case wh => walk_at "lk"))
  | ((with_reducible refine' w_fq ?wh ?wc ?wn ?wl ?_); (case wh => walk_at "lk"); (case wc => walk_at "sd"); (case wn => walk_at "sd"); (case wl => exact rfl))
  | ((with_reducible refine' w_sum ?wh ?_); (case wh => walk_at "lk"))
  | ((with_reducible refine' w_all ?wh ?_); (case wh => walk_at "lk"))
  | (with_reducible refine w_forL ?_) | ((with_reducible refine' w_forLq ?wh ?_); (case wh => walk_at "lk")) | (with_reducible refine w_forS ?_) | (with_reducible refine w_forSq ?_) | (with_reducible refine w_forR1 ?_) | ((with_reducible refine' w_forR1q ?wh ?_); (case wh => omega)) | (with_reducible refine w_forR2 ?_) | ((with_reducible refine' w_forR2q ?wh ?_); (case wh => omega)) | (with_reducible refine w_forE ?_) | ((with_reducible refine' w_forEq ?wh ?_); (case wh => walk_at "lk"))
  | (with_reducible refine w_lcL ?_) | ((with_reducible refine' w_lcLq ?wh ?_); (case wh => walk_at "lk")) | (with_reducible refine w_lcS ?_) | (with_reducible refine w_lcSq ?_) | (with_reducible refine w_lcR2 ?_) | ((with_reducible refine' w_lcR2q ?wh ?_); (case wh => omega))
  | (with_reducible refine w_bm ?_) | ((with_reducible refine' w_bmq ?wh ?_); (case wh => walk_at "lk")) | (with_reducible refine w_bm0 ?_) | ((with_reducible refine' w_bm0q ?wh ?_); (case wh => walk_at "lk"))
  | ((with_reducible refine' w_getL ?wh ?wi ?_); (case wh => walk_at "lk"); (case wi => first | assumption | exact rfl)) | (with_reducible refine w_gSub ?_) | (with_reducible refine w_augS ?_)
  | ((with_reducible refine' w_gTup ?wh ?wl ?_); (case wh => walk_at "lk"); (case wl => exact rfl)) | (with_reducible refine w_gCons ?_) | (with_reducible refine w_gNil ?_)
  | (with_reducible refine w_parT ?_) | (with_reducible refine w_parq ?_) | (with_reducible refine w_par3T ?_) | (with_reducible refine w_par3q ?_) | (with_reducible refine w_sfld ?_) | (with_reducible refine w_ob ?_) | (with_reducible refine w_obq ?_)
  | ((with_reducible refine' w_sfq ?wh ?wc ?wn ?wl ?wq); (case wh => walk_at "lk"); (case wc => walk_at "sd"); (case wn => walk_at "sd"); (case wl => exact Nat.le_of_ble_eq_true rfl))
  | ((with_reducible refine' w_rI ?wh ?wq); (case wh => first | decide | exact ⟨by decide, by decide⟩)) | (with_reducible refine w_pairsC ?_) | (with_reducible refine w_pairsN ?_) | ((with_reducible refine' w_cat ?wh ?wk ?wl ?wq); (case wh => walk_at "lk"); (case wk => walk_at "lk"); (case wl => walk_at "sz"))
  | ((with_reducible refine' w_mqRow ?wh ?wl ?wk ?wq); (case wh => walk_at "rw"); (case wl => exact rfl); (case wk => exact rfl))
  | ((with_reducible refine' w_mq ?wh ?wl ?wq); (case wh => walk_at "lk"); (case wl => exact rfl))
  | ((with_reducible refine' w_wipe ?wh ?wq); (case wh => exact rfl)) | (with_reducible refine w_yesT ?_)
  | (with_reducible refine w_isNumber ?_) | (with_reducible refine w_isCount ?_) | (with_reducible refine w_isColour ?_) | (with_reducible refine w_checkGame ?_) | (with_reducible refine w_checkGoal ?_) | (with_reducible refine w_checkWords ?_)
  | (with_reducible refine iteT ?_) | (with_reducible refine iteF ?_) | ((with_reducible refine' w_yes ?wh ?_); (case wh => exact rfl)) | ((with_reducible refine' w_no ?wh ?_); (case wh => exact rfl)))
local macro_rules | `(tactic| walk_at "sz") => `(tactic| first | (refine sz_le ?_; first | assumption | (simp only [List.length_map, List.length_append, List.length_cons, List.length_nil]; omega) | omega) | (refine sz_lt ?_; first | assumption | (simp only [List.length_map, List.length_append, List.length_cons, List.length_nil]; omega) | omega))
local macro_rules | `(tactic| walk_at "go") => `(tactic| repeat (walk_at "w"))
local macro_rules | `(tactic| walk_at "bt") => `(tactic| first | exact rfl | assumption | (simp [*]; done) | (simp; omega) | (simp [*]; omega))
local macro_rules | `(tactic| walk_at "yes") => `(tactic| ((with_reducible refine' w_yes ?wh ?wq); (case wh => walk_at "bt"); walk_at "go"))
local macro_rules | `(tactic| walk_at "no") => `(tactic| ((with_reducible refine' w_no ?wh ?wq); (case wh => walk_at "bt"); walk_at "go"))
local macro_rules | `(tactic| walk_at "st") => `(tactic| ((try dsimp only [L2.cxOf, L2.Cx.nox, L2.Cx.wish]); walk_at "go"))
local macro_rules | `(tactic| walk_at "rw") => `(tactic| first | assumption | ((with_reducible refine' IsRow.rw ?wk); (case wk => walk_at "rw")) | ((with_reducible refine' IsRw.ex (by assumption) ?wk); (case wk => walk_at "rw")) | ((with_reducible refine' IsRow.ex (by assumption) ?wk); (case wk => walk_at "rw")))
local macro_rules | `(tactic| walk_at "ro") => `(tactic| first | assumption | ((with_reducible refine' IsRow.ex (by assumption) ?wk); (case wk => walk_at "ro")))
local macro_rules | `(tactic| walk_at "fl") => `(tactic| first | assumption | ((with_reducible refine' IsFlip.ex (by assumption) ?wk); (case wk => walk_at "fl")))
local macro_rules | `(tactic| walk_at "w") => `(tactic| first
  | ((with_reducible refine' w_first ?wh ?wq); (case wh => walk_at "rw")) | ((with_reducible refine' w_runs ?wh ?wq); (case wh => walk_at "rw")) | ((with_reducible refine' w_length ?wh ?wq); (case wh => walk_at "rw")) | ((with_reducible refine' w_lengths ?wh ?wq); (case wh => walk_at "rw")))
local macro_rules | `(tactic| walk_at "w") => `(tactic| first
  | ((with_reducible refine' w_start ?wh ?wq); (case wh => walk_at "fl")) | ((with_reducible refine' w_end ?wh ?wq); (case wh => walk_at "fl")))
local macro_rules | `(tactic| walk_at "w") => `(tactic| first | (with_reducible refine w_dget ?_))
def spJoinL (K : PySem.W.Frag) : Sp := fun vs H Q E => spIadd K vs H (fun _ H' => Q .non H') E
theorem sc_law_joined : FnScope ["_law_table", "_law_flips"] ["_law_table", "_law_flips"] (defScope (top 58)) := ⟨rfl, rfl, rfl, by decide +kernel, rfl, by decide +kernel, by decide +kernel⟩
theorem ok_law_joined {P : Program} {w : World} {K : PySem.W.Frag} {mg : Str → Option Value} {base : Heap} (T : Tx P K mg) : Ok P w K mg base 9 (He.ga K "_law_joined") (spJoinL K) := by
  refine ok_mkX T.d_law_joined sc_law_joined (fun vs H Q E h => ?len) (fun _ _ _ _ _ _ us hl => match us, hl with | [_, _], _ => rfl) (fun cdv A outer s H vs Q E hr h => ⟨_, (pss_one (ps_aug (i := 0) sc_law_joined.nd rfl (.inl rfl) (pv 1) (iop_own T.sf_Table T.m_Table_diaddd.at_ T.m_Table_diaddd.fn (ok_Table_diaddd T) hr (passes_call (E := E) (takes_of rfl rfl rfl rfl) (fun _ _ _ _ h => h))))), ?body⟩)
  case len => obtain ⟨t, r0, wt, st, u0, g, o, r, dl, ul, dfs, ufs, u, ds, us, fl, ffs, ps, rfl, _⟩ := h; rfl
  case body =>
    obtain ⟨t, r0, wt, st, u0, g, o, r, dl, ul, dfs, ufs, u, ds, us, fl, ffs, ps, rfl, ⟨dx, ht⟩, _⟩ := id h
    walk_at "st"
    exact ⟨t, dx, _, rfl, ht, h⟩
/-! ### lists of flips -/
theorem apply_ok (g : Gm) (n : Nat) : ∀ (ps : List Pl) (u v : Wd) (i : Nat), u.length = n → (∀ p ∈ ps, p.1 < p.2) → applyP g u ps i = .ok v → AlF g n ps ∧ v = endW u ps
  | [], u, v, i, _, _, h => by
    cases h
    exact ⟨AlF.nil, rfl⟩
  | p :: ps, u, v, i, hu, hp, h => by
    rw [applyP_cons] at h
    by_cases c : allowB g u.length p.1 p.2 = true
    · rw [if_pos c] at h
      rw [hu] at c
      have hm : p ∈ placesW n g := (mem_places n g p.1 p.2).mpr ⟨hp p List.mem_cons_self, c⟩
      have hl := pl_le hm
      obtain ⟨h1, h2⟩ := apply_ok g n ps _ v (i + 1) ((turnW_len u p.1 p.2 (by omega) (by omega)).trans hu) (fun q hq => hp q (List.mem_cons_of_mem _ hq)) h
      exact ⟨fun q hq => (List.mem_cons.mp hq).elim (fun e => e ▸ hm) (h1 q), h2⟩
    · rw [if_neg c] at h
      cases h
section
variable {K : PySem.W.Frag} {c : Wo} {L : List (Addr × HO)} {lds lus tds tus : List Pl} {m : Nat} {H : Hp} {Q : VK} {E : XK}
theorem Big.tabH (b : Big K c L lds lus tds tus m H) : ∃ r0 wt st r tdl tul dfs ufs, TabO K H c.tb r0 wt st ∧ BgAt K H r0 wt c.u0 c.g c.o ∧ StAt K H st r tdl tul dfs ufs (endW c.u0 tds) tds tus := by
  obtain ⟨wl, dl, ul, dts, uts, W, G⟩ := b.ex
  exact (G.ex cut_sub).1
theorem Big.known (b : Big K c L lds lus tds tus m H) : KnownAt c.n c.zz c.g c.o H c.kd := by
  obtain ⟨wl, dl, ul, dts, uts, W, G⟩ := b.ex
  exact (G.ex cut_sub).2.1
theorem Big.endL (b : Big K c L lds lus tds tus m H) : InC c.n c.zz (endW c.u0 lds) := end_in b.n7 lds c.u0 b.cls b.a1
theorem Big.endT (b : Big K c L lds lus tds tus m H) : InC c.n c.zz (endW c.u0 tds) := end_in b.n7 tds c.u0 b.cls b.a3
theorem b_tflip {a e : Int} (b : Big K c L lds lus tds tus m H) (hm : m ≤ 5000)
    (q1 : ¬ (0 ≤ a ∧ a < e) → ∀ H', Big K c L lds lus tds tus m H' → E (.ref (He.ga K "InvalidFlip")) none H')
    (q2 : 0 ≤ a → a < e → allowB c.g c.n a e = false → ∀ H', Big K c L lds lus tds tus m H' → E (.ref (He.ga K "NotAllowed")) none H')
    (q3 : ∀ a' e' : Nat, a = a' → e = e' → (a', e') ∈ placesW c.n c.g → ∀ H', Big K c L lds lus (tds ++ [(a', e')]) [] (m + 1) H' → Q (.int ((tds.length + 1 : Nat) : Int)) H') :
    Frx (spTFlip K) [.ref c.tb, .int a, .int e] H Q E := by
  obtain ⟨wl, dl, ul, dts, uts, W, G⟩ := id b.ex
  obtain ⟨⟨r0, wt, st, r, tdl, tul, dfs, ufs, h1, h2, h3⟩, _⟩ := id G
  have zn := b.endT.1
  refine ⟨[c.s, c.z, wl, dl, ul], lists_of W b.stm, c.tb, r0, wt, st, c.u0, c.g, c.o, r, tdl, tul, dfs, ufs, endW c.u0 tds, tds, tus, a, e, rfl, h1, h2, h3, by have := b.z3; omega, fun hn G' e' hG => ?_, fun ha hae hal G' e' hG => ?_, fun a' e2 ea ee hl hal G' st' r' dl' ul' f mt k1 k2 k3 hG => ?_⟩
  · exact q1 hn _ (b.table W (Mu.ofEx e') hG (G.ex e').1 b.a3 b.a4 (Nat.le_refl _) b.z3 b.z4)
  · exact q2 ha hae (by rw [← zn]; exact hal) _ (b.table W (Mu.ofEx e') hG (G.ex e').1 b.a3 b.a4 (Nat.le_refl _) b.z3 b.z4)
  · have hp : (a', e2) ∈ placesW c.n c.g := (mem_places _ _ _ _).mpr ⟨hl, by rw [← zn, ← ea, ← ee]; exact hal⟩
    exact q3 a' e2 ea ee hp _ (b.table W mt hG ⟨r0, wt, st', r', dl', ul', dfs ++ [f], [], k1, k2, by rw [end_snoc]; exact k3⟩ (b.a3.snoc hp) AlF.nil (by omega) (by rw [List.length_append]; have := b.z3; simp; omega) (Nat.zero_le _))
theorem b_tundo (b : Big K c L lds lus tds tus m H) (hm : m ≤ 5000) (q1 : tds = [] → ∀ H', Big K c L lds lus tds tus m H' → E (.ref (He.ga K "NothingToUndo")) none H')
    (q2 : ∀ ds' p, tds = ds' ++ [p] → ∀ H', Big K c L lds lus ds' (tus ++ [p]) (m + 1) H' → Q (.int (ds'.length : Nat)) H') : Frx (spUndo K) [.ref c.tb] H Q E := by
  obtain ⟨wl, dl, ul, dts, uts, W, G⟩ := id b.ex
  obtain ⟨⟨r0, wt, st, r, tdl, tul, dfs, ufs, h1, h2, h3⟩, _⟩ := id G
  refine ⟨[c.s, c.z, wl, dl, ul], lists_of W b.stm, c.tb, r0, wt, st, c.u0, c.g, c.o, r, tdl, tul, dfs, ufs, endW c.u0 tds, tds, tus, rfl, h1, h2, h3, by have := b.z3; omega, by have := b.z4; omega, by rw [b.endT.1]; exact b.a3.ok, fun e hG => ?_, fun ds' p e G' st' r' dl' ul' dfs' f mt k1 k2 k3 hG => ?_⟩
  · exact q1 e _ (b.table W (Mu.ofEx (Ex.refl _)) hG G.1 b.a3 b.a4 (Nat.le_refl _) b.z3 b.z4)
  · subst e
    have hb := b.a3
    have z3 := b.z3
    have z4 := b.z4
    rw [List.length_append] at z3
    refine q2 ds' p rfl _ (b.table W mt hG ⟨r0, wt, st', r', dl', ul', dfs', ufs ++ [f], k1, k2, ?_⟩ hb.left (b.a4.snoc (hb p (by simp))) (by omega) (by omega) (by rw [List.length_append]; simp; omega))
    rw [← end_back b.n7 b.cls hb]
    exact k3
theorem b_tredo (b : Big K c L lds lus tds tus m H) (hm : m ≤ 5000) (q1 : tus = [] → ∀ H', Big K c L lds lus tds tus m H' → E (.ref (He.ga K "NothingToUndo")) none H')
    (q2 : ∀ us' p, tus = us' ++ [p] → ∀ H', Big K c L lds lus (tds ++ [p]) us' (m + 1) H' → Q (.int ((tds.length + 1 : Nat) : Int)) H') : Frx (spRedo K) [.ref c.tb] H Q E := by
  obtain ⟨wl, dl, ul, dts, uts, W, G⟩ := id b.ex
  obtain ⟨⟨r0, wt, st, r, tdl, tul, dfs, ufs, h1, h2, h3⟩, _⟩ := id G
  refine ⟨[c.s, c.z, wl, dl, ul], lists_of W b.stm, c.tb, r0, wt, st, c.u0, c.g, c.o, r, tdl, tul, dfs, ufs, endW c.u0 tds, tds, tus, rfl, h1, h2, h3, by have := b.z3; omega, by have := b.z4; omega, by rw [b.endT.1]; exact b.a4.ok, fun e hG => ?_, fun us' p e G' st' r' dl' ul' ufs' f mt k1 k2 k3 hG => ?_⟩
  · exact q1 e _ (b.table W (Mu.ofEx (Ex.refl _)) hG G.1 b.a3 b.a4 (Nat.le_refl _) b.z3 b.z4)
  · subst e
    have hb := b.a4
    have z3 := b.z3
    have z4 := b.z4
    rw [List.length_append] at z4
    exact q2 us' p rfl _ (b.table W mt hG ⟨r0, wt, st', r', dl', ul', dfs ++ [f], ufs', k1, k2, by rw [end_snoc]; exact k3⟩ (b.a3.snoc (hb p (by simp))) hb.left (by omega) (by rw [List.length_append]; simp; omega) (by omega))
theorem flips_cut {S : List Addr} {ffs : List Addr} {ps : List Pl} (l : Lsts S H) (h : FlipsAt K H ffs ps) : FlipsAt K (cutH S H) ffs ps :=
  paired_mono (fun _ _ ⟨dx, k⟩ => ⟨dx, by rw [cut_out (lsts_at l k fun _ z => by cases z)]; exact k⟩) h
theorem xd_join {S : List Addr} {G : Hp} {d : Addr} {o : HO} (hG : ∀ l ∈ S, G l = none) (h : G d = some o) : joinH S H G d = some o := by
  rw [join_out fun z => by rw [hG d z] at h; cases h]
  exact h
theorem b_tadd {fl : Addr} {ffs : List Addr} {ps : List Pl} (b : Big K c L lds lus tds tus m H) (hm : m ≤ 5000) (hfl : (fl, .lst (ffs.map V.ref)) ∈ L) (hF : FlipsAt K H ffs ps) (hlt : ∀ p ∈ ps, p.1 < p.2) (zp : ps.length ≤ 1000)
    (q1 : ∀ i, applyP c.g (endW c.u0 tds) ps 0 = .error i → ∀ d H', Big K c L lds lus tds tus m H' → H' d = some (.xd [("index", .int (i : Nat))]) → E (.ref (He.ga K "InvalidPlan")) (some d) H')
    (q2 : AlF c.g c.n ps → applyP c.g (endW c.u0 tds) ps 0 = .ok (endW c.u0 (tds ++ ps)) → ∀ H', Big K c L lds lus (tds ++ ps) (if ps = [] then tus else []) (m + ps.length) H' → Q .non H') :
    Frx (spJoinL K) [.ref c.tb, .ref fl] H Q E := by
  obtain ⟨wl, dl, ul, dts, uts, W, G⟩ := id b.ex
  obtain ⟨⟨r0, wt, st, r, tdl, tul, dfs, ufs, h1, h2, h3⟩, _, h5⟩ := id G
  have lS := lists_of W b.stm
  refine ⟨[c.s, c.z, wl, dl, ul], lS, c.tb, r0, wt, st, c.u0, c.g, c.o, r, tdl, tul, dfs, ufs, endW c.u0 tds, tds, tus, fl, ffs, ps, rfl, h1, h2, h3, by have := b.z3; omega, (h5 _ hfl).1, flips_cut lS hF, hlt, zp, fun i hi d G' e' hd hG => ?_, fun v hv G' st' r' dl' ul' mt k1 k2 k3 hG => ?_⟩
  · exact q1 i hi d _ (b.table W (Mu.ofEx e') hG (G.ex e').1 b.a3 b.a4 (Nat.le_refl _) b.z3 b.z4) (xd_join hG hd)
  · obtain ⟨hal, rfl⟩ := apply_ok c.g c.n ps _ v 0 b.endT.1 hlt hv
    have ee : endW (endW c.u0 tds) ps = endW c.u0 (tds ++ ps) := by
      unfold endW
      rw [List.foldl_append]
    rw [ee] at hv k3
    have z3 := b.z3
    have z4 := b.z4
    refine q2 hal hv _ (b.table W mt hG ⟨r0, wt, st', r', dl', ul', _, _, k1, k2, k3⟩ (b.a3.app hal) ?_ (by omega) (by rw [List.length_append]; omega) ?_)
    · split
      · exact b.a4
      · exact AlF.nil
    · split
      · omega
      · exact Nat.zero_le _
theorem b_ttried {fl : Addr} {ffs : List Addr} {ps : List Pl} (b : Big K c L lds lus tds tus m H) (hm : m ≤ 5000) (hfl : (fl, .lst (ffs.map V.ref)) ∈ L) (hF : FlipsAt K H ffs ps) (hlt : ∀ p ∈ ps, p.1 < p.2) (zp : ps.length ≤ 1000)
    (q1 : ∀ i, applyP c.g (endW c.u0 tds) ps 0 = .error i → ∀ d H', Big K c L lds lus tds tus m H' → H' d = some (.xd [("index", .int (i : Nat))]) → E (.ref (He.ga K "InvalidPlan")) (some d) H')
    (q2 : ∀ v, InC c.n c.zz v → applyP c.g (endW c.u0 tds) ps 0 = .ok v → ∀ H', Big K c L lds lus tds tus m H' → Q (.int (costW c.g c.o v)) H') :
    Frx (spTried K) [.ref c.tb, .ref fl] H Q E := by
  obtain ⟨wl, dl, ul, dts, uts, W, G⟩ := id b.ex
  obtain ⟨⟨r0, wt, st, r, tdl, tul, dfs, ufs, h1, h2, h3⟩, _, h5⟩ := id G
  have lS := lists_of W b.stm
  refine ⟨[c.s, c.z, wl, dl, ul], lS, c.tb, r0, wt, st, c.u0, c.g, c.o, r, tdl, tul, dfs, ufs, endW c.u0 tds, tds, tus, fl, ffs, ps, rfl, h1, h2, h3, by have := b.z3; omega, (h5 _ hfl).1, flips_cut lS hF, hlt, zp, fun i hi d G' mt k1 hd hG => ?_, fun v hv G' mt k1 hG => ?_⟩
  · exact q1 i hi d _ (b.table W mt hG ⟨r0, wt, st, r, tdl, tul, dfs, ufs, k1, h2.mu mt h1, h3.mu mt h1⟩ b.a3 b.a4 (Nat.le_refl _) b.z3 b.z4) (xd_join hG hd)
  · obtain ⟨hal, hve⟩ := apply_ok c.g c.n ps _ v 0 b.endT.1 hlt hv
    exact q2 v (by rw [hve]; exact end_in b.n7 ps _ b.endT hal) hv _ (b.table W mt hG ⟨r0, wt, st, r, tdl, tul, dfs, ufs, k1, h2.mu mt h1, h3.mu mt h1⟩ b.a3 b.a4 (Nat.le_refl _) b.z3 b.z4)
/-! ### the law's own deeds -/
theorem lw_of {wl dl ul : Addr} {dts uts : List Addr} (W : LwAt H c.z wl dl ul (scanW c.u0 lds) dts uts lds lus) : Lw (cutH [c.z, wl, dl, ul] H) H c.z (scanW c.u0 lds) lds lus :=
  ⟨cut_sub, wl, dl, ul, dts, uts, W, cut_in (by simp), cut_in (by simp), cut_in (by simp), cut_in (by simp)⟩
theorem Big.ans {v : V} {xs : List V} {H' : Hp} (b : Big K c L lds lus tds tus m H) (e : Ex H H') (h : AnsV H H' v xs) : ∃ p, v = .ref p ∧ Big K c ((p, .lst xs) :: L) lds lus tds tus m H' := by
  obtain ⟨p, rfl, n, h⟩ := h
  exact ⟨p, rfl, b.add e n h (.inl ⟨_, rfl⟩)⟩
theorem b_lflip {a e : Int} (b : Big K c L lds lus tds tus m H) (hm : m ≤ 5000)
    (q1 : ¬ (0 ≤ a ∧ a < e) → ∀ p H', Big K c ((p, .lst [.str "flip"]) :: L) lds lus tds tus m H' → Q (.ref p) H')
    (q2 : 0 ≤ a → a < e → allowB c.g c.n a e = false → ∀ p H', Big K c ((p, .lst [.str "allowed"]) :: L) lds lus tds tus m H' → Q (.ref p) H')
    (q3 : ∀ a' e' : Nat, a = a' → e = e' → (a', e') ∈ placesW c.n c.g → ∀ p H', Big K c ((p, .lst [.str "told", .int ((lds.length + 1 : Nat) : Int)]) :: L) (lds ++ [(a', e')]) [] tds tus (m + 1) H' → Q (.ref p) H') :
    spFlipped [.ref c.z, .int a, .int e, .str c.g.s] H Q E := by
  obtain ⟨wl, dl, ul, dts, uts, W, G⟩ := id b.ex
  have zn := b.endL.1
  have z1 := b.z1
  have n7 := b.n7
  have lw := lw_of W
  rw [scan_ini] at lw
  refine ⟨c.z, iniW c.u0 lds, endW c.u0 lds, lds, lus, a, e, c.g, _, rfl, lw, by omega, by rw [ini_len]; omega, by omega, fun hn v H' e' hv => ?_, fun ha hae hal v H' e' hv => ?_, fun a' e2 ea ee hl hal v H' lw' hv => ?_⟩
  · obtain ⟨p, rfl, b'⟩ := b.ans e' hv
    exact q1 hn p H' b'
  · obtain ⟨p, rfl, b'⟩ := b.ans e' hv
    exact q2 ha hae (by rw [← zn]; exact hal) p H' b'
  · have hp : (a', e2) ∈ placesW c.n c.g := (mem_places _ _ _ _).mpr ⟨hl, by rw [← zn, ← ea, ← ee]; exact hal⟩
    obtain ⟨p, rfl, _, hp2⟩ := hv
    rw [← scan_snoc2 lds c.u0 (a', e2)] at lw'
    exact q3 a' e2 ea ee hp p H' ((b.law (m' := m + 1) W lw' (b.a1.snoc hp) AlF.nil (by omega) (by rw [List.length_append]; simp; omega) (Nat.zero_le _)).2 p _ _ hp2)
theorem b_lundo (b : Big K c L lds lus tds tus m H) (hm : m ≤ 5000) (q1 : lds = [] → ∀ p H', Big K c ((p, .lst [.str "nothing"]) :: L) lds lus tds tus m H' → Q (.ref p) H')
    (q2 : ∀ ds' r, lds = ds' ++ [r] → ∀ p H', Big K c ((p, .lst [.str "told", .int (ds'.length : Nat)]) :: L) ds' (lus ++ [r]) tds tus (m + 1) H' → Q (.ref p) H') : spUndone [.ref c.z] H Q E := by
  obtain ⟨wl, dl, ul, dts, uts, W, G⟩ := id b.ex
  have z1 := b.z1
  have z2 := b.z2
  refine ⟨c.z, scanW c.u0 lds, lds, lus, _, rfl, lw_of W, by omega, by omega, by rw [scan_ini]; simp, fun e v H' e' hv => ?_, fun ws' u ds' r ew ed v H' lw' hv => ?_⟩
  · obtain ⟨p, rfl, b'⟩ := b.ans e' hv
    exact q1 e p H' b'
  · subst ed
    rw [scan_back ds' c.u0 r ew] at lw'
    obtain ⟨p, rfl, _, hp2⟩ := hv
    have hb := b.a1
    rw [List.length_append] at z1
    exact q2 ds' r rfl p H' ((b.law (m' := m + 1) W lw' hb.left (b.a2.snoc (hb r (by simp))) (by omega) (by omega) (by rw [List.length_append]; simp; omega)).2 p _ _ hp2)
theorem b_lredo (b : Big K c L lds lus tds tus m H) (hm : m ≤ 5000) (q1 : lus = [] → ∀ p H', Big K c ((p, .lst [.str "nothing"]) :: L) lds lus tds tus m H' → Q (.ref p) H')
    (q2 : ∀ us' r, lus = us' ++ [r] → ∀ p H', Big K c ((p, .lst [.str "told", .int ((lds.length + 1 : Nat) : Int)]) :: L) (lds ++ [r]) us' tds tus (m + 1) H' → Q (.ref p) H') : spRedone [.ref c.z] H Q E := by
  obtain ⟨wl, dl, ul, dts, uts, W, G⟩ := id b.ex
  have z1 := b.z1
  have z2 := b.z2
  have zn := b.endL.1
  have n7 := b.n7
  have lw := lw_of W
  rw [scan_ini] at lw
  refine ⟨c.z, iniW c.u0 lds, endW c.u0 lds, lds, lus, _, rfl, lw, by omega, by rw [ini_len]; omega, by omega, by omega, by rw [zn]; exact b.a2.ok, fun e v H' e' hv => ?_, fun us' r eu v H' lw' hv => ?_⟩
  · obtain ⟨p, rfl, b'⟩ := b.ans e' hv
    exact q1 e p H' b'
  · subst eu
    rw [← scan_snoc2 lds c.u0 r] at lw'
    obtain ⟨p, rfl, _, hp2⟩ := hv
    have hb := b.a2
    rw [List.length_append] at z2
    exact q2 us' r rfl p H' ((b.law (m' := m + 1) W lw' (b.a1.snoc (hb r (by simp))) hb.left (by omega) (by rw [List.length_append]; simp; omega) (by omega)).2 p _ _ hp2)
theorem b_listed {fl : Addr} {ts : List Addr} {ps : List Pl} (b : Big K c L lds lus tds tus m H) (hfl : H fl = some (.lst (ts.map V.ref))) (hts : TupsAt H ts ps) (hlt : ∀ p ∈ ps, p.1 < p.2) (zp : ps.length ≤ 1000)
    (q1 : ∀ i, applyP c.g (endW c.u0 lds) ps 0 = .error i → ∀ p H', Big K c ((p, .lst [.str "plan", .int (i : Nat)]) :: L) lds lus tds tus m H' → Ex H H' → Q (.ref p) H')
    (q2 : ∀ w, applyP c.g (endW c.u0 lds) ps 0 = .ok w → InC c.n c.zz w → AlF c.g c.n ps → w = endW (endW c.u0 lds) ps → ∀ p fd found fs H', Big K c ((p, .lst [.str "told", .ref fd]) :: (fd, .lst (found.map fun w => V.str (sT w))) :: L) lds lus tds tus m H' → Ex H H' → endW c.u0 lds :: found = fs ++ [w] → found.length ≤ 1000 → Q (.ref p) H') :
    spListed [.ref c.z, .ref fl, .str c.g.s] H Q E := by
  obtain ⟨wl, dl, ul, dts, uts, W, G⟩ := id b.ex
  have zn := b.endL.1
  have n7 := b.n7
  have lw := lw_of W
  rw [scan_ini] at lw
  refine ⟨c.z, iniW c.u0 lds, endW c.u0 lds, lds, lus, _, fl, ts, ps, c.g, rfl, lw, by omega, hfl, hts, hlt, zp, fun i hi v H' e' hv => ?_, fun w hw v fd found H' e' hv nf hf fs x ex hx zf => ?_⟩
  · obtain ⟨p, rfl, b'⟩ := b.ans e' hv
    exact q1 i hi p H' b' e'
  · subst hx
    obtain ⟨p, rfl, np, hp⟩ := hv
    obtain ⟨hal, hve⟩ := apply_ok c.g c.n ps _ x 0 b.endL.1 hlt hw
    have b' := b.step (Mu.ofEx e') (b.stm.ex e') (b.tab.ext e') [(p, .lst [.str "told", .ref fd]), (fd, .lst (found.map fun w => V.str (sT w)))] fun y hy => by
      simp only [List.mem_cons, List.not_mem_nil, or_false] at hy
      rcases hy with rfl | rfl
      · exact ⟨hp, .inl ⟨_, rfl⟩, .inl np⟩
      · exact ⟨hf, .inl ⟨_, rfl⟩, .inl nf⟩
    exact q2 x hw (by rw [hve]; exact end_in b.n7 ps _ b.endL hal) hal hve p fd found fs H' b' e' ex zf
end
end Tcf

set_option Elab.async false
set_option linter.all false
set_option maxRecDepth 100000
set_option maxHeartbeats 4000000
/-! ER: a deed of many flips (printed from ER.tmpl by gen_der.py). -/
namespace Tcf
open PySem PySem.Spec PyProof.Rows L2
open Evl (Ex)
set_option hygiene false in
local macro_rules | `(tactic| walk_at "lkT") => `(tactic| first | (with_reducible exact T.l_GAMES _) | (with_reducible exact T.l_GOALS _))
set_option hygiene false in
local macro_rules | `(tactic| walk_at "isx") => `(tactic| first | (with_reducible exact T.is_Row (by walk_at "lk")) | (with_reducible exact T.is_Flip (by walk_at "lk")) | (with_reducible exact T.is_Table (by walk_at "lk")))
local macro_rules | `(tactic| walk_at "lk") => `(tactic| first
  | assumption
  | walk_at "lkT"
  | ((with_reducible refine' ex_at (by assumption) ?wk); (case wk => walk_at "lk"))
  | ((with_reducible refine' sl_of ?wk); (case wk => walk_at "lk"))
  | ((with_reducible refine' st_of ?wk); (case wk => walk_at "lk"))
  | ((with_reducible refine' ex_l (by assumption) ?wk); (case wk => walk_at "lk"))
  | ((with_reducible refine' ex_t (by assumption) ?wk); (case wk => walk_at "lk"))
  | ((with_reducible refine' mu_at (by assumption) ?wk ?wn); (case wk => walk_at "lk"); (case wn => assumption)))
set_option hygiene false in
local macro_rules | `(tactic| walk_at "sd") => `(tactic| first
  | exact rfl | assumption | (with_reducible exact T.c_Row) | (with_reducible exact T.c_Flip) | (with_reducible exact T.c_Table) | (with_reducible exact T.c_Trial)
  | (with_reducible exact T.n_Row_colour) | (with_reducible exact T.n_Row_sizes) | (with_reducible exact T.n_Flip_begin) | (with_reducible exact T.n_Flip_finish) | (with_reducible exact T.n_Trial_home) | (with_reducible exact T.n_Trial_kept)
  | (with_reducible exact T.n_Table_beginning) | (with_reducible exact T.n_Table_words) | (with_reducible exact T.n_Table_state))
local macro_rules | `(tactic| walk_at "w") => `(tactic| first
  | (with_reducible refine w_seq ?_) | (with_reducible refine w_asg ?_) | (with_reducible refine w_gName ?_) | (with_reducible refine w_ret ?_) | (with_reducible refine w_ifS ?_) | (with_reducible refine w_drop ?_) | (with_reducible refine w_next ?_)
  | ((with_reducible refine' w_aug ?wh ?_); (case wh => exact rfl)) | (with_reducible refine w_match ?_) | (with_reducible refine w_case ?_)
  | ((with_reducible refine' w_var ?wh ?_); (case wh => exact rfl))
  | (with_reducible refine w_c ?_) | (with_reducible refine w_op ?_) | (with_reducible refine w_un ?_) | (with_reducible refine w_nil ?_) | (with_reducible refine w_cons ?_) | (with_reducible refine w_star ?_) | (with_reducible refine w_tup ?_) | (with_reducible refine w_lst ?_)
  | (with_reducible refine w_if ?_) | (with_reducible refine w_and ?_) | (with_reducible refine w_or ?_) | (with_reducible refine w_not ?_) | (with_reducible refine w_bq ?_) | (with_reducible refine w_B ?_) | (with_reducible refine w_test ?_) | (with_reducible refine w_andV ?_) | (with_reducible refine w_orV ?_) | (with_reducible refine w_notV ?_)
  | (with_reducible refine w_chain ?_) | (with_reducible refine w_rI0 ?_) | (with_reducible refine w_rU ?_) | (with_reducible refine w_ipI ?_)
  | (with_reducible refine w_eqI ?_) | (with_reducible refine w_neI ?_) | (with_reducible refine w_eqS ?_) | (with_reducible refine w_neS ?_) | (with_reducible refine w_eqB ?_) | (with_reducible refine w_neB ?_) | (with_reducible refine w_isNr ?_) | (with_reducible refine w_isNn ?_)
  | (with_reducible refine w_sl ?_) | (with_reducible refine w_noPart ?_) | (with_reducible refine w_part ?_) | (with_reducible refine w_pq ?_) | (with_reducible refine w_revL ?_) | (with_reducible refine w_revS ?_)
  | (with_reducible refine w_cb ?_) | (with_reducible refine w_min2 ?_) | (with_reducible refine w_max2 ?_) | (with_reducible refine w_intB ?_)
  | (with_reducible refine w_fn ?_) | (with_reducible refine w_me ?_) | (with_reducible refine w_pr ?_) | (with_reducible refine w_mk ?_) | (with_reducible refine w_fld ?_)
  | (with_reducible refine w_isi_ii ?_) | (with_reducible refine w_isi_ib ?_) | (with_reducible refine w_isi_ss ?_)
  | ((with_reducible refine' w_isi_ll ?wh ?_); (case wh => walk_at "lk"))
  | ((with_reducible refine' w_isi_own ?wh ?wq); (case wh => walk_at "isx"))
  | ((with_reducible refine' w_lenL ?wh ?_); (case wh => walk_at "lk")) | ((with_reducible refine' w_ixL ?wh ?wi ?_); (case wh => walk_at "lk"); (case wi => first | assumption | exact rfl)) | ((with_reducible refine' w_ixT ?wh ?wi ?_); (case wh => walk_at "lk"); (case wi => first | assumption | exact rfl))
  | ((with_reducible refine' w_slL ?wh ?_); (case wh => walk_at "lk")) | ((with_reducible refine' w_rvq ?wh ?_); (case wh => walk_at "lk")) | ((with_reducible refine' w_listO ?wh ?_); (case wh => walk_at "lk")) | ((with_reducible refine' w_starL ?wh ?_); (case wh => walk_at "lk"))
  | ((with_reducible refine' w_fq ?wh ?wc ?wn ?wl ?_); (case wh => walk_at "lk"); (case wc => walk_at "sd"); (case wn => walk_at "sd"); (case wl => exact rfl))
  | ((with_reducible refine' w_sum ?wh ?_); (case wh => walk_at "lk"))
  | ((with_reducible refine' w_all ?wh ?_); (case wh => walk_at "lk"))
  | (with_reducible refine w_forL ?_) | ((with_reducible refine' w_forLq ?wh ?_); (case wh => walk_at "lk")) | (with_reducible refine w_forS ?_) | (with_reducible refine w_forSq ?_) | (with_reducible refine w_forR1 ?_) | ((with_reducible refine' w_forR1q ?wh ?_); (case wh => omega)) | (with_reducible refine w_forR2 ?_) | ((with_reducible refine' w_forR2q ?wh ?_); (case wh => omega)) | (with_reducible refine w_forE ?_) | ((with_reducible refine' w_forEq ?wh ?_); (case wh => walk_at "lk"))
  | (with_reducible refine w_lcL ?_) | ((with_reducible refine' w_lcLq ?wh ?_); (case wh => walk_at "lk")) | (with_reducible refine w_lcS ?_) | (with_reducible refine w_lcSq ?_) | (with_reducible refine w_lcR2 ?_) | ((with_reducible refine' w_lcR2q ?wh ?_); (case wh => omega))
  | (with_reducible refine w_bm ?_) | ((with_reducible refine' w_bmq ?wh ?_); (case wh => walk_at "lk")) | (with_reducible refine w_bm0 ?_) | ((with_reducible refine' w_bm0q ?wh ?_); (case wh => walk_at "lk"))
  | ((with_reducible refine' w_getL ?wh ?wi ?_); (case wh => walk_at "lk"); (case wi => first | assumption | exact rfl)) | (with_reducible refine w_gSub ?_) | (with_reducible refine w_augS ?_)
  | ((with_reducible refine' w_gTup ?wh ?wl ?_); (case wh => walk_at "lk"); (case wl => exact rfl)) | (with_reducible refine w_gCons ?_) | (with_reducible refine w_gNil ?_)
  | (with_reducible refine w_parT ?_) | (with_reducible refine w_parq ?_) | (with_reducible refine w_par3T ?_) | (with_reducible refine w_par3q ?_) | (with_reducible refine w_sfld ?_) | (with_reducible refine w_ob ?_) | (with_reducible refine w_obq ?_)
  | ((with_reducible refine' w_sfq ?wh ?wc ?wn ?wl ?wq); (case wh => walk_at "lk"); (case wc => walk_at "sd"); (case wn => walk_at "sd"); (case wl => exact Nat.le_of_ble_eq_true rfl))
  | ((with_reducible refine' w_rI ?wh ?wq); (case wh => first | decide | exact ⟨by decide, by decide⟩)) | (with_reducible refine w_pairsC ?_) | (with_reducible refine w_pairsN ?_) | ((with_reducible refine' w_cat ?wh ?wk ?wl ?wq); (case wh => walk_at "lk"); (case wk => walk_at "lk"); (case wl => walk_at "sz"))
  | ((with_reducible refine' w_mqRow ?wh ?wl ?wk ?wq); (case wh => walk_at "rw"); (case wl => exact rfl); (case wk => exact rfl))
  | ((with_reducible refine' w_mq ?wh ?wl ?wq); (case wh => walk_at "lk"); (case wl => exact rfl))
  | ((with_reducible refine' w_wipe ?wh ?wq); (case wh => exact rfl)) | (with_reducible refine w_yesT ?_)
  | (with_reducible refine w_isNumber ?_) | (with_reducible refine w_isCount ?_) | (with_reducible refine w_isColour ?_) | (with_reducible refine w_checkGame ?_) | (with_reducible refine w_checkGoal ?_) | (with_reducible refine w_checkWords ?_)
  | (with_reducible refine iteT ?_) | (with_reducible refine iteF ?_) | ((with_reducible refine' w_yes ?wh ?_); (case wh => exact rfl)) | ((with_reducible refine' w_no ?wh ?_); (case wh => exact rfl)))
local macro_rules | `(tactic| walk_at "sz") => `(tactic| first | (refine sz_le ?_; first | assumption | (simp only [List.length_map, List.length_append, List.length_cons, List.length_nil]; omega) | omega) | (refine sz_lt ?_; first | assumption | (simp only [List.length_map, List.length_append, List.length_cons, List.length_nil]; omega) | omega))
local macro_rules | `(tactic| walk_at "go") => `(tactic| repeat (walk_at "w"))
local macro_rules | `(tactic| walk_at "bt") => `(tactic| first | exact rfl | assumption | (simp [*]; done) | (simp; omega) | (simp [*]; omega))
local macro_rules | `(tactic| walk_at "yes") => `(tactic| ((with_reducible refine' w_yes ?wh ?wq); (case wh => walk_at "bt"); walk_at "go"))
local macro_rules | `(tactic| walk_at "no") => `(tactic| ((with_reducible refine' w_no ?wh ?wq); (case wh => walk_at "bt"); walk_at "go"))
local macro_rules | `(tactic| walk_at "st") => `(tactic| ((try dsimp only [L2.cxOf, L2.Cx.nox, L2.Cx.wish]); walk_at "go"))
local macro_rules | `(tactic| walk_at "rw") => `(tactic| first | assumption | ((with_reducible refine' IsRow.rw ?wk); (case wk => walk_at "rw")) | ((with_reducible refine' IsRw.ex (by assumption) ?wk); (case wk => walk_at "rw")) | ((with_reducible refine' IsRow.ex (by assumption) ?wk); (case wk => walk_at "rw")))
local macro_rules | `(tactic| walk_at "ro") => `(tactic| first | assumption | ((with_reducible refine' IsRow.ex (by assumption) ?wk); (case wk => walk_at "ro")))
local macro_rules | `(tactic| walk_at "fl") => `(tactic| first | assumption | ((with_reducible refine' IsFlip.ex (by assumption) ?wk); (case wk => walk_at "fl")))
local macro_rules | `(tactic| walk_at "w") => `(tactic| first
  | ((with_reducible refine' w_first ?wh ?wq); (case wh => walk_at "rw")) | ((with_reducible refine' w_runs ?wh ?wq); (case wh => walk_at "rw")) | ((with_reducible refine' w_length ?wh ?wq); (case wh => walk_at "rw")) | ((with_reducible refine' w_lengths ?wh ?wq); (case wh => walk_at "rw")))
local macro_rules | `(tactic| walk_at "w") => `(tactic| first
  | ((with_reducible refine' w_start ?wh ?wq); (case wh => walk_at "fl")) | ((with_reducible refine' w_end ?wh ?wq); (case wh => walk_at "fl")))
local macro_rules | `(tactic| walk_at "w") => `(tactic| first | (with_reducible refine w_dget ?_))
/-- tuples, as objects that stay -/
def tupL (ts : List Addr) (ps : List Pl) : List (Addr × HO) := List.zipWith (fun t (p : Pl) => (t, .tup [.int p.1, .int p.2])) ts ps
theorem tups_in {H : Hp} : ∀ {ts : List Addr} {ps : List Pl}, TupsAt H ts ps → ∀ x ∈ tupL ts ps, H x.1 = some x.2 ∧ ∃ xs, x.2 = .tup xs
  | _, _, .nil, x, hx => (List.not_mem_nil hx).elim
  | _, _, .cons a b, x, hx => by
    rcases List.mem_cons.mp hx with rfl | hx
    · exact ⟨a, _, rfl⟩
    · exact tups_in b x hx
theorem tups_out {H : Hp} : ∀ {ts : List Addr} {ps : List Pl}, ts.length = ps.length → (∀ x ∈ tupL ts ps, H x.1 = some x.2) → TupsAt H ts ps
  | [], [], _, _ => .nil
  | [], _ :: _, h, _ => by cases h
  | _ :: _, [], h, _ => by cases h
  | t :: ts, p :: ps, h, k => .cons (k _ List.mem_cons_self) (tups_out (by simpa using h) fun x hx => k x (List.mem_cons_of_mem _ hx))
section
variable {K : PySem.W.Frag} {c : Wo} {L : List (Addr × HO)} {lds lus tds tus : List Pl} {m : Nat} {H : Hp} {Q : VK} {E : XK}
theorem Big.tups {ts : List Addr} {ps : List Pl} (b : Big K c L lds lus tds tus m H) (hl : ts.length = ps.length) (h : ∀ x ∈ tupL ts ps, x ∈ L) : TupsAt H ts ps := tups_out hl fun x hx => b.get (h x hx)
theorem w_via {te : TE} {σ : L2.St} (Pre : V → Hp → Prop) (hk : ∀ Q' : VK, (∀ v H', Pre v H' → Q' v H') → te σ H Q') (k : ∀ v H', Pre v H' → Q v H') : te σ H Q := hk Q k
theorem w_viaS {ts : TS} {D : Ends} {σ : L2.St} (Pre : L2.St → Hp → Prop) (hk : ∀ D' : Ends, (∀ σ' H', Pre σ' H' → D'.nx σ' H') → ts D' σ H) (k : ∀ σ' H', Pre σ' H' → D.nx σ' H') : ts D σ H := hk D k
end
theorem fl_told : Fl 5 (.list [.str "told", .none]) := (fl_list (n := 1) fun d hd => by
  simp only [List.mem_cons, List.not_mem_nil, or_false] at hd
  rcases hd with rfl | rfl
  · exact fl_str (by decide +kernel)
  · exact fl_non).mono (by decide)
theorem fl_sn {x : Str} (h : PyData.canLay0 (.str x) = true) (i : Int) : Fl 5 (.list [.str x, .int i]) := (fl_list (n := 1) fun d hd => by
  simp only [List.mem_cons, List.not_mem_nil, or_false] at hd
  rcases hd with rfl | rfl
  · exact fl_str h
  · exact fl_int).mono (by decide)
theorem fl_s1 {x : Str} (h : PyData.canLay0 (.str x) = true) : Fl 5 (.list [.str x]) := (fl_list (n := 1) fun d hd => by
  rw [List.mem_singleton.mp hd]
  exact fl_str h).mono (by decide)
theorem flipsOf {K : PySem.W.Frag} {H : Hp} {ps : List Pl} {zs : List V} {n : Nat} (hn : n = ps.length) (pr : Paired (fun i y => ∃ p, ps[i]? = some p ∧ ∃ f, y = V.ref f ∧ IsFlip K H f p.1 p.2) ((List.range n).filter fun _ => true) zs) : ∃ ffs, zs = ffs.map V.ref ∧ FlipsAt K H ffs ps := by
  subst hn
  have h := paired_filter (c := fun _ => true) (R := fun (p : Pl) y => ∃ f, y = V.ref f ∧ IsFlip K H f p.1 p.2) ps (fun _ => true) (fun _ _ _ => rfl) pr
  rw [List.filter_eq_self.mpr fun _ _ => rfl] at h
  exact paired_refs (R := fun (p : Pl) f => IsFlip K H f p.1 p.2) h
/-- what a deed hands back: two lists that are equal -/
def spMore (K : PySem.W.Frag) : Sp := fun vs H Q _ => ∃ (c : Wo) (L : List (Addr × HO)) (ds us : List Pl) (m way : Nat), vs = [.ref c.s, .ref c.tb, .ref c.z, .ref c.kd, .int way] ∧ Big K c L ds us ds us m H ∧ m ≤ 1000 ∧
  ∀ p a b x ds' us' H', Big K c ((p, .lst [.ref a, .ref b]) :: L) ds' us' ds' us' (m + 6) H' → Dp K H' (.ref a) x → Dp K H' (.ref b) x → Fl 5 x → Q (.ref p) H'
theorem sc_law_more_pair : FnScope ["_law_stream_here", "_law_table", "_law_state", "_law_known", "_law_way", "_law_length", "_law_game", "_law_places_here", "_law_due", "_law_told", "_law_start", "_law_end"] ["_law_stream_here", "_law_table", "_law_state", "_law_known", "_law_way"] (defScope (top 66)) := ⟨rfl, rfl, rfl, by decide +kernel, rfl, by decide +kernel, by decide +kernel⟩
theorem ok_law_more_pair {P : Program} {w : World} {K : PySem.W.Frag} {mg : Str → Option Value} {base : Heap} (T : Tx P K mg) (TB : ∀ p ∈ tf, LamX.TabB base mg (He.cT K p).1 (He.cT K p).2) : Ok P w K mg base 12 (He.ga K "_law_more_pair") (spMore K) := by
  refine ok_mkC T.d_law_more_pair sc_law_more_pair (fun vs H Q E h => ?len) (fun _ _ _ _ _ _ us hl => match us, hl with | [_, _, _, _, _], _ => rfl) (fun A outer s H vs Q E hr h => ⟨_, (pss_cons (ps_par (i := 5) (j := 6) (by rfl) sc_law_more_pair.nd rfl rfl (by decide) rfl rfl (pa_cons (pe_callB cq_lenT (by rfl) T.z_len (by decide +kernel) (pa_cons (pe_ix ix_list (pe_ix ix_list (pv 2) pe_int (fun _ _ => rfl)) (pe_un un_neg pe_int) (fun _ _ => rfl)) pa_nil)) (pa_cons (pe_pr T.c_Table T.p_Table_game (ok_Table_game T) hr (pv 1)) pa_nil)) (by rfl)) (pss_cons (ps_set (i := 7) sc_law_more_pair.nd rfl (.inr rfl) (pe_ifExp (pt_cmpR op_eq (pv 4) pe_int (nomark _)) (pe_fn (ok_law_some_places T) hr T.g_law_some_places (pa_cons (pv 0) (pa_cons (pv 5) (pa_cons (pv 6) pa_nil)))) (pe_lst (pa_cons (pe_fn (ok_law_hint T) hr T.g_law_hint (pa_cons (pe_ix ix_list (pe_ix ix_list (pv 2) pe_int (fun _ _ => rfl)) (pe_un un_neg pe_int) (fun _ _ => rfl)) (pa_cons (pv 6) (pa_cons (pv 3) pa_nil)))) pa_nil)))) (pss_cons (ps_if (pt_cmpR (op_eqD hr.units) (pv 7) (pe_lst (pa_cons pe_non pa_nil)) (nomark _)) (pss_one (ps_set (i := 7) sc_law_more_pair.nd rfl (.inr rfl) (pe_lst pa_nil))) pss_nil) (pss_cons (ps_set (i := 8) sc_law_more_pair.nd rfl (.inl rfl) (pe_fn (ok_law_listed T) hr T.g_law_listed (pa_cons (pv 2) (pa_cons (pv 7) (pa_cons (pv 6) pa_nil))))) (pss_cons (ps_set (i := 9) sc_law_more_pair.nd rfl (.inl rfl) (pe_heard (t := fun E2 => tFn (Frx (spJoinL K)) E2 (tCons (tVar 1) (tCons (tLc (iList K (tVar 7)) (gTup K 2 (gCons (gName 10) (gCons (gName 11) gNil))) tYes (tNew (He.ga K "Flip") (spFlipInit K) E0 (tCons (tVar 10) (tCons (tVar 11) tNil))) [10, 11]) tNil))) T rfl (TB ("_law_more_pair", none) (List.mem_cons_of_mem _ List.mem_cons_self)) rfl (List.mem_cons_of_mem _ List.mem_cons_self) hr (by rfl) rfl (fun _ _ _ _ _ => rfl) (fun A2 outer2 s2 H2 E2 f2 c2 hr2 => (pe_fnX (ok_law_joined T).frm hr2 T.g_law_joined (passes_call (E := E2) (takes_of rfl rfl rfl rfl) (fun _ _ _ _ h => h)) (pa_cons (pv 1) (pa_cons (pe_lc (X := LamX.lamCx _ A2 outer2 s2 H2 E2 _ f2 c2) (own := [("_law_start", 10), ("_law_end", 11)]) (by rfl) sc_law_more_pair.nd (pi_list (pv 7)) (blkOk_by (own := [("_law_start", 10), ("_law_end", 11)]) (N := ["_law_stream_here", "_law_table", "_law_state", "_law_known", "_law_way", "_law_length", "_law_game", "_law_places_here", "_law_due", "_law_told", "_law_start", "_law_end"]) (by rfl)) (fun _ _ _ _ _ => (pg_tup rfl (pgs_cons (pg_name (i := 10) sc_law_more_pair.nd rfl (Or.inl rfl)) (pgs_cons (pg_name (i := 11) sc_law_more_pair.nd rfl (Or.inl rfl)) pgs_nil)))) (fun _ _ _ _ _ => pts_nil) (fun _ _ _ _ _ => (pe_new T.k_Flip (ok_Flip_dinitd T) hr2 T.gc_Flip (pa_cons (pv 10) (pa_cons (pv 11) pa_nil))))) pa_nil)))))) (pss_cons (ps_if (pt_cmpR op_eq (pe_ix ix_list (pv 8) pe_int (fun _ _ => rfl)) pe_str (nomark _)) (pss_cons (ps_for PassesOwn.never rfl (pi_list (pv 7)) (pg_tup rfl (pgs_cons (pg_name (i := 10) sc_law_more_pair.nd rfl (Or.inl rfl)) (pgs_cons (pg_name (i := 11) sc_law_more_pair.nd rfl (Or.inl rfl)) pgs_nil))) (pss_one (ps_expr (pe_fn (ok_law_flipped T) hr T.g_law_flipped (pa_cons (pv 2) (pa_cons (pv 10) (pa_cons (pv 11) (pa_cons (pv 6) pa_nil)))))))) (pss_one (ps_set (i := 8) sc_law_more_pair.nd rfl (.inl rfl) (pe_lst (pa_cons pe_str (pa_cons pe_non pa_nil)))))) pss_nil) (pss_one (ps_ret (pe_lst (pa_cons (pv 9) (pa_cons (pv 8) pa_nil))))))))))), ?body⟩)
  case len => obtain ⟨c, L, ds, us, m, way, rfl, _⟩ := h; rfl
  case body =>
    obtain ⟨c, L, ds, us, m, way, rfl, b, zm, q⟩ := h
    obtain ⟨wl, dl, ul, dts, uts, W, _⟩ := id b.ex
    obtain ⟨r0, wt, st, r, tdl, tul, dfs, ufs, hT, hB, hS⟩ := b.tabH
    obtain ⟨dx, hT1⟩ := id hT
    have hz := W.hz
    have hw := W.hw
    rw [scan_ini] at hw
    have zn := b.endL.1
    have n7 := b.n7
    have zs : (sT (endW c.u0 ds)).length = c.n := (tx_len _).trans zn
    have b0 := b
    walk_at "st"
    refine w_ixL (K := K) (sl_of hw) (at_last _ _) ?_
    walk_at "go"
    refine w_lenS (sz_le (by omega)) ?_
    rw [zs]
    walk_at "go"
    refine w_prq hT1 ?_
    refine ⟨c.tb, r0, wt, st, c.u0, c.g, c.o, rfl, hT, hB, ?_⟩
    with_reducible refine w_nil ?_
    with_reducible refine w_parq ?_
    with_reducible refine w_seq ?_
    with_reducible refine w_asg ?_
    refine w_via (fun v H' => ∃ fl xs L1, v = V.ref fl ∧ Big K c ((fl, .lst xs) :: (L1 ++ L)) ds us ds us m H' ∧ ((xs = [.non] ∧ L1 = []) ∨ ∃ ts ps, xs = ts.map V.ref ∧ L1 = tupL ts ps ∧ ts.length = ps.length ∧ (∀ p ∈ ps, p.1 < p.2) ∧ ps.length ≤ 3)) (fun Q' hQ' => ?_) ?_
    · walk_at "go"
      refine w_ite (fun e => ?_) (fun e => ?_)
      · walk_at "go"
        refine ⟨c.s, c.n, c.g, rfl, b.stm, n7, fun fl ts ps H' mu hs nf hf hts hlt zp => hQ' _ _ ⟨fl, _, tupL ts ps, rfl, ?_, .inr ⟨ts, ps, rfl, rfl, paired_len hts, hlt, zp⟩⟩⟩
        obtain ⟨sx, sy, hsL, _⟩ := b.stm
        refine b.step mu hs (tabs_mu mu hsL b.tab) ((fl, .lst (ts.map V.ref)) :: tupL ts ps) fun x hx => ?_
        rcases List.mem_cons.mp hx with rfl | hx
        · exact ⟨hf, .inl ⟨_, rfl⟩, .inl nf⟩
        · obtain ⟨h1, h2⟩ := tups_in hts x hx
          exact ⟨h1, .inr (.inl h2), .inr h2⟩
      · walk_at "go"
        refine w_ixL (K := K) (sl_of hw) (at_last _ _) ?_
        walk_at "go"
        refine ⟨endW c.u0 ds, c.n, c.zz, c.g, c.o, c.kd, rfl, n7, b.endL, b.known, fun v H1 e1 hv => ?_⟩
        walk_at "go"
        refine w_newA (by show (1 : Nat) ≤ sizeLine; decide) fun fl H2 e2 n2 h2 => hQ' _ _ ?_
        cases hh : hintL c.g c.o (endW c.u0 ds) with
        | none =>
          rw [hh] at hv
          cases hv
          exact ⟨fl, _, [], rfl, (b.ext e1).add e2 n2 h2 (.inl ⟨_, rfl⟩), .inl ⟨rfl, rfl⟩⟩
        | some p =>
          rw [hh] at hv
          obtain ⟨t, rfl, ht⟩ := hv
          refine ⟨fl, _, tupL [t] [p], rfl, ((b.ext e1).addT ht).add e2 n2 h2 (.inl ⟨_, rfl⟩), .inr ⟨[t], [p], rfl, rfl, rfl, fun r hr => ?_, Nat.le_of_ble_eq_true rfl⟩⟩
          rw [List.mem_singleton.mp hr]
          unfold hintL at hh
          split at hh
          · cases hh
          · exact (pl_le (List.mem_of_find?_eq_some hh)).1
    rintro v H1 ⟨fl, xs, L1, rfl, b1, hx⟩
    with_reducible refine w_gName ?_
    with_reducible refine w_seq ?_
    refine w_viaS (fun σ' H' => ∃ fl ts ps, σ' = [some (.ref c.s), some (.ref c.tb), some (.ref c.z), some (.ref c.kd), some (.int way), some (.int c.n), some (.str c.g.s), some (.ref fl), none, none, none, none] ∧ Big K c ((fl, .lst (ts.map V.ref)) :: (tupL ts ps ++ L)) ds us ds us m H' ∧ ts.length = ps.length ∧ (∀ p ∈ ps, p.1 < p.2) ∧ ps.length ≤ 3) (fun D' hD => ?_) ?_
    · walk_at "go"
      refine w_newA (by show (1 : Nat) ≤ sizeLine; decide) fun q1 H2 e2 n2 h2 => ?_
      have hf1 := (b1.ext e2).get List.mem_cons_self
      rcases hx with ⟨rfl, rfl⟩ | ⟨ts, ps, rfl, rfl, zl, hlt, zp⟩
      · refine w_eqSame (.lst (sl_of hf1) (.cons .non .nil)) (.lst (sl_of h2) (.cons .non .nil)) (fl_list fun d hd => by rw [List.mem_singleton.mp hd]; exact fl_non) ?_
        walk_at "go"
        refine w_newA (by show (0 : Nat) ≤ sizeLine; decide) fun q2 H3 e3 n3 h3 => ?_
        walk_at "go"
        exact hD _ _ ⟨q2, [], [], rfl, ((b1.ext e2).add e3 n3 h3 (.inl ⟨_, rfl⟩)).drop (fun x hx => by rcases List.mem_cons.mp hx with rfl | hx; exact List.mem_cons_self; exact List.mem_cons_of_mem _ (List.mem_cons_of_mem _ hx)), rfl, fun _ h => (List.not_mem_nil h).elim, by decide⟩
      · have hts : TupsAt H2 ts ps := (b1.ext e2).tups zl fun x hx => List.mem_cons_of_mem _ (List.mem_append_left _ hx)
        refine w_eqD (.lst (sl_of hf1) (dpAll_tups hts)) (.lst (sl_of h2) (.cons .non .nil)) (fl_pairs ps) (fl_list (n := 1) fun d hd => by rw [List.mem_singleton.mp hd]; exact fl_non) ?_
        rw [show PyData.eqv (.list (ps.map fun r => PyData.tuple [.int r.1, .int r.2])) (.list [.none]) = false by cases ps <;> simp [PyData.eqv, PyData.eqvAll]]
        walk_at "go"
        exact hD _ _ ⟨fl, ts, ps, rfl, b1.ext e2, zl, hlt, zp⟩
    rintro σ' H2 ⟨fl, ts, ps, rfl, b2, zl, hlt, zp⟩
    have hts := b2.tups zl fun x hx => List.mem_cons_of_mem _ (List.mem_append_left _ hx)
    with_reducible refine w_seq ?_
    with_reducible refine w_asg ?_
    refine w_via (fun v H' => ∃ p1 ys L1, v = V.ref p1 ∧ Big K c ((p1, .lst ys) :: (L1 ++ ((fl, .lst (ts.map V.ref)) :: (tupL ts ps ++ L)))) ds us ds us m H' ∧ ((∃ i : Nat, applyP c.g (endW c.u0 ds) ps 0 = .error i ∧ ys = [.str "plan", .int i]) ∨ (∃ w fd, applyP c.g (endW c.u0 ds) ps 0 = .ok w ∧ ys = [.str "told", .ref fd]))) (fun Q' hQ' => ?_) ?_
    · walk_at "go"
      refine b_listed b2 (b2.get List.mem_cons_self) hts hlt (by omega) (fun i hi p H' b' _ => hQ' _ _ ⟨p, _, [], rfl, b', .inl ⟨i, hi, rfl⟩⟩) (fun w hw _ _ _ p fd found fs H' b' _ _ _ => hQ' _ _ ⟨p, _, [_], rfl, b', .inr ⟨w, fd, hw, rfl⟩⟩)
    rintro v H3 ⟨p1, ys, L1, rfl, b3, hy⟩
    walk_at "go"
    refine w_heard b3.tab fun H4 e4 t4 => ?_
    have b4 := b3.lam e4 t4
    have hf4 : H4 fl = some (.lst (ts.map V.ref)) := b4.get (List.mem_cons_of_mem _ (List.mem_append_right _ List.mem_cons_self))
    have ht4 : TupsAt H4 ts ps := b4.tups zl fun x hx => List.mem_cons_of_mem _ (List.mem_append_right _ (List.mem_cons_of_mem _ (List.mem_append_left _ hx)))
    walk_at "go"
    refine w_lcW (walk_list (xs := ts.map V.ref)) (fun _ => true) (fun i v H' => ∃ p, ps[i]? = some p ∧ ∃ f, v = .ref f ∧ IsFlip K H' f p.1 p.2) (by rw [List.length_map]; omega) (fun _ _ _ _ y => y.1) (fun _ _ _ _ e ⟨p, hp, f, hv, hf⟩ => ⟨p, hp, f, hv, hf.ex e⟩)
      (fun _ _ G1 D1 l1 l2 hD ⟨p, hp, f, hv, ⟨dx, hf⟩⟩ => ⟨p, hp, f, hv, dx, mu_at (mu_upd (a := D1) (H := G1)) hf (ne_of hf hD (by intro z; cases z))⟩) (fun H' e => sl_of (e _ _ hf4)) (fun j y H5 hj e5 hy5 QE k h1 h2 => ?_) (fun D1 H5 zs5 e5 nD1 hD1 pr1 => ?_)
    · replace hy5 := hy5.2
      rw [List.getElem?_map] at hy5
      obtain ⟨t, ht, hxy⟩ := Option.map_eq_some_iff.mp hy5
      subst hxy
      have hjp : j < ps.length := by rw [← zl]; exact (List.getElem?_eq_some_iff.mp ht).1
      have hp := List.getElem?_eq_getElem hjp
      have htp := e5 _ _ (paired_at ht4 j t _ ht hp)
      have hltp := hlt _ (List.mem_of_getElem? hp)
      walk_at "go"
      refine w_mkFlip (fun _ _ f H6 e6 nf hf => ?_) (fun z => absurd ⟨by omega, by omega⟩ z)
      exact h1 rfl _ _ e6 ⟨_, hp, f, rfl, hf⟩
    obtain ⟨ffs, rfl, hF⟩ := flipsOf (by rw [List.length_map, zl]) pr1
    have b5 := b4.add e5 nD1 hD1 (.inl ⟨_, rfl⟩)
    walk_at "go"
    refine b_tadd b5 (by omega) List.mem_cons_self hF hlt (by omega) (fun i hi d H6 b6 hd => ?_) (fun hal hok H6 b6 => ?_)
    · rcases hy with ⟨i', hi', rfl⟩ | ⟨w', fd, hw', _⟩
      case inr => rw [hw'] at hi; cases hi
      rw [hi'] at hi
      cases hi
      refine .inr (.inr (.inr ⟨rfl, d, _, rfl, hd, w_new fun p2 H7 e7 n7' h7 => ?_⟩))
      have b7 := b6.add e7 n7' h7 (.inl ⟨_, rfl⟩)
      have hp1 := b7.get (List.mem_cons_of_mem _ (List.mem_cons_of_mem _ List.mem_cons_self))
      walk_at "go"
      refine w_newA (by show (2 : Nat) ≤ sizeLine; decide) fun p8 H8 e8 n8 h8 => ?_
      have b8 := b7.add e8 n8 h8 (.inl ⟨_, rfl⟩)
      refine q p8 p2 p1 (.list [.str "plan", .int i]) ds us H8 ((b8.le (by omega)).drop fun x hx => ?_) (.lst (sl_of (e8 _ _ h7)) (.cons (.str _) (.cons (.int _) .nil))) (.lst (sl_of (e8 _ _ hp1)) (.cons (.str _) (.cons (.int _) .nil))) (fl_sn (by decide +kernel) _)
      rcases List.mem_cons.mp hx with rfl | hx
      · exact List.mem_cons_self
      · exact List.mem_cons_of_mem _ (List.mem_cons_of_mem _ (List.mem_cons_of_mem _ (List.mem_cons_of_mem _ (List.mem_append_right _ (List.mem_cons_of_mem _ (List.mem_append_right _ hx))))))
    · rcases hy with ⟨i', hi', _⟩ | ⟨w', fd, hw', rfl⟩
      case inl => rw [hi'] at hok; cases hok
      refine w_newA (by show (2 : Nat) ≤ sizeLine; decide) fun p2 H7 e7 n7' h7 => ?_
      have b7' := b6.add e7 n7' h7 (.inl ⟨_, rfl⟩)
      have hp1 := b7'.get (List.mem_cons_of_mem _ (List.mem_cons_of_mem _ List.mem_cons_self))
      obtain ⟨LL, b7, m2, mf, mt, mL⟩ : ∃ LL, Big K c LL ds us (ds ++ ps) (if ps = [] then us else []) (m + ps.length) H7 ∧ (p2, HO.lst [.str "told", .non]) ∈ LL ∧ (fl, HO.lst (ts.map V.ref)) ∈ LL ∧ (∀ x ∈ tupL ts ps, x ∈ LL) ∧ ∀ x ∈ L, x ∈ LL := by
        refine ⟨_, b7', List.mem_cons_self, ?_, fun x hx => ?_, fun x hx => ?_⟩
        · exact List.mem_cons_of_mem _ (List.mem_cons_of_mem _ (List.mem_cons_of_mem _ (List.mem_append_right _ List.mem_cons_self)))
        · exact List.mem_cons_of_mem _ (List.mem_cons_of_mem _ (List.mem_cons_of_mem _ (List.mem_append_right _ (List.mem_cons_of_mem _ (List.mem_append_left _ hx)))))
        · exact List.mem_cons_of_mem _ (List.mem_cons_of_mem _ (List.mem_cons_of_mem _ (List.mem_append_right _ (List.mem_cons_of_mem _ (List.mem_append_right _ hx)))))
      have hf7 := b7.get mf
      walk_at "go"
      refine w_forW (walk_list (xs := ts.map V.ref)) (fun i σ' H' => ∃ x10 x11, σ' = [some (.ref c.s), some (.ref c.tb), some (.ref c.z), some (.ref c.kd), some (.int way), some (.int c.n), some (.str c.g.s), some (.ref fl), some (.ref p1), some (.ref p2), x10, x11] ∧ Big K c LL (ds ++ ps.take i) (if i = 0 then us else []) (ds ++ ps) (if ps = [] then us else []) (m + 3 + i) H') ?i0 ?iG ?is ?id
      case i0 =>
        refine ⟨none, none, rfl, ?_⟩
        rw [List.take_zero, List.append_nil, if_pos rfl]
        exact b7.le (by omega)
      case iG =>
        rintro i σ' H' _ ⟨x10, x11, _, b8⟩
        exact sl_of (b8.get mf)
      case is =>
        rintro i y σ' H' H'' hi ⟨x10, x11, rfl, b8⟩ ⟨rfl, hy8⟩
        obtain ⟨t, ht, rfl⟩ := map_at hy8
        have hip : i < ps.length := by rw [← zl]; exact (List.getElem?_eq_some_iff.mp ht).1
        have hp := List.getElem?_eq_getElem hip
        generalize hpe : ps[i] = p at hp
        have htp := paired_at (b8.tups zl mt) i t p ht hp
        have hmem := List.mem_of_getElem? hp
        have hltp := hlt _ hmem
        have hmp := (mem_places _ _ _ _).mp (hal _ hmem)
        refine w_gTup (st_of htp) rfl ?_
        walk_at "go"
        refine b_lflip b8 (by omega) (fun hn => absurd ⟨by omega, by omega⟩ hn) (fun _ _ hf => by rw [hmp.2] at hf; cases hf) (fun a' e' ea ee hm r H9 b9 => ?_)
        obtain rfl : a' = p.1 := by omega
        obtain rfl : e' = p.2 := by omega
        walk_at "go"
        refine ⟨_, _, rfl, ?_⟩
        rw [List.take_succ_eq_append_getElem hip, hpe, ← List.append_assoc, if_neg (Nat.succ_ne_zero i)]
        exact b9.drop fun x hx => List.mem_cons_of_mem _ hx
      case id =>
        rintro σ' H8 ⟨x10, x11, rfl, b8⟩
        rw [List.length_map, zl, List.take_length] at b8
        walk_at "go"
        refine w_newA (by show (2 : Nat) ≤ sizeLine; decide) fun p3 H9 e9 n9 h9 => ?_
        walk_at "go"
        refine w_newA (by show (2 : Nat) ≤ sizeLine; decide) fun p4 H10 e10 n10 h10 => ?_
        have b9 := b8.ext e9
        have b10 := b9.add e10 n10 h10 (.inl ⟨_, rfl⟩)
        have h2 := b10.get (List.mem_cons_of_mem _ m2)
        have eu : (if ps = [] then us else []) = (if ps.length = 0 then us else []) := by cases ps <;> rfl
        rw [eu] at b10
        refine q p4 p2 p3 (.list [.str "told", .none]) _ _ H10 ((b10.le (by omega)).drop fun x hx => ?_) (.lst (sl_of h2) (.cons (.str _) (.cons .non .nil))) (.lst (sl_of (e10 _ _ h9)) (.cons (.str _) (.cons .non .nil))) fl_told
        rcases List.mem_cons.mp hx with rfl | hx
        · exact List.mem_cons_self
        · exact List.mem_cons_of_mem _ (mL x hx)
end Tcf

set_option Elab.async false
set_option linter.all false
set_option maxRecDepth 100000
set_option maxHeartbeats 4000000
/-! ES: a deed (printed from ES.tmpl by gen_der.py). -/
namespace Tcf
open PySem PySem.Spec PyProof.Rows L2
open Evl (Ex)
set_option hygiene false in
local macro_rules | `(tactic| walk_at "lkT") => `(tactic| first | (with_reducible exact T.l_GAMES _) | (with_reducible exact T.l_GOALS _))
set_option hygiene false in
local macro_rules | `(tactic| walk_at "isx") => `(tactic| first | (with_reducible exact T.is_Row (by walk_at "lk")) | (with_reducible exact T.is_Flip (by walk_at "lk")) | (with_reducible exact T.is_Table (by walk_at "lk")))
local macro_rules | `(tactic| walk_at "lk") => `(tactic| first
  | assumption
  | walk_at "lkT"
  | ((with_reducible refine' ex_at (by assumption) ?wk); (case wk => walk_at "lk"))
  | ((with_reducible refine' sl_of ?wk); (case wk => walk_at "lk"))
  | ((with_reducible refine' st_of ?wk); (case wk => walk_at "lk"))
  | ((with_reducible refine' ex_l (by assumption) ?wk); (case wk => walk_at "lk"))
  | ((with_reducible refine' ex_t (by assumption) ?wk); (case wk => walk_at "lk"))
  | ((with_reducible refine' mu_at (by assumption) ?wk ?wn); (case wk => walk_at "lk"); (case wn => assumption)))
set_option hygiene false in
local macro_rules | `(tactic| walk_at "sd") => `(tactic| first
  | exact rfl | assumption | (with_reducible exact T.c_Row) | (with_reducible exact T.c_Flip) | (with_reducible exact T.c_Table) | (with_reducible exact T.c_Trial)
  | (with_reducible exact T.n_Row_colour) | (with_reducible exact T.n_Row_sizes) | (with_reducible exact T.n_Flip_begin) | (with_reducible exact T.n_Flip_finish) | (with_reducible exact T.n_Trial_home) | (with_reducible exact T.n_Trial_kept)
  | (with_reducible exact T.n_Table_beginning) | (with_reducible exact T.n_Table_words) | (with_reducible exact T.n_Table_state))
local macro_rules | `(tactic| walk_at "w") => `(tactic| first
  | (with_reducible refine w_seq ?_) | (with_reducible refine w_asg ?_) | (with_reducible refine w_gName ?_) | (with_reducible refine w_ret ?_) | (with_reducible refine w_ifS ?_) | (with_reducible refine w_drop ?_) | (with_reducible refine w_next ?_)
  | ((with_reducible refine' w_aug ?wh ?_); (case wh => exact rfl)) | (with_reducible refine w_match ?_) | (with_reducible refine w_case ?_)
  | ((with_reducible refine' w_var ?wh ?_); (case wh => exact rfl))
  | (with_reducible refine w_c ?_) | (with_reducible refine w_op ?_) | (with_reducible refine w_un ?_) | (with_reducible refine w_nil ?_) | (with_reducible refine w_cons ?_) | (with_reducible refine w_star ?_) | (with_reducible refine w_tup ?_) | (with_reducible refine w_lst ?_)
  | (with_reducible refine w_if ?_) | (with_reducible refine w_and ?_) | (with_reducible refine w_or ?_) | (with_reducible refine w_not ?_) | (with_reducible refine w_bq ?_) | (with_reducible refine w_B ?_) | (with_reducible refine w_test ?_) | (with_reducible refine w_andV ?_) | (with_reducible refine w_orV ?_) | (with_reducible refine w_notV ?_)
  | (with_reducible refine w_chain ?_) | (with_reducible refine w_rI0 ?_) | (with_reducible refine w_rU ?_) | (with_reducible refine w_ipI ?_)
  | (with_reducible refine w_eqI ?_) | (with_reducible refine w_neI ?_) | (with_reducible refine w_eqS ?_) | (with_reducible refine w_neS ?_) | (with_reducible refine w_eqB ?_) | (with_reducible refine w_neB ?_) | (with_reducible refine w_isNr ?_) | (with_reducible refine w_isNn ?_)
  | (with_reducible refine w_sl ?_) | (with_reducible refine w_noPart ?_) | (with_reducible refine w_part ?_) | (with_reducible refine w_pq ?_) | (with_reducible refine w_revL ?_) | (with_reducible refine w_revS ?_)
  | (with_reducible refine w_cb ?_) | (with_reducible refine w_min2 ?_) | (with_reducible refine w_max2 ?_) | (with_reducible refine w_intB ?_)
  | (with_reducible refine w_fn ?_) | (with_reducible refine w_me ?_) | (with_reducible refine w_pr ?_) | (with_reducible refine w_mk ?_) | (with_reducible refine w_fld ?_)
  | (with_reducible refine w_isi_ii ?_) | (with_reducible refine w_isi_ib ?_) | (with_reducible refine w_isi_ss ?_)
  | ((with_reducible refine' w_isi_ll ?wh ?_); (case wh => walk_at "lk"))
  | ((with_reducible refine' w_isi_own ?wh ?wq); (case wh => walk_at "isx"))
  | ((with_reducible refine' w_lenL ?wh ?_); (case wh => walk_at "lk")) | ((with_reducible refine' w_ixL ?wh ?wi ?_); (case wh => walk_at "lk"); (case wi => first | assumption | exact rfl)) | ((with_reducible refine' w_ixT ?wh ?wi ?_); (case wh => walk_at "lk"); (case wi => first | assumption | exact rfl))
  | ((with_reducible refine' w_slL ?wh ?_); (case wh => walk_at "lk")) | ((with_reducible refine' w_rvq ?wh ?_); (case wh => walk_at "lk")) | ((with_reducible refine' w_listO ?wh ?_); (case wh => walk_at "lk")) | ((with_reducible refine' w_starL ?wh ?_); (case wh => walk_at "lk"))
  | ((with_reducible refine' w_fq ?wh ?wc ?wn ?wl ?_); (case wh => walk_at "lk"); (case wc => walk_at "sd"); (case wn => walk_at "sd"); (case wl => exact rfl))
  | ((with_reducible refine' w_sum ?wh ?_); (case wh => walk_at "lk"))
  | ((with_reducible refine' w_all ?wh ?_); (case wh => walk_at "lk"))
  | (with_reducible refine w_forL ?_) | ((with_reducible refine' w_forLq ?wh ?_); (case wh => walk_at "lk")) | (with_reducible refine w_forS ?_) | (with_reducible refine w_forSq ?_) | (with_reducible refine w_forR1 ?_) | ((with_reducible refine' w_forR1q ?wh ?_); (case wh => omega)) | (with_reducible refine w_forR2 ?_) | ((with_reducible refine' w_forR2q ?wh ?_); (case wh => omega)) | (with_reducible refine w_forE ?_) | ((with_reducible refine' w_forEq ?wh ?_); (case wh => walk_at "lk"))
  | (with_reducible refine w_lcL ?_) | ((with_reducible refine' w_lcLq ?wh ?_); (case wh => walk_at "lk")) | (with_reducible refine w_lcS ?_) | (with_reducible refine w_lcSq ?_) | (with_reducible refine w_lcR2 ?_) | ((with_reducible refine' w_lcR2q ?wh ?_); (case wh => omega))
  | (with_reducible refine w_bm ?_) | ((with_reducible refine' w_bmq ?wh ?_); (case wh => walk_at "lk")) | (with_reducible refine w_bm0 ?_) | ((with_reducible refine' w_bm0q ?wh ?_); (case wh => walk_at "lk"))
  | ((with_reducible refine' w_getL ?wh ?wi ?_); (case wh => walk_at "lk"); (case wi => first | assumption | exact rfl)) | (with_reducible refine w_gSub ?_) | (with_reducible refine w_augS ?_)
  | ((with_reducible refine' w_gTup ?wh ?wl ?_); (case wh => walk_at "lk"); (case wl => exact rfl)) | (with_reducible refine w_gCons ?_) | (with_reducible refine w_gNil ?_)
  | (with_reducible refine w_parT ?_) | (with_reducible refine w_parq ?_) | (with_reducible refine w_par3T ?_) | (with_reducible refine w_par3q ?_) | (with_reducible refine w_sfld ?_) | (with_reducible refine w_ob ?_) | (with_reducible refine w_obq ?_)
  | ((with_reducible refine' w_sfq ?wh ?wc ?wn ?wl ?wq); (case wh => walk_at "lk"); (case wc => walk_at "sd"); (case wn => walk_at "sd"); (case wl => exact Nat.le_of_ble_eq_true rfl))
  | ((with_reducible refine' w_rI ?wh ?wq); (case wh => first | decide | exact ⟨by decide, by decide⟩)) | (with_reducible refine w_pairsC ?_) | (with_reducible refine w_pairsN ?_) | ((with_reducible refine' w_cat ?wh ?wk ?wl ?wq); (case wh => walk_at "lk"); (case wk => walk_at "lk"); (case wl => walk_at "sz"))
  | ((with_reducible refine' w_mqRow ?wh ?wl ?wk ?wq); (case wh => walk_at "rw"); (case wl => exact rfl); (case wk => exact rfl))
  | ((with_reducible refine' w_mq ?wh ?wl ?wq); (case wh => walk_at "lk"); (case wl => exact rfl))
  | ((with_reducible refine' w_wipe ?wh ?wq); (case wh => exact rfl)) | (with_reducible refine w_yesT ?_)
  | (with_reducible refine w_isNumber ?_) | (with_reducible refine w_isCount ?_) | (with_reducible refine w_isColour ?_) | (with_reducible refine w_checkGame ?_) | (with_reducible refine w_checkGoal ?_) | (with_reducible refine w_checkWords ?_)
  | (with_reducible refine iteT ?_) | (with_reducible refine iteF ?_) | ((with_reducible refine' w_yes ?wh ?_); (case wh => exact rfl)) | ((with_reducible refine' w_no ?wh ?_); (case wh => exact rfl)))
local macro_rules | `(tactic| walk_at "sz") => `(tactic| first | (refine sz_le ?_; first | assumption | (simp only [List.length_map, List.length_append, List.length_cons, List.length_nil]; omega) | omega) | (refine sz_lt ?_; first | assumption | (simp only [List.length_map, List.length_append, List.length_cons, List.length_nil]; omega) | omega))
local macro_rules | `(tactic| walk_at "go") => `(tactic| repeat (walk_at "w"))
local macro_rules | `(tactic| walk_at "bt") => `(tactic| first | exact rfl | assumption | (simp [*]; done) | (simp; omega) | (simp [*]; omega))
local macro_rules | `(tactic| walk_at "yes") => `(tactic| ((with_reducible refine' w_yes ?wh ?wq); (case wh => walk_at "bt"); walk_at "go"))
local macro_rules | `(tactic| walk_at "no") => `(tactic| ((with_reducible refine' w_no ?wh ?wq); (case wh => walk_at "bt"); walk_at "go"))
local macro_rules | `(tactic| walk_at "st") => `(tactic| ((try dsimp only [L2.cxOf, L2.Cx.nox, L2.Cx.wish]); walk_at "go"))
local macro_rules | `(tactic| walk_at "rw") => `(tactic| first | assumption | ((with_reducible refine' IsRow.rw ?wk); (case wk => walk_at "rw")) | ((with_reducible refine' IsRw.ex (by assumption) ?wk); (case wk => walk_at "rw")) | ((with_reducible refine' IsRow.ex (by assumption) ?wk); (case wk => walk_at "rw")))
local macro_rules | `(tactic| walk_at "ro") => `(tactic| first | assumption | ((with_reducible refine' IsRow.ex (by assumption) ?wk); (case wk => walk_at "ro")))
local macro_rules | `(tactic| walk_at "fl") => `(tactic| first | assumption | ((with_reducible refine' IsFlip.ex (by assumption) ?wk); (case wk => walk_at "fl")))
local macro_rules | `(tactic| walk_at "w") => `(tactic| first
  | ((with_reducible refine' w_first ?wh ?wq); (case wh => walk_at "rw")) | ((with_reducible refine' w_runs ?wh ?wq); (case wh => walk_at "rw")) | ((with_reducible refine' w_length ?wh ?wq); (case wh => walk_at "rw")) | ((with_reducible refine' w_lengths ?wh ?wq); (case wh => walk_at "rw")))
local macro_rules | `(tactic| walk_at "w") => `(tactic| first
  | ((with_reducible refine' w_start ?wh ?wq); (case wh => walk_at "fl")) | ((with_reducible refine' w_end ?wh ?wq); (case wh => walk_at "fl")))
local macro_rules | `(tactic| walk_at "w") => `(tactic| first | (with_reducible refine w_dget ?_))
def PairQ (K : PySem.W.Frag) (c : Wo) (L : List (Addr × HO)) (m : Nat) (Q : VK) : Prop := ∀ p a b x ds' us' H', Big K c ((p, .lst [.ref a, .ref b]) :: L) ds' us' ds' us' (m + 6) H' → Dp K H' (.ref a) x → Dp K H' (.ref b) x → Fl 5 x → Q (.ref p) H'
theorem fin_pair {K : PySem.W.Frag} {c : Wo} {L LL : List (Addr × HO)} {ds us : List Pl} {m m' : Nat} {H : Hp} {Q : VK} {p1 p2 : Addr} {xs : List V} {dxs : List PyData} (b : Big K c LL ds us ds us m' H) (h2 : (p2, .lst xs) ∈ LL) (h1 : (p1, .lst xs) ∈ LL) (hx : ∀ G, DpAll K G xs dxs) (fl : Fl 5 (.list dxs)) (mL : ∀ x ∈ L, x ∈ LL) (zm : m' ≤ m + 6)
    (q : PairQ K c L m Q) : ([V.ref p2, V.ref p1] : List V).length ≤ sizeLine ∧ NewQ (.lst [.ref p2, .ref p1]) Q H := by
  refine w_newA (by show (2 : Nat) ≤ sizeLine; decide) fun p4 H10 e10 n10 h10 => ?_
  have b10 := b.add e10 n10 h10 (.inl ⟨_, rfl⟩)
  refine q p4 p2 p1 (.list dxs) _ _ H10 ((b10.le zm).drop fun x hx => ?_) (.lst (sl_of (b10.get (List.mem_cons_of_mem _ h2))) (hx _)) (.lst (sl_of (b10.get (List.mem_cons_of_mem _ h1))) (hx _)) fl
  rcases List.mem_cons.mp hx with rfl | hx
  · exact List.mem_cons_self
  · exact List.mem_cons_of_mem _ (mL x hx)
theorem Big.ins {K : PySem.W.Frag} {c : Wo} {L : List (Addr × HO)} {lds lus tds tus : List Pl} {m : Nat} {H : Hp} (b : Big K c L lds lus tds tus m H) : ∃ dx fs, H c.tb = some (.ins (He.ga K "Table") dx fs) ∧ fs.lookup ("flip" : Str) = none ∧ fs.lookup ("undo" : Str) = none ∧ fs.lookup ("redo" : Str) = none ∧ fs.lookup ("tried" : Str) = none := by
  obtain ⟨r0, wt, st, r, tdl, tul, dfs, ufs, ⟨dx, hT⟩, _⟩ := b.tabH
  exact ⟨dx, _, hT, rfl, rfl, rfl, rfl⟩
def spPair (K : PySem.W.Frag) : Sp := fun vs H Q _ => ∃ (c : Wo) (L : List (Addr × HO)) (ds us : List Pl) (m : Nat), vs = [.ref c.s, .ref c.tb, .ref c.z, .ref c.kd] ∧ Big K c L ds us ds us m H ∧ m ≤ 1000 ∧ PairQ K c L m Q
theorem sc_law_pair : FnScope ["_law_stream_here", "_law_table", "_law_state", "_law_known", "_law_way", "_law_length", "_law_game", "_law_start", "_law_end", "_law_places_here", "_law_due"] ["_law_stream_here", "_law_table", "_law_state", "_law_known"] (defScope (top 65)) := ⟨rfl, rfl, rfl, by decide +kernel, rfl, by decide +kernel, by decide +kernel⟩
theorem ok_law_pair {P : Program} {w : World} {K : PySem.W.Frag} {mg : Str → Option Value} {base : Heap} (T : Tx P K mg) (TB : ∀ p ∈ tf, LamX.TabB base mg (He.cT K p).1 (He.cT K p).2) : Ok P w K mg base 13 (He.ga K "_law_pair") (spPair K) := by
  refine ok_mkC T.d_law_pair sc_law_pair (fun vs H Q E h => ?len) (fun _ _ _ _ _ _ us hl => match us, hl with | [_, _, _, _], _ => rfl) (fun A outer s H vs Q E hr h => ⟨_, (pss_cons (ps_par3 (i := 4) (j := 5) (l := 6) (by rfl) sc_law_pair.nd rfl rfl rfl (by decide) (by decide) (by decide) rfl rfl rfl (pa_cons (pe_fn (ok_law_draw T) hr T.g_law_draw (pa_cons (pv 0) (pa_cons pe_int pa_nil))) (pa_cons (pe_callB cq_lenT (by rfl) T.z_len (by decide +kernel) (pa_cons (pe_ix ix_list (pe_ix ix_list (pv 2) pe_int (fun _ _ => rfl)) (pe_un un_neg pe_int) (fun _ _ => rfl)) pa_nil)) (pa_cons (pe_pr T.c_Table T.p_Table_game (ok_Table_game T) hr (pv 1)) pa_nil))) (by rfl)) (pss_cons (ps_if (pt_cmpR op_lt (pv 4) pe_int (nomark _)) (pss_cons (ps_asg (pe_fn (ok_law_drawn_place T) hr T.g_law_drawn_place (pa_cons (pv 0) (pa_cons (pv 5) (pa_cons (pv 6) pa_nil)))) (pg_tup rfl (pgs_cons (pg_name (i := 7) sc_law_pair.nd rfl (Or.inr rfl)) (pgs_cons (pg_name (i := 8) sc_law_pair.nd rfl (Or.inr rfl)) pgs_nil)))) (pss_one (ps_ret (pe_lst (pa_cons (pe_heard (t := fun E2 => tMe (He.ga K "Table") "flip" (Frx (spTFlip K)) E2 (tVar 1) (tCons (tVar 7) (tCons (tVar 8) tNil))) T rfl (TB ("_law_pair", none) List.mem_cons_self) rfl List.mem_cons_self hr (by rfl) rfl (fun _ _ _ _ _ => rfl) (fun A2 outer2 s2 H2 E2 f2 c2 hr2 => (pe_meX T.c_Table T.m_Table_flip (ok_Table_flip T).frm hr2 (passes_call (E := E2) (takes_of rfl rfl rfl rfl) (fun _ _ _ _ h => h)) (pv 1) (pa_cons (pv 7) (pa_cons (pv 8) pa_nil))))) (pa_cons (pe_fn (ok_law_flipped T) hr T.g_law_flipped (pa_cons (pv 2) (pa_cons (pv 7) (pa_cons (pv 8) (pa_cons (pv 6) pa_nil))))) pa_nil)))))) pss_nil) (pss_cons (ps_if (pt_cmpR op_eq (pv 4) pe_int (nomark _)) (pss_cons (ps_set (i := 9) sc_law_pair.nd rfl (.inr rfl) (pe_fn (ok_law_some_places T) hr T.g_law_some_places (pa_cons (pv 0) (pa_cons (pv 5) (pa_cons (pv 6) pa_nil))))) (pss_cons (ps_set (i := 10) sc_law_pair.nd rfl (.inl rfl) (pe_fn (ok_law_listed T) hr T.g_law_listed (pa_cons (pv 2) (pa_cons (pv 9) (pa_cons (pv 6) pa_nil))))) (pss_cons (ps_if (pt_cmpR op_eq (pe_ix ix_list (pv 10) pe_int (fun _ _ => rfl)) pe_str (nomark _)) (pss_one (ps_set (i := 10) sc_law_pair.nd rfl (.inl rfl) (pe_lst (pa_cons pe_str (pa_cons (pe_dget (hu_of hr) (pv 3) (pe_ix ix_list (pe_op op_cat (pe_slice sl_list (pe_ix ix_list (pv 2) pe_int (fun _ _ => rfl)) (po_some (pe_un un_neg pe_int)) po_none) (pe_ix ix_list (pv 10) pe_int (fun _ _ => rfl))) (pe_un un_neg pe_int) (fun _ _ => rfl)) (fun _ _ => rfl)) pa_nil))))) pss_nil) (pss_one (ps_ret (pe_lst (pa_cons (pe_heard (t := fun E2 => tMe (He.ga K "Table") "tried" (Frx (spTried K)) E2 (tVar 1) (tCons (tLc (iList K (tVar 9)) (gTup K 2 (gCons (gName 7) (gCons (gName 8) gNil))) tYes (tNew (He.ga K "Flip") (spFlipInit K) E0 (tCons (tVar 7) (tCons (tVar 8) tNil))) [7, 8]) tNil)) T rfl (TB ("_law_pair", none) List.mem_cons_self) rfl List.mem_cons_self hr (by rfl) rfl (fun _ _ _ _ _ => rfl) (fun A2 outer2 s2 H2 E2 f2 c2 hr2 => (pe_meX T.c_Table T.m_Table_tried (ok_Table_tried T).frm hr2 (passes_call (E := E2) (takes_of rfl rfl rfl rfl) (fun _ _ _ _ h => h)) (pv 1) (pa_cons (pe_lc (X := LamX.lamCx _ A2 outer2 s2 H2 E2 _ f2 c2) (own := [("_law_start", 7), ("_law_end", 8)]) (by rfl) sc_law_pair.nd (pi_list (pv 9)) (blkOk_by (own := [("_law_start", 7), ("_law_end", 8)]) (N := ["_law_stream_here", "_law_table", "_law_state", "_law_known", "_law_way", "_law_length", "_law_game", "_law_start", "_law_end", "_law_places_here", "_law_due"]) (by rfl)) (fun _ _ _ _ _ => (pg_tup rfl (pgs_cons (pg_name (i := 7) sc_law_pair.nd rfl (Or.inl rfl)) (pgs_cons (pg_name (i := 8) sc_law_pair.nd rfl (Or.inl rfl)) pgs_nil)))) (fun _ _ _ _ _ => pts_nil) (fun _ _ _ _ _ => (pe_new T.k_Flip (ok_Flip_dinitd T) hr2 T.gc_Flip (pa_cons (pv 7) (pa_cons (pv 8) pa_nil))))) pa_nil)))) (pa_cons (pv 10) pa_nil)))))))) pss_nil) (pss_cons (ps_if (pt_cmpR op_lt (pv 4) pe_int (nomark _)) (pss_one (ps_ret (pe_lst (pa_cons (pe_heard (t := fun E2 => tMe (He.ga K "Table") "undo" (Frx (spUndo K)) E2 (tVar 1) tNil) T rfl (TB ("_law_pair", none) List.mem_cons_self) rfl List.mem_cons_self hr (by rfl) rfl (fun _ _ _ _ _ => rfl) (fun A2 outer2 s2 H2 E2 f2 c2 hr2 => (pe_me0X T.c_Table T.m_Table_undo (ok_Table_undo T).frm hr2 (passes_call (E := E2) (takes_of rfl rfl rfl rfl) (fun _ _ _ _ h => h)) (pv 1)))) (pa_cons (pe_fn (ok_law_undone T) hr T.g_law_undone (pa_cons (pv 2) pa_nil)) pa_nil))))) pss_nil) (pss_cons (ps_if (pt_cmpR op_eq (pv 4) pe_int (nomark _)) (pss_one (ps_ret (pe_lst (pa_cons (pe_heard (t := fun E2 => tMe (He.ga K "Table") "redo" (Frx (spRedo K)) E2 (tVar 1) tNil) T rfl (TB ("_law_pair", none) List.mem_cons_self) rfl List.mem_cons_self hr (by rfl) rfl (fun _ _ _ _ _ => rfl) (fun A2 outer2 s2 H2 E2 f2 c2 hr2 => (pe_me0X T.c_Table T.m_Table_redo (ok_Table_redo T).frm hr2 (passes_call (E := E2) (takes_of rfl rfl rfl rfl) (fun _ _ _ _ h => h)) (pv 1)))) (pa_cons (pe_fn (ok_law_redone T) hr T.g_law_redone (pa_cons (pv 2) pa_nil)) pa_nil))))) pss_nil) (pss_one (ps_ret (pe_fn (ok_law_more_pair T TB) hr T.g_law_more_pair (pa_cons (pv 0) (pa_cons (pv 1) (pa_cons (pv 2) (pa_cons (pv 3) (pa_cons (pv 4) pa_nil))))))))))))), ?body⟩)
  case len => obtain ⟨c, L, ds, us, m, rfl, _⟩ := h; rfl
  case body =>
    obtain ⟨c, L, ds, us, m, rfl, b, zm, q⟩ := h
    have n7 := b.n7
    walk_at "st"
    refine ⟨c.s, 9, rfl, b.stm, by decide, by decide, fun way H1 mu hs hr => ?_⟩
    have b1 := b.draw mu hs
    obtain ⟨wl, dl, ul, dts, uts, W, _⟩ := id b1.ex
    obtain ⟨r0, wt, st, r, tdl, tul, dfs, ufs, hT, hB, hS⟩ := b1.tabH
    obtain ⟨dx, hT1⟩ := id hT
    have hz := W.hz
    have hw := W.hw
    rw [scan_ini] at hw
    have zn := b1.endL.1
    have zs : (sT (endW c.u0 ds)).length = c.n := (tx_len _).trans zn
    walk_at "go"
    refine w_ixL (K := K) (sl_of hw) (at_last _ _) ?_
    walk_at "go"
    refine w_lenS (sz_le (by omega)) ?_
    rw [zs]
    walk_at "go"
    refine w_prq hT1 ?_
    refine ⟨c.tb, r0, wt, st, c.u0, c.g, c.o, rfl, hT, hB, ?_⟩
    walk_at "go"
    refine w_ite (fun e => ?_) (fun e => ?_)
    · -- a flip
      walk_at "go"
      refine ⟨c.s, c.n, c.g, rfl, b1.stm, n7, fun a e' v H2 mu2 hs2 hv za zb => ?_⟩
      obtain ⟨t, rfl, ht⟩ := hv
      have b2 := b1.draw mu2 hs2
      walk_at "go"
      refine w_heard b2.tab fun H3 e3 t3 => ?_
      have b3 := b2.lam e3 t3
      obtain ⟨dx3, fs3, hI, k1, k2, k3, k4⟩ := b3.ins
      walk_at "go"
      refine w_mq hI k1 ?_
      walk_at "go"
      refine b_tflip b3 (by omega) (fun hn H4 b4 => ?_) (fun h0 h1 hal H4 b4 => ?_) (fun a1 e1 ea ee hm H4 b4 => ?_)
      · refine .inl ⟨rfl, w_new fun p2 H5 e5 n5 h5 => ?_⟩
        have b5 := b4.add e5 n5 h5 (.inl ⟨_, rfl⟩)
        walk_at "go"
        refine b_lflip b5 (by omega) (fun _ p H6 b6 => ?_) (fun u0 u1 => absurd ⟨u0, u1⟩ hn) (fun a2 e2 ea ee hm => absurd ⟨by omega, by have := (pl_le hm).1; omega⟩ hn)
        walk_at "go"
        exact fin_pair b6 (List.mem_cons_of_mem _ List.mem_cons_self) List.mem_cons_self (fun _ => .cons (.str _) .nil) (fl_s1 (by decide +kernel)) (fun x hx => List.mem_cons_of_mem _ (List.mem_cons_of_mem _ hx)) (by omega) q
      · refine .inr (.inl ⟨rfl, w_new fun p2 H5 e5 n5 h5 => ?_⟩)
        have b5 := b4.add e5 n5 h5 (.inl ⟨_, rfl⟩)
        walk_at "go"
        refine b_lflip b5 (by omega) (fun hn => absurd ⟨h0, h1⟩ hn) (fun _ _ _ p H6 b6 => ?_) (fun a2 e2 ea ee hm => ?_)
        · walk_at "go"
          exact fin_pair b6 (List.mem_cons_of_mem _ List.mem_cons_self) List.mem_cons_self (fun _ => .cons (.str _) .nil) (fl_s1 (by decide +kernel)) (fun x hx => List.mem_cons_of_mem _ (List.mem_cons_of_mem _ hx)) (by omega) q
        · have := ((mem_places _ _ _ _).mp hm).2
          rw [← ea, ← ee, hal] at this
          cases this
      · refine w_newA (by show (2 : Nat) ≤ sizeLine; decide) fun p2 H5 e5 n5 h5 => ?_
        have b5 := b4.add e5 n5 h5 (.inl ⟨_, rfl⟩)
        have hm1 := (mem_places _ _ _ _).mp hm
        walk_at "go"
        refine b_lflip b5 (by omega) (fun hn => absurd ⟨by omega, by omega⟩ hn) (fun _ _ hal => ?_) (fun a2 e2 ea2 ee2 hm2 p H6 b6 => ?_)
        · rw [ea, ee, hm1.2] at hal
          cases hal
        · obtain rfl : a2 = a1 := by omega
          obtain rfl : e2 = e1 := by omega
          walk_at "go"
          exact fin_pair b6 (List.mem_cons_of_mem _ List.mem_cons_self) List.mem_cons_self (fun _ => .cons (.str _) (.cons (.int _) .nil)) (fl_sn (by decide +kernel) _) (fun x hx => List.mem_cons_of_mem _ (List.mem_cons_of_mem _ hx)) (by omega) q
    walk_at "go"
    refine w_ite (fun e3 => ?_) (fun e3 => ?_)
    · -- a list tried
      walk_at "go"
      refine ⟨c.s, c.n, c.g, rfl, b1.stm, n7, fun fl ts ps H2 mu2 hs2 nf hf hts2 hlt zp => ?_⟩
      obtain ⟨sx, sy, hsL, _⟩ := b1.stm
      have zl : ts.length = ps.length := paired_len hts2
      have b2 : Big K c ((fl, .lst (ts.map V.ref)) :: (tupL ts ps ++ L)) ds us ds us m H2 := b1.step mu2 hs2 (tabs_mu mu2 hsL b1.tab) ((fl, .lst (ts.map V.ref)) :: tupL ts ps) fun x hx => by
        rcases List.mem_cons.mp hx with rfl | hx
        · exact ⟨hf, .inl ⟨_, rfl⟩, .inl nf⟩
        · obtain ⟨h1, h2⟩ := tups_in hts2 x hx
          exact ⟨h1, .inr (.inl h2), .inr h2⟩
      with_reducible refine w_gName ?_
      with_reducible refine w_seq ?_
      with_reducible refine w_asg ?_
      refine w_via (fun v H' => ∃ p1 ys L1, v = V.ref p1 ∧ Big K c ((p1, .lst ys) :: (L1 ++ ((fl, .lst (ts.map V.ref)) :: (tupL ts ps ++ L)))) ds us ds us m H' ∧ ((∃ i : Nat, applyP c.g (endW c.u0 ds) ps 0 = .error i ∧ ys = [.str "plan", .int i]) ∨
        (∃ w fd found fs, applyP c.g (endW c.u0 ds) ps 0 = .ok w ∧ InC c.n c.zz w ∧ ys = [.str "told", .ref fd] ∧ (fd, .lst (found.map fun w => V.str (sT w))) ∈ L1 ∧ endW c.u0 ds :: found = fs ++ [w] ∧ found.length ≤ 1000))) (fun Q' hQ' => ?_) ?_
      · walk_at "go"
        refine b_listed b2 (b2.get List.mem_cons_self) hts2 hlt (by omega) (fun i hi p H' b' _ => hQ' _ _ ⟨p, _, [], rfl, b', .inl ⟨i, hi, rfl⟩⟩) (fun w hw hin _ _ p fd found fs H' b' _ hfs zf => hQ' _ _ ⟨p, _, [_], rfl, b', .inr ⟨w, fd, found, fs, hw, hin, rfl, List.mem_cons_self, hfs, zf⟩⟩)
      rintro v H3 ⟨p1, ys, L1, rfl, b3, hy⟩
      with_reducible refine w_gName ?_
      with_reducible refine w_seq ?_
      refine w_viaS (fun σ' H' => ∃ p1 ys L1, σ' = [some (.ref c.s), some (.ref c.tb), some (.ref c.z), some (.ref c.kd), some (.int way), some (.int c.n), some (.str c.g.s), none, none, some (.ref fl), some (.ref p1)] ∧ Big K c ((p1, .lst ys) :: (L1 ++ ((fl, .lst (ts.map V.ref)) :: (tupL ts ps ++ L)))) ds us ds us m H' ∧
        ((∃ i : Nat, applyP c.g (endW c.u0 ds) ps 0 = .error i ∧ ys = [.str "plan", .int i]) ∨ ∃ w, applyP c.g (endW c.u0 ds) ps 0 = .ok w ∧ ys = [.str "told", .int (costW c.g c.o w)])) (fun D' hD => ?_) ?_
      · have hp1 := b3.get List.mem_cons_self
        rcases hy with ⟨i, hi, rfl⟩ | ⟨w, fd, found, fs, hw2, hin, rfl, mfd, hfs, zf⟩
        · walk_at "go"
          exact hD _ _ ⟨p1, _, L1, rfl, b3, .inl ⟨i, hi, rfl⟩⟩
        · have hfd := b3.get (List.mem_cons_of_mem _ (List.mem_append_left _ mfd))
          obtain ⟨wl3, dl3, ul3, dts3, uts3, W3, _⟩ := id b3.ex
          have hz3 := W3.hz
          have hw3 := W3.hw
          rw [scan_ini] at hw3
          walk_at "go"
          rw [List.map_append, List.map_singleton, cutV_last]
          refine w_new fun p4 H4 e4 n4 h4 => ?_
          walk_at "go"
          have hcat : [V.str (sT (endW c.u0 ds))] ++ (found.map fun w => V.str (sT w)) = (fs.map fun w => V.str (sT w)) ++ [V.str (sT w)] := by
            have := congrArg (List.map fun w => V.str (sT w)) hfs
            simpa using this
          rw [hcat]
          refine w_new fun p5 H5 e5 n5 h5 => ?_
          walk_at "go"
          refine w_ixL (K := K) (sl_of h5) (atI_last _ _) ?_
          have b5 := (b3.ext e4).ext e5
          refine ⟨c.kd, _, rfl, b5.known.get hin, ?_⟩
          walk_at "go"
          refine w_newA (by show (2 : Nat) ≤ sizeLine; decide) fun p6 H6 e6 n6 h6 => ?_
          walk_at "go"
          exact hD _ _ ⟨p6, _, (p1, .lst [.str "told", .ref fd]) :: L1, rfl, b5.add e6 n6 h6 (.inl ⟨_, rfl⟩), .inr ⟨w, hw2, rfl⟩⟩
      clear hy b3
      rintro σ' H4 ⟨p1, ys, L1, rfl, b4, hy⟩
      walk_at "go"
      refine w_heard b4.tab fun H5 e5 t5 => ?_
      have b5 := b4.lam e5 t5
      have hf5 : H5 fl = some (.lst (ts.map V.ref)) := b5.get (List.mem_cons_of_mem _ (List.mem_append_right _ List.mem_cons_self))
      have ht5 : TupsAt H5 ts ps := b5.tups zl fun x hx => List.mem_cons_of_mem _ (List.mem_append_right _ (List.mem_cons_of_mem _ (List.mem_append_left _ hx)))
      obtain ⟨dx3, fs3, hI, k1, k2, k3, k4⟩ := b5.ins
      walk_at "go"
      refine w_mq hI k4 ?_
      walk_at "go"
      refine w_lcW (walk_list (xs := ts.map V.ref)) (fun _ => true) (fun i v H' => ∃ p, ps[i]? = some p ∧ ∃ f, v = .ref f ∧ IsFlip K H' f p.1 p.2) (by rw [List.length_map]; omega) (fun _ _ _ _ y => y.1) (fun _ _ _ _ e ⟨p, hp, f, hv, hf⟩ => ⟨p, hp, f, hv, hf.ex e⟩)
        (fun _ _ G1 D1 l1 l2 hD ⟨p, hp, f, hv, ⟨dx, hf⟩⟩ => ⟨p, hp, f, hv, dx, mu_at (mu_upd (a := D1) (H := G1)) hf (ne_of hf hD (by intro z; cases z))⟩) (fun H' e => sl_of (e _ _ hf5)) (fun j y H6 hj e6 hy6 QE k h1 h2 => ?_) (fun D1 H6 zs6 e6 nD1 hD1 pr1 => ?_)
      · replace hy6 := hy6.2
        rw [List.getElem?_map] at hy6
        obtain ⟨t, ht, hxy⟩ := Option.map_eq_some_iff.mp hy6
        subst hxy
        have hjp : j < ps.length := by rw [← zl]; exact (List.getElem?_eq_some_iff.mp ht).1
        have hp := List.getElem?_eq_getElem hjp
        have htp := e6 _ _ (paired_at ht5 j t _ ht hp)
        have hltp := hlt _ (List.mem_of_getElem? hp)
        walk_at "go"
        refine w_mkFlip (fun _ _ f H6 e6 nf hf => ?_) (fun z => absurd ⟨by omega, by omega⟩ z)
        exact h1 rfl _ _ e6 ⟨_, hp, f, rfl, hf⟩
      obtain ⟨ffs, rfl, hF⟩ := flipsOf (by rw [List.length_map, zl]) pr1
      have b6 := b5.add e6 nD1 hD1 (.inl ⟨_, rfl⟩)
      have mL : ∀ x ∈ L, x ∈ (p1, HO.lst ys) :: (L1 ++ ((fl, .lst (ts.map V.ref)) :: (tupL ts ps ++ L))) := fun x hx => List.mem_cons_of_mem _ (List.mem_append_right _ (List.mem_cons_of_mem _ (List.mem_append_right _ hx)))
      walk_at "go"
      refine b_ttried b6 (by omega) List.mem_cons_self hF hlt (by omega) (fun i hi d H7 b7 hd => ?_) (fun v hvc hok H7 b7 => ?_)
      · rcases hy with ⟨i', hi', rfl⟩ | ⟨w', hw', _⟩
        case inr => rw [hw'] at hi; cases hi
        rw [hi'] at hi
        cases hi
        refine .inr (.inr (.inr ⟨rfl, d, _, rfl, hd, w_new fun p2 H8 e8 n8 h8 => ?_⟩))
        have b8 := b7.add e8 n8 h8 (.inl ⟨_, rfl⟩)
        walk_at "go"
        exact fin_pair b8 List.mem_cons_self (List.mem_cons_of_mem _ (List.mem_cons_of_mem _ List.mem_cons_self)) (fun _ => .cons (.str _) (.cons (.int _) .nil)) (fl_sn (by decide +kernel) _) (fun x hx => List.mem_cons_of_mem _ (List.mem_cons_of_mem _ (mL x hx))) (by omega) q
      · rcases hy with ⟨i', hi', _⟩ | ⟨w', hw', rfl⟩
        case inl => rw [hi'] at hok; cases hok
        rw [hw'] at hok
        cases hok
        refine w_newA (by show (2 : Nat) ≤ sizeLine; decide) fun p2 H8 e8 n8 h8 => ?_
        have b8 := b7.add e8 n8 h8 (.inl ⟨_, rfl⟩)
        walk_at "go"
        exact fin_pair b8 List.mem_cons_self (List.mem_cons_of_mem _ (List.mem_cons_of_mem _ List.mem_cons_self)) (fun _ => .cons (.str _) (.cons (.int _) .nil)) (fl_sn (by decide +kernel) _) (fun x hx => List.mem_cons_of_mem _ (List.mem_cons_of_mem _ (mL x hx))) (by omega) q
    walk_at "go"
    refine w_ite (fun e4 => ?_) (fun e4 => ?_)
    · -- undo
      walk_at "go"
      refine w_heard b1.tab fun H3 e3 t3 => ?_
      have b3 := b1.lam e3 t3
      obtain ⟨dx3, fs3, hI, k1, k2, k3, k4⟩ := b3.ins
      walk_at "go"
      refine w_mq hI k2 ?_
      walk_at "go"
      refine b_tundo b3 (by omega) (fun hn H4 b4 => ?_) (fun ds' r hds H4 b4 => ?_)
      · refine .inr (.inr (.inl ⟨rfl, w_new fun p2 H5 e5 n5 h5 => ?_⟩))
        have b5 := b4.add e5 n5 h5 (.inl ⟨_, rfl⟩)
        walk_at "go"
        refine b_lundo b5 (by omega) (fun _ p H6 b6 => ?_) (fun ds2 r2 hds2 => by rw [hn] at hds2; cases ds2 <;> cases hds2)
        walk_at "go"
        exact fin_pair b6 (List.mem_cons_of_mem _ List.mem_cons_self) List.mem_cons_self (fun _ => .cons (.str _) .nil) (fl_s1 (by decide +kernel)) (fun x hx => List.mem_cons_of_mem _ (List.mem_cons_of_mem _ hx)) (by omega) q
      · refine w_newA (by show (2 : Nat) ≤ sizeLine; decide) fun p2 H5 e5 n5 h5 => ?_
        have b5 := b4.add e5 n5 h5 (.inl ⟨_, rfl⟩)
        walk_at "go"
        refine b_lundo b5 (by omega) (fun hn => by rw [hn] at hds; cases ds' <;> cases hds) (fun ds2 r2 hds2 p H6 b6 => ?_)
        obtain ⟨h1, h2⟩ := List.append_inj' (hds.symm.trans hds2) rfl
        cases h1
        cases h2
        walk_at "go"
        exact fin_pair b6 (List.mem_cons_of_mem _ List.mem_cons_self) List.mem_cons_self (fun _ => .cons (.str _) (.cons (.int _) .nil)) (fl_sn (by decide +kernel) _) (fun x hx => List.mem_cons_of_mem _ (List.mem_cons_of_mem _ hx)) (by omega) q
    walk_at "go"
    refine w_ite (fun e5 => ?_) (fun e5 => ?_)
    · -- redo
      walk_at "go"
      refine w_heard b1.tab fun H3 e3 t3 => ?_
      have b3 := b1.lam e3 t3
      obtain ⟨dx3, fs3, hI, k1, k2, k3, k4⟩ := b3.ins
      walk_at "go"
      refine w_mq hI k3 ?_
      walk_at "go"
      refine b_tredo b3 (by omega) (fun hn H4 b4 => ?_) (fun us' r hus H4 b4 => ?_)
      · refine .inr (.inr (.inl ⟨rfl, w_new fun p2 H5 e5 n5 h5 => ?_⟩))
        have b5 := b4.add e5 n5 h5 (.inl ⟨_, rfl⟩)
        walk_at "go"
        refine b_lredo b5 (by omega) (fun _ p H6 b6 => ?_) (fun us2 r2 hus2 => by rw [hn] at hus2; cases us2 <;> cases hus2)
        walk_at "go"
        exact fin_pair b6 (List.mem_cons_of_mem _ List.mem_cons_self) List.mem_cons_self (fun _ => .cons (.str _) .nil) (fl_s1 (by decide +kernel)) (fun x hx => List.mem_cons_of_mem _ (List.mem_cons_of_mem _ hx)) (by omega) q
      · refine w_newA (by show (2 : Nat) ≤ sizeLine; decide) fun p2 H5 e5 n5 h5 => ?_
        have b5 := b4.add e5 n5 h5 (.inl ⟨_, rfl⟩)
        walk_at "go"
        refine b_lredo b5 (by omega) (fun hn => by rw [hn] at hus; cases us' <;> cases hus) (fun us2 r2 hus2 p H6 b6 => ?_)
        obtain ⟨h1, h2⟩ := List.append_inj' (hus.symm.trans hus2) rfl
        cases h1
        cases h2
        walk_at "go"
        exact fin_pair b6 (List.mem_cons_of_mem _ List.mem_cons_self) List.mem_cons_self (fun _ => .cons (.str _) (.cons (.int _) .nil)) (fl_sn (by decide +kernel) _) (fun x hx => List.mem_cons_of_mem _ (List.mem_cons_of_mem _ hx)) (by omega) q
    walk_at "go"
    exact ⟨c, L, ds, us, m, way, rfl, b1, zm, q⟩
end Tcf

set_option Elab.async false
set_option linter.all false
set_option maxRecDepth 100000
set_option maxHeartbeats 4000000
/-! ET: the table agrees with the law's state (printed from ET.tmpl by gen_der.py). -/
namespace Tcf
open PySem PySem.Spec PyProof.Rows L2
open Evl (Ex)
set_option hygiene false in
local macro_rules | `(tactic| walk_at "lkT") => `(tactic| first | (with_reducible exact T.l_GAMES _) | (with_reducible exact T.l_GOALS _))
set_option hygiene false in
local macro_rules | `(tactic| walk_at "isx") => `(tactic| first | (with_reducible exact T.is_Row (by walk_at "lk")) | (with_reducible exact T.is_Flip (by walk_at "lk")) | (with_reducible exact T.is_Table (by walk_at "lk")))
local macro_rules | `(tactic| walk_at "lk") => `(tactic| first
  | assumption
  | walk_at "lkT"
  | ((with_reducible refine' ex_at (by assumption) ?wk); (case wk => walk_at "lk"))
  | ((with_reducible refine' sl_of ?wk); (case wk => walk_at "lk"))
  | ((with_reducible refine' st_of ?wk); (case wk => walk_at "lk"))
  | ((with_reducible refine' ex_l (by assumption) ?wk); (case wk => walk_at "lk"))
  | ((with_reducible refine' ex_t (by assumption) ?wk); (case wk => walk_at "lk"))
  | ((with_reducible refine' mu_at (by assumption) ?wk ?wn); (case wk => walk_at "lk"); (case wn => assumption)))
set_option hygiene false in
local macro_rules | `(tactic| walk_at "sd") => `(tactic| first
  | exact rfl | assumption | (with_reducible exact T.c_Row) | (with_reducible exact T.c_Flip) | (with_reducible exact T.c_Table) | (with_reducible exact T.c_Trial)
  | (with_reducible exact T.n_Row_colour) | (with_reducible exact T.n_Row_sizes) | (with_reducible exact T.n_Flip_begin) | (with_reducible exact T.n_Flip_finish) | (with_reducible exact T.n_Trial_home) | (with_reducible exact T.n_Trial_kept)
  | (with_reducible exact T.n_Table_beginning) | (with_reducible exact T.n_Table_words) | (with_reducible exact T.n_Table_state))
local macro_rules | `(tactic| walk_at "w") => `(tactic| first
  | (with_reducible refine w_seq ?_) | (with_reducible refine w_asg ?_) | (with_reducible refine w_gName ?_) | (with_reducible refine w_ret ?_) | (with_reducible refine w_ifS ?_) | (with_reducible refine w_drop ?_) | (with_reducible refine w_next ?_)
  | ((with_reducible refine' w_aug ?wh ?_); (case wh => exact rfl)) | (with_reducible refine w_match ?_) | (with_reducible refine w_case ?_)
  | ((with_reducible refine' w_var ?wh ?_); (case wh => exact rfl))
  | (with_reducible refine w_c ?_) | (with_reducible refine w_op ?_) | (with_reducible refine w_un ?_) | (with_reducible refine w_nil ?_) | (with_reducible refine w_cons ?_) | (with_reducible refine w_star ?_) | (with_reducible refine w_tup ?_) | (with_reducible refine w_lst ?_)
  | (with_reducible refine w_if ?_) | (with_reducible refine w_and ?_) | (with_reducible refine w_or ?_) | (with_reducible refine w_not ?_) | (with_reducible refine w_bq ?_) | (with_reducible refine w_B ?_) | (with_reducible refine w_test ?_) | (with_reducible refine w_andV ?_) | (with_reducible refine w_orV ?_) | (with_reducible refine w_notV ?_)
  | (with_reducible refine w_chain ?_) | (with_reducible refine w_rI0 ?_) | (with_reducible refine w_rU ?_) | (with_reducible refine w_ipI ?_)
  | (with_reducible refine w_eqI ?_) | (with_reducible refine w_neI ?_) | (with_reducible refine w_eqS ?_) | (with_reducible refine w_neS ?_) | (with_reducible refine w_eqB ?_) | (with_reducible refine w_neB ?_) | (with_reducible refine w_isNr ?_) | (with_reducible refine w_isNn ?_)
  | (with_reducible refine w_sl ?_) | (with_reducible refine w_noPart ?_) | (with_reducible refine w_part ?_) | (with_reducible refine w_pq ?_) | (with_reducible refine w_revL ?_) | (with_reducible refine w_revS ?_)
  | (with_reducible refine w_cb ?_) | (with_reducible refine w_min2 ?_) | (with_reducible refine w_max2 ?_) | (with_reducible refine w_intB ?_)
  | (with_reducible refine w_fn ?_) | (with_reducible refine w_me ?_) | (with_reducible refine w_pr ?_) | (with_reducible refine w_mk ?_) | (with_reducible refine w_fld ?_)
  | (with_reducible refine w_isi_ii ?_) | (with_reducible refine w_isi_ib ?_) | (with_reducible refine w_isi_ss ?_)
  | ((with_reducible refine' w_isi_ll ?wh ?_); (case wh => walk_at "lk"))
  | ((with_reducible refine' w_isi_own ?wh ?wq); (case wh => walk_at "isx"))
  | ((with_reducible refine' w_lenL ?wh ?_); (case wh => walk_at "lk")) | ((with_reducible refine' w_ixL ?wh ?wi ?_); (case wh => walk_at "lk"); (case wi => first | assumption | exact rfl)) | ((with_reducible refine' w_ixT ?wh ?wi ?_); (case wh => walk_at "lk"); (case wi => first | assumption | exact rfl))
  | ((with_reducible refine' w_slL ?wh ?_); (case wh => walk_at "lk")) | ((with_reducible refine' w_rvq ?wh ?_); (case wh => walk_at "lk")) | ((with_reducible refine' w_listO ?wh ?_); (case wh => walk_at "lk")) | ((with_reducible refine' w_starL ?wh ?_); (case wh => walk_at "lk"))
  | ((with_reducible refine' w_fq ?wh ?wc ?wn ?wl ?_); (case wh => walk_at "lk"); (case wc => walk_at "sd"); (case wn => walk_at "sd"); (case wl => exact rfl))
  | ((with_reducible refine' w_sum ?wh ?_); (case wh => walk_at "lk"))
  | ((with_reducible refine' w_all ?wh ?_); (case wh => walk_at "lk"))
  | (with_reducible refine w_forL ?_) | ((with_reducible refine' w_forLq ?wh ?_); (case wh => walk_at "lk")) | (with_reducible refine w_forS ?_) | (with_reducible refine w_forSq ?_) | (with_reducible refine w_forR1 ?_) | ((with_reducible refine' w_forR1q ?wh ?_); (case wh => omega)) | (with_reducible refine w_forR2 ?_) | ((with_reducible refine' w_forR2q ?wh ?_); (case wh => omega)) | (with_reducible refine w_forE ?_) | ((with_reducible refine' w_forEq ?wh ?_); (case wh => walk_at "lk"))
  | (with_reducible refine w_lcL ?_) | ((with_reducible refine' w_lcLq ?wh ?_); (case wh => walk_at "lk")) | (with_reducible refine w_lcS ?_) | (with_reducible refine w_lcSq ?_) | (with_reducible refine w_lcR2 ?_) | ((with_reducible refine' w_lcR2q ?wh ?_); (case wh => omega))
  | (with_reducible refine w_bm ?_) | ((with_reducible refine' w_bmq ?wh ?_); (case wh => walk_at "lk")) | (with_reducible refine w_bm0 ?_) | ((with_reducible refine' w_bm0q ?wh ?_); (case wh => walk_at "lk"))
  | ((with_reducible refine' w_getL ?wh ?wi ?_); (case wh => walk_at "lk"); (case wi => first | assumption | exact rfl)) | (with_reducible refine w_gSub ?_) | (with_reducible refine w_augS ?_)
  | ((with_reducible refine' w_gTup ?wh ?wl ?_); (case wh => walk_at "lk"); (case wl => exact rfl)) | (with_reducible refine w_gCons ?_) | (with_reducible refine w_gNil ?_)
  | (with_reducible refine w_parT ?_) | (with_reducible refine w_parq ?_) | (with_reducible refine w_par3T ?_) | (with_reducible refine w_par3q ?_) | (with_reducible refine w_sfld ?_) | (with_reducible refine w_ob ?_) | (with_reducible refine w_obq ?_)
  | ((with_reducible refine' w_sfq ?wh ?wc ?wn ?wl ?wq); (case wh => walk_at "lk"); (case wc => walk_at "sd"); (case wn => walk_at "sd"); (case wl => exact Nat.le_of_ble_eq_true rfl))
  | ((with_reducible refine' w_rI ?wh ?wq); (case wh => first | decide | exact ⟨by decide, by decide⟩)) | (with_reducible refine w_pairsC ?_) | (with_reducible refine w_pairsN ?_) | ((with_reducible refine' w_cat ?wh ?wk ?wl ?wq); (case wh => walk_at "lk"); (case wk => walk_at "lk"); (case wl => walk_at "sz"))
  | ((with_reducible refine' w_mqRow ?wh ?wl ?wk ?wq); (case wh => walk_at "rw"); (case wl => exact rfl); (case wk => exact rfl))
  | ((with_reducible refine' w_mq ?wh ?wl ?wq); (case wh => walk_at "lk"); (case wl => exact rfl))
  | ((with_reducible refine' w_wipe ?wh ?wq); (case wh => exact rfl)) | (with_reducible refine w_yesT ?_)
  | (with_reducible refine w_isNumber ?_) | (with_reducible refine w_isCount ?_) | (with_reducible refine w_isColour ?_) | (with_reducible refine w_checkGame ?_) | (with_reducible refine w_checkGoal ?_) | (with_reducible refine w_checkWords ?_)
  | (with_reducible refine iteT ?_) | (with_reducible refine iteF ?_) | ((with_reducible refine' w_yes ?wh ?_); (case wh => exact rfl)) | ((with_reducible refine' w_no ?wh ?_); (case wh => exact rfl)))
local macro_rules | `(tactic| walk_at "sz") => `(tactic| first | (refine sz_le ?_; first | assumption | (simp only [List.length_map, List.length_append, List.length_cons, List.length_nil]; omega) | omega) | (refine sz_lt ?_; first | assumption | (simp only [List.length_map, List.length_append, List.length_cons, List.length_nil]; omega) | omega))
local macro_rules | `(tactic| walk_at "go") => `(tactic| repeat (walk_at "w"))
local macro_rules | `(tactic| walk_at "bt") => `(tactic| first | exact rfl | assumption | (simp [*]; done) | (simp; omega) | (simp [*]; omega))
local macro_rules | `(tactic| walk_at "yes") => `(tactic| ((with_reducible refine' w_yes ?wh ?wq); (case wh => walk_at "bt"); walk_at "go"))
local macro_rules | `(tactic| walk_at "no") => `(tactic| ((with_reducible refine' w_no ?wh ?wq); (case wh => walk_at "bt"); walk_at "go"))
local macro_rules | `(tactic| walk_at "st") => `(tactic| ((try dsimp only [L2.cxOf, L2.Cx.nox, L2.Cx.wish]); walk_at "go"))
local macro_rules | `(tactic| walk_at "rw") => `(tactic| first | assumption | ((with_reducible refine' IsRow.rw ?wk); (case wk => walk_at "rw")) | ((with_reducible refine' IsRw.ex (by assumption) ?wk); (case wk => walk_at "rw")) | ((with_reducible refine' IsRow.ex (by assumption) ?wk); (case wk => walk_at "rw")))
local macro_rules | `(tactic| walk_at "ro") => `(tactic| first | assumption | ((with_reducible refine' IsRow.ex (by assumption) ?wk); (case wk => walk_at "ro")))
local macro_rules | `(tactic| walk_at "fl") => `(tactic| first | assumption | ((with_reducible refine' IsFlip.ex (by assumption) ?wk); (case wk => walk_at "fl")))
local macro_rules | `(tactic| walk_at "w") => `(tactic| first
  | ((with_reducible refine' w_first ?wh ?wq); (case wh => walk_at "rw")) | ((with_reducible refine' w_runs ?wh ?wq); (case wh => walk_at "rw")) | ((with_reducible refine' w_length ?wh ?wq); (case wh => walk_at "rw")) | ((with_reducible refine' w_lengths ?wh ?wq); (case wh => walk_at "rw")))
local macro_rules | `(tactic| walk_at "w") => `(tactic| first
  | ((with_reducible refine' w_start ?wh ?wq); (case wh => walk_at "fl")) | ((with_reducible refine' w_end ?wh ?wq); (case wh => walk_at "fl")))
local macro_rules | `(tactic| walk_at "w") => `(tactic| first | (with_reducible refine w_dget ?_))
theorem scan0 (u : Wd) (ds : List Pl) : (scanW u ds).getD 0 [] = u := by cases ds <;> rfl
def upB (g : Gm) (o : Go) (ws : List Wd) (i : Nat) : Bool := decide (costW g o (ws.getD i []) ≤ costW g o (ws.getD (i + 1) []))
theorem waste_count (g : Gm) (o : Go) : ∀ (ds : List Pl) (u : Wd) (k : Int), (ds.foldl (wasteF g o) (u, k)).2 = k + (((List.range ds.length).filter (upB g o (scanW u ds))).length : Nat)
  | [], u, k => by simp
  | p :: ds, u, k => by
    rw [List.foldl_cons, show wasteF g o (u, k) p = (turnW u p.1 p.2, k + b2 (decide (costW g o u ≤ costW g o (turnW u p.1 p.2)))) from rfl, waste_count g o ds, List.length_cons, List.range_succ_eq_map, List.filter_cons, List.filter_map]
    have e0 : upB g o (scanW u (p :: ds)) 0 = decide (costW g o u ≤ costW g o (turnW u p.1 p.2)) := by
      unfold upB
      rw [show (scanW u (p :: ds)).getD 0 [] = u from rfl, show (scanW u (p :: ds)).getD (0 + 1) [] = (scanW (turnW u p.1 p.2) ds).getD 0 [] from rfl, scan0]
    have e1 : (upB g o (scanW u (p :: ds)) ∘ Nat.succ) = upB g o (scanW (turnW u p.1 p.2) ds) := rfl
    rw [e0, e1]
    cases decide (costW g o u ≤ costW g o (turnW u p.1 p.2)) with
    | true =>
      rw [if_pos rfl, List.length_cons, List.length_map]
      show k + 1 + _ = _
      push_cast
      omega
    | false =>
      rw [if_neg (by decide), List.length_map]
      show k + 0 + _ = _
      omega
theorem tupsOf {H : Hp} {ps : List Pl} {zs : List V} {n : Nat} (hn : n = ps.length) (pr : Paired (fun i y => ∃ p, ps[i]? = some p ∧ ∃ t, y = V.ref t ∧ H t = some (.tup [.int p.1, .int p.2])) ((List.range n).filter fun _ => true) zs) : ∃ ts, zs = ts.map V.ref ∧ TupsAt H ts ps := by
  subst hn
  have h := paired_filter (c := fun _ => true) (R := fun (p : Pl) y => ∃ t, y = V.ref t ∧ H t = some (.tup [.int p.1, .int p.2])) ps (fun _ => true) (fun _ _ _ => rfl) pr
  rw [List.filter_eq_self.mpr fun _ _ => rfl] at h
  exact paired_refs (R := fun (p : Pl) t => H t = some (.tup [.int p.1, .int p.2])) h
theorem eq_of_paired {α β : Type} {f : α → β} : ∀ {l : List α} {r : List β}, Paired (fun x y => y = f x) l r → r = l.map f
  | _, _, .nil => rfl
  | _, _, .cons h k => by rw [h, eq_of_paired k]; rfl
theorem scan_len : ∀ (ds : List Pl) (u : Wd), (scanW u ds).length = ds.length + 1
  | [], _ => rfl
  | _ :: ds, _ => congrArg Nat.succ (scan_len ds _)
theorem PairV.ex {H H' : Hp} {v : V} {o : Option Pl} (e : Ex H H') (h : PairV H v o) : PairV H' v o := by
  cases o with
  | none => exact h
  | some p =>
    obtain ⟨t, h1, h2⟩ := h
    exact ⟨t, h1, e _ _ h2⟩
theorem ne_pair {K : PySem.W.Frag} {H : Hp} {Q : VK} {v1 v2 : V} {o : Option Pl} (h1 : PairV H v1 o) (h2 : PairV H v2 o) (q : Q (.bl false) H) : rNeD K v1 v2 H Q := by
  cases o with
  | none =>
    cases h1
    cases h2
    exact w_neSame .non .non fl_non q
  | some p =>
    obtain ⟨t, rfl, h1⟩ := h1
    obtain ⟨t2, rfl, h2⟩ := h2
    exact w_neSame (.tup (st_of h1) (.cons (.int _) (.cons (.int _) .nil))) (.tup (st_of h2) (.cons (.int _) (.cons (.int _) .nil))) (fl_pair _ _) q
def spAgrees (K : PySem.W.Frag) : Sp := fun vs H Q _ => ∃ (c : Wo) (L : List (Addr × HO)) (ds us : List Pl) (m : Nat), vs = [.ref c.tb, .ref c.z, .ref c.kd, .str (sT c.u0)] ∧ Big K c L ds us ds us m H ∧ m ≤ 1000 ∧ ∀ H', Ex H H' → Q (.bl true) H'
theorem sc_law_agrees : FnScope ["_law_table", "_law_state", "_law_known", "_law_first", "_law_word", "_law_hint_here", "_law_flip", "_law_costs", "_law_one", "_law_at"] ["_law_table", "_law_state", "_law_known", "_law_first"] (defScope (top 67)) := ⟨rfl, rfl, rfl, by decide +kernel, rfl, by decide +kernel, by decide +kernel⟩
theorem ok_law_agrees {P : Program} {w : World} {K : PySem.W.Frag} {mg : Str → Option Value} {base : Heap} (T : Tx P K mg) : Ok P w K mg base 9 (He.ga K "_law_agrees") (spAgrees K) := by
  refine ok_mk T.d_law_agrees sc_law_agrees (fun vs H Q E h => ?len) (fun _ _ _ _ _ _ us hl => match us, hl with | [_, _, _, _], _ => rfl) (fun cdv A outer s H vs Q E hr h => ⟨_, (pss_cons (ps_par (i := 4) (j := 5) (by rfl) sc_law_agrees.nd rfl rfl (by decide) rfl rfl (pa_cons (pe_ix ix_list (pe_ix ix_list (pv 1) pe_int (fun _ _ => rfl)) (pe_un un_neg pe_int) (fun _ _ => rfl)) (pa_cons (pe_me0 T.c_Table T.m_Table_hint (ok_Table_hint T) hr (pv 0)) pa_nil)) (by rfl)) (pss_cons (ps_if (pt_cmpR op_ne (pe_fn (ok_text_of T) hr T.g_text_of (pa_cons (pe_pr T.c_Table T.p_Table_row (ok_Table_row T) hr (pv 0)) pa_nil)) (pv 4) (nomark _)) (pss_one (ps_ret pe_bl)) pss_nil) (pss_cons (ps_if (pt_cmpR (op_neD hr.units) (pe_lc (own := [("_law_flip", 6)]) (by rfl) sc_law_agrees.nd (pi_list (pe_pr T.c_Table T.p_Table_flips (ok_Table_flips T) hr (pv 0))) (blkOk_by (own := [("_law_flip", 6)]) (N := ["_law_table", "_law_state", "_law_known", "_law_first", "_law_word", "_law_hint_here", "_law_flip", "_law_costs", "_law_one", "_law_at"]) (sc := defScope (top 67)) (by decide +kernel)) (fun _ _ _ _ _ => (pg_name (i := 6) sc_law_agrees.nd rfl (Or.inl rfl))) (fun _ _ _ _ _ => pts_nil) (fun _ _ _ _ _ => (pe_tup (pa_cons (pe_pr T.c_Flip T.p_Flip_start (ok_Flip_start T) hr (pv 6)) (pa_cons (pe_pr T.c_Flip T.p_Flip_end (ok_Flip_end T) hr (pv 6)) pa_nil))))) (pe_ix ix_list (pv 1) pe_int (fun _ _ => rfl)) (nomark _)) (pss_one (ps_ret pe_bl)) pss_nil) (pss_cons (ps_if (PW.pt (pw_or (pt_cmpR op_ne (pe_callB (call_ownLen T.m_Table_dlend (ok_Table_dlend T) hr) (by rfl) T.z_len (by decide +kernel) (pa_cons (pv 0) pa_nil)) (pe_callB cq_lenQ (by rfl) T.z_len (by decide +kernel) (pa_cons (pe_ix ix_list (pv 1) pe_int (fun _ _ => rfl)) pa_nil)) (nomark _)) (pw_or1 (pt_cmpR op_ne (pe_me0 T.c_Table T.m_Table_cost (ok_Table_cost T) hr (pv 0)) (pe_dget (hu_of hr) (pv 2) (pv 4) (fun _ _ => rfl)) (nomark _))))) (pss_one (ps_ret pe_bl)) pss_nil) (pss_cons (ps_if (pt_cmpR op_ne (pe_fn (ok_text_of T) hr T.g_text_of (pa_cons (pe_pr T.c_Table T.p_Table_first_row (ok_Table_first_row T) hr (pv 0)) pa_nil)) (pv 3) (nomark _)) (pss_one (ps_ret pe_bl)) pss_nil) (pss_cons (ps_if (pt_cmpR (op_neD hr.units) (pe_ifExp (pt_cmpR oq_isN (pv 5) pe_non (nomark _)) pe_non (pe_tup (pa_cons (pe_pr T.c_Flip T.p_Flip_start (ok_Flip_start T) hr (pv 5)) (pa_cons (pe_pr T.c_Flip T.p_Flip_end (ok_Flip_end T) hr (pv 5)) pa_nil)))) (pe_fn (ok_law_hint T) hr T.g_law_hint (pa_cons (pv 4) (pa_cons (pe_pr T.c_Table T.p_Table_game (ok_Table_game T) hr (pv 0)) (pa_cons (pv 2) pa_nil)))) (nomark _)) (pss_one (ps_ret pe_bl)) pss_nil) (pss_cons (ps_set (i := 7) sc_law_agrees.nd rfl (.inr rfl) (pe_lc (own := [("_law_one", 8)]) (by rfl) sc_law_agrees.nd (pi_list (pe_ix ix_list (pv 1) pe_int (fun _ _ => rfl))) (blkOk_by (own := [("_law_one", 8)]) (N := ["_law_table", "_law_state", "_law_known", "_law_first", "_law_word", "_law_hint_here", "_law_flip", "_law_costs", "_law_one", "_law_at"]) (sc := defScope (top 67)) (by decide +kernel)) (fun _ _ _ _ _ => (pg_name (i := 8) sc_law_agrees.nd rfl (Or.inl rfl))) (fun _ _ _ _ _ => pts_nil) (fun _ _ _ _ _ => (pe_dget (hu_of hr) (pv 2) (pv 8) (fun _ _ => rfl))))) (pss_one (ps_ret (pe_cmpR op_eq (pe_me0 T.c_Table T.m_Table_wasted (ok_Table_wasted T) hr (pv 0)) (pe_callB cq_lenQ (by rfl) T.z_len (by decide +kernel) (pa_cons (pe_lc (own := [("_law_at", 9)]) (by rfl) sc_law_agrees.nd (pi_range2 (by rfl) T.z_range (pa_cons pe_int (pa_cons (pe_callB cq_lenQ (by rfl) T.z_len (by decide +kernel) (pa_cons (pv 7) pa_nil)) pa_nil))) (blkOk_by (own := [("_law_at", 9)]) (N := ["_law_table", "_law_state", "_law_known", "_law_first", "_law_word", "_law_hint_here", "_law_flip", "_law_costs", "_law_one", "_law_at"]) (sc := defScope (top 67)) (by decide +kernel)) (fun _ _ _ _ _ => (pg_name (i := 9) sc_law_agrees.nd rfl (Or.inl rfl))) (fun _ _ _ _ _ => (pts_one (pt_cmpR op_ge (pe_ix (show IxR _ (rIxL K) from ix_list) (pv 7) (pv 9) (fun _ _ => rfl)) (pe_ix (show IxR _ (rIxL K) from ix_list) (pv 7) (pe_op op_sub (pv 9) pe_int) (fun _ _ => rfl)) (nomark _)))) (fun _ _ _ _ _ => (pv 9))) pa_nil)) (nomark _))))))))))), ?body⟩)
  case len => obtain ⟨c, L, ds, us, m, rfl, _⟩ := h; rfl
  case body =>
    obtain ⟨c, L, ds, us, m, rfl, b, zm, q⟩ := h
    have n7 := b.n7
    obtain ⟨wl, dl, ul, dts, uts, W, _⟩ := id b.ex
    obtain ⟨r0, wt, st, r, tdl, tul, dfs, ufs, hT, hB, hS⟩ := b.tabH
    obtain ⟨dx, hT1⟩ := id hT
    have hz := W.hz
    have hw := W.hw
    have hd := W.hd
    have hw2 := hw
    rw [scan_ini] at hw2
    have hsT := hS.tup
    have hdn := hS.don
    walk_at "st"
    refine w_ixL (K := K) (sl_of hw2) (at_last _ _) ?_
    walk_at "go"
    refine ⟨c.tb, r0, wt, st, c.u0, c.g, c.o, r, tdl, tul, endW c.u0 ds, rfl, hT, hB, hsT, hS.row, fun hv H1 e1 hh => ?_⟩
    have dT := hS.dF
    have zfl : dfs.length = ds.length := paired_len dT
    have zdt : dts.length = ds.length := paired_len W.dF
    walk_at "go"
    refine w_prq (e1 _ _ hT1) ?_
    refine ⟨c.tb, r0, wt, st, r, tdl, tul, rfl, hT.ex e1, e1 _ _ hsT, ?_⟩
    walk_at "go"
    refine ⟨r, endW c.u0 ds, rfl, hS.row.ex e1, fun H2 e2 => ?_⟩
    have E2 := e1.trans e2
    walk_at "go"
    rw [decide_eq_true (show S (tx (endW c.u0 ds)) = sT (endW c.u0 ds) from rfl)]
    walk_at "go"
    refine w_prq (E2 _ _ hT1) ?_
    refine ⟨c.tb, r0, wt, st, r, tdl, tul, dfs, rfl, hT.ex E2, E2 _ _ hsT, E2 _ _ hdn, fun fp H3 e3 n3 h3 => ?_⟩
    have E3 := E2.trans e3
    walk_at "go"
    refine w_lcW (walk_list (xs := dfs.map V.ref)) (fun _ => true) (fun i y H' => ∃ p, ds[i]? = some p ∧ ∃ t, y = .ref t ∧ H' t = some (.tup [.int p.1, .int p.2])) (by have := b.z1; rw [List.length_map]; omega) (fun _ _ _ _ y => y.1) (fun _ _ _ _ e ⟨p, hp, f, hv, hf⟩ => ⟨p, hp, f, hv, e _ _ hf⟩)
      (fun _ _ G1 D1 l1 l2 hD ⟨p, hp, f, hv, hf⟩ => ⟨p, hp, f, hv, mu_at (mu_upd (a := D1) (H := G1)) hf (ne_of hf hD (by intro z; cases z))⟩) (fun H' e => sl_of (e _ _ h3)) (fun j y H5 hj e5 hy5 QE k h1 h2 => ?_) (fun D1 H4 zs4 e4 nD1 hD1 pr1 => ?_)
    · replace hy5 := hy5.2
      rw [List.getElem?_map] at hy5
      obtain ⟨f, hf, hxy⟩ := Option.map_eq_some_iff.mp hy5
      subst hxy
      have hjp : j < ds.length := by rw [← zfl]; exact (List.getElem?_eq_some_iff.mp hf).1
      have hp := List.getElem?_eq_getElem hjp
      have hfp := (paired_at dT j f _ hf hp).ex (E3.trans e5)
      walk_at "go"
      refine w_newA (by show (2 : Nat) ≤ sizeLine; decide) fun t H6 e6 n6 h6 => ?_
      exact h1 rfl _ _ e6 ⟨_, hp, t, rfl, h6⟩
    obtain ⟨ts1, rfl, hts1⟩ := tupsOf (by rw [List.length_map, zfl]) pr1
    have E4 := E3.trans e4
    have hz4 := E4 _ _ hz
    have hd4 := E4 _ _ hd
    walk_at "go"
    refine w_neSame (.lst (sl_of hD1) (dpAll_tups hts1)) (.lst (sl_of hd4) (dpAll_tups (W.dF.ex E4))) (fl_pairs ds) ?_
    walk_at "go"
    refine w_tlen (hT.ex E4) (E4 _ _ hsT) (E4 _ _ hdn) (by have := b.z1; omega) ?_
    walk_at "go"
    rw [List.length_map, zfl, zdt, decide_eq_true rfl]
    have hT4 := E4 _ _ hT1
    walk_at "go"
    refine ⟨c.tb, r0, wt, st, c.u0, c.g, c.o, r, tdl, tul, endW c.u0 ds, rfl, hT.ex E4, hB.ex E4, E4 _ _ hsT, hS.row.ex E4, ?_⟩
    walk_at "go"
    refine ⟨c.kd, _, rfl, (b.ext E4).known.get b.endL, ?_⟩
    walk_at "go"
    rw [decide_eq_true rfl]
    walk_at "go"
    refine w_prq hT4 ?_
    refine ⟨c.tb, r0, wt, st, rfl, hT.ex E4, ?_⟩
    walk_at "go"
    refine ⟨r0, c.u0, rfl, hB.row.ex E4, fun H5 e5 => ?_⟩
    have E5 := E4.trans e5
    walk_at "w"
    walk_at "w"
    rw [decide_eq_true (show S (tx c.u0) = sT c.u0 from rfl)]
    with_reducible refine w_bq ?_
    with_reducible refine w_no rfl ?_
    with_reducible refine w_next ?_
    with_reducible refine w_seq ?_
    with_reducible refine w_ifS ?_
    with_reducible refine w_test ?_
    with_reducible refine w_op ?_
    refine w_via (fun v H' => Ex H5 H' ∧ PairV H' v (hintL c.g c.o (endW c.u0 ds))) (fun Q' hQ' => ?_) ?_
    · cases ho : hintL c.g c.o (endW c.u0 ds) with
      | none =>
        rw [ho] at hh hQ'
        cases hh
        walk_at "go"
        exact hQ' _ _ ⟨Ex.refl _, rfl⟩
      | some p =>
        rw [ho] at hh hQ'
        obtain ⟨f, rfl, hf⟩ := hh
        have hf5 := hf.ex ((e2.trans e3).trans (e4.trans e5))
        walk_at "go"
        refine w_newA (by show (2 : Nat) ≤ sizeLine; decide) fun t H6 e6 n6 h6 => ?_
        exact hQ' _ _ ⟨e6, t, rfl, h6⟩
    rintro v H6 ⟨e6, hpv⟩
    have E6 := E5.trans e6
    walk_at "go"
    refine w_prq (E6 _ _ hT1) ?_
    refine ⟨c.tb, r0, wt, st, c.u0, c.g, c.o, rfl, hT.ex E6, hB.ex E6, ?_⟩
    walk_at "go"
    refine ⟨endW c.u0 ds, c.n, c.zz, c.g, c.o, c.kd, rfl, n7, b.endL, (b.ext E6).known, fun v2 H7 e7 hv2 => ?_⟩
    refine ne_pair (hpv.ex e7) hv2 ?_
    have E7 := E6.trans e7
    have hz7 := E7 _ _ hz
    have hw7 := E7 _ _ hw
    walk_at "go"
    refine w_lcW (walk_list (xs := (scanW c.u0 ds).map fun w => V.str (sT w))) (fun _ => true) (fun i y _ => ∃ w, (scanW c.u0 ds)[i]? = some w ∧ y = .int (costW c.g c.o w)) (by have := b.z1; rw [List.length_map, scan_len]; omega) (fun _ _ _ _ y => y.1) (fun _ _ _ _ _ h => h)
      (fun _ _ _ _ _ _ _ h => h) (fun H' e => sl_of (e _ _ hw7)) (fun j y H8 hj e8 hy8 QE k h1 h2 => ?_) (fun D1 H8 zs8 e8 nD1 hD1 pr1 => ?_)
    · replace hy8 := hy8.2
      rw [List.getElem?_map] at hy8
      obtain ⟨w, hw8, hxy⟩ := Option.map_eq_some_iff.mp hy8
      subst hxy
      walk_at "go"
      refine ⟨c.kd, _, rfl, (b.ext (E7.trans e8)).known.get (scan_in n7 ds c.u0 b.cls b.a1 w (List.mem_of_getElem? hw8)), ?_⟩
      exact h1 rfl _ _ (Ex.refl _) ⟨w, hw8, rfl⟩
    have pr2 := paired_filter (c := fun _ => true) (R := fun (w : Wd) y => y = V.int (costW c.g c.o w)) (scanW c.u0 ds) (fun _ => true) (fun _ _ _ => rfl) (by rw [List.length_map] at pr1; exact pr1)
    rw [List.filter_eq_self.mpr fun _ _ => rfl] at pr2
    have ez := eq_of_paired pr2
    subst ez
    have E8 := E7.trans e8
    have hT8 := E8 _ _ hT1
    walk_at "go"
    refine ⟨c.tb, r0, wt, st, c.u0, c.g, c.o, r, tdl, tul, dfs, ds, rfl, hT.ex E8, hB.ex E8, E8 _ _ hsT, E8 _ _ hdn, dT.ex E8, by rw [b.cls.1]; exact b.a1.ok, fun H9 e9 => ?_⟩
    have hD9 := e9 _ _ hD1
    walk_at "go"
    have zc : ((scanW c.u0 ds).map fun w => V.int (costW c.g c.o w)).length = ds.length + 1 := by rw [List.length_map, scan_len]
    have zm1 := b.z1
    rw [zc]
    refine w_lcR2q (by omega) ?_
    rw [show (((ds.length + 1 : Nat) : Int) - 1).toNat = ds.length by omega]
    have get : ∀ i, i < ds.length + 1 → ((scanW c.u0 ds).map fun w => V.int (costW c.g c.o w))[i]? = some (.int (costW c.g c.o ((scanW c.u0 ds).getD i []))) := fun i hi => by
      have h := List.getElem?_eq_getElem (l := scanW c.u0 ds) (i := i) (by rw [scan_len]; omega)
      rw [List.getElem?_map, List.getD_eq_getElem?_getD, h]
      rfl
    refine w_lcW (walk_range (lo := 1) (n := ds.length)) (upB c.g c.o (scanW c.u0 ds)) (fun i y _ => True) (by omega) (fun _ _ _ _ y => y.1) (fun _ _ _ _ _ h => h) (fun _ _ _ _ _ _ _ h => h) (fun _ _ => trivial) (fun j y H10 hj e10 hy10 QE k h1 h2 => ?_) (fun D2 H10 zs10 e10 nD2 hD2 pr3 => ?_)
    · obtain ⟨_, rfl⟩ := hy10
      have hD10 := e10 _ _ hD9
      walk_at "go"
      refine w_ixL (K := K) (sl_of hD10) (at_nat (j := j + 1) (get (j + 1) (by omega)) (by omega)) ?_
      walk_at "go"
      refine w_ixL (K := K) (sl_of hD10) (at_nat (j := j) (get j (by omega)) (by omega)) ?_
      walk_at "go"
      refine w_ite (fun e => ?_) (fun e => ?_)
      · walk_at "go"
        exact h1 e _ _ (Ex.refl _) trivial
      · exact h2 e _ (Ex.refl _)
    walk_at "go"
    rw [← paired_len pr3, waste_count, Int.zero_add, decide_eq_true rfl]
    exact q H10 ((E8.trans e9).trans e10)
end Tcf

set_option Elab.async false
set_option linter.all false
set_option maxRecDepth 100000
set_option maxHeartbeats 4000000
/-! EU: the law itself (printed from EU.tmpl by gen_der.py). -/
namespace Tcf
open PySem PySem.Spec PyProof.Rows L2
open Evl (Ex)
set_option hygiene false in
local macro_rules | `(tactic| walk_at "lkT") => `(tactic| first | (with_reducible exact T.l_GAMES _) | (with_reducible exact T.l_GOALS _))
set_option hygiene false in
local macro_rules | `(tactic| walk_at "isx") => `(tactic| first | (with_reducible exact T.is_Row (by walk_at "lk")) | (with_reducible exact T.is_Flip (by walk_at "lk")) | (with_reducible exact T.is_Table (by walk_at "lk")))
local macro_rules | `(tactic| walk_at "lk") => `(tactic| first
  | assumption
  | walk_at "lkT"
  | ((with_reducible refine' ex_at (by assumption) ?wk); (case wk => walk_at "lk"))
  | ((with_reducible refine' sl_of ?wk); (case wk => walk_at "lk"))
  | ((with_reducible refine' st_of ?wk); (case wk => walk_at "lk"))
  | ((with_reducible refine' ex_l (by assumption) ?wk); (case wk => walk_at "lk"))
  | ((with_reducible refine' ex_t (by assumption) ?wk); (case wk => walk_at "lk"))
  | ((with_reducible refine' mu_at (by assumption) ?wk ?wn); (case wk => walk_at "lk"); (case wn => assumption)))
set_option hygiene false in
local macro_rules | `(tactic| walk_at "sd") => `(tactic| first
  | exact rfl | assumption | (with_reducible exact T.c_Row) | (with_reducible exact T.c_Flip) | (with_reducible exact T.c_Table) | (with_reducible exact T.c_Trial)
  | (with_reducible exact T.n_Row_colour) | (with_reducible exact T.n_Row_sizes) | (with_reducible exact T.n_Flip_begin) | (with_reducible exact T.n_Flip_finish) | (with_reducible exact T.n_Trial_home) | (with_reducible exact T.n_Trial_kept)
  | (with_reducible exact T.n_Table_beginning) | (with_reducible exact T.n_Table_words) | (with_reducible exact T.n_Table_state))
local macro_rules | `(tactic| walk_at "w") => `(tactic| first
  | (with_reducible refine w_seq ?_) | (with_reducible refine w_asg ?_) | (with_reducible refine w_gName ?_) | (with_reducible refine w_ret ?_) | (with_reducible refine w_ifS ?_) | (with_reducible refine w_drop ?_) | (with_reducible refine w_next ?_)
  | ((with_reducible refine' w_aug ?wh ?_); (case wh => exact rfl)) | (with_reducible refine w_match ?_) | (with_reducible refine w_case ?_)
  | ((with_reducible refine' w_var ?wh ?_); (case wh => exact rfl))
  | (with_reducible refine w_c ?_) | (with_reducible refine w_op ?_) | (with_reducible refine w_un ?_) | (with_reducible refine w_nil ?_) | (with_reducible refine w_cons ?_) | (with_reducible refine w_star ?_) | (with_reducible refine w_tup ?_) | (with_reducible refine w_lst ?_)
  | (with_reducible refine w_if ?_) | (with_reducible refine w_and ?_) | (with_reducible refine w_or ?_) | (with_reducible refine w_not ?_) | (with_reducible refine w_bq ?_) | (with_reducible refine w_B ?_) | (with_reducible refine w_test ?_) | (with_reducible refine w_andV ?_) | (with_reducible refine w_orV ?_) | (with_reducible refine w_notV ?_)
  | (with_reducible refine w_chain ?_) | (with_reducible refine w_rI0 ?_) | (with_reducible refine w_rU ?_) | (with_reducible refine w_ipI ?_)
  | (with_reducible refine w_eqI ?_) | (with_reducible refine w_neI ?_) | (with_reducible refine w_eqS ?_) | (with_reducible refine w_neS ?_) | (with_reducible refine w_eqB ?_) | (with_reducible refine w_neB ?_) | (with_reducible refine w_isNr ?_) | (with_reducible refine w_isNn ?_)
  | (with_reducible refine w_sl ?_) | (with_reducible refine w_noPart ?_) | (with_reducible refine w_part ?_) | (with_reducible refine w_pq ?_) | (with_reducible refine w_revL ?_) | (with_reducible refine w_revS ?_)
  | (with_reducible refine w_cb ?_) | (with_reducible refine w_min2 ?_) | (with_reducible refine w_max2 ?_) | (with_reducible refine w_intB ?_)
  | (with_reducible refine w_fn ?_) | (with_reducible refine w_me ?_) | (with_reducible refine w_pr ?_) | (with_reducible refine w_mk ?_) | (with_reducible refine w_fld ?_)
  | (with_reducible refine w_isi_ii ?_) | (with_reducible refine w_isi_ib ?_) | (with_reducible refine w_isi_ss ?_)
  | ((with_reducible refine' w_isi_ll ?wh ?_); (case wh => walk_at "lk"))
  | ((with_reducible refine' w_isi_own ?wh ?wq); (case wh => walk_at "isx"))
  | ((with_reducible refine' w_lenL ?wh ?_); (case wh => walk_at "lk")) | ((with_reducible refine' w_ixL ?wh ?wi ?_); (case wh => walk_at "lk"); (case wi => first | assumption | exact rfl)) | ((with_reducible refine' w_ixT ?wh ?wi ?_); (case wh => walk_at "lk"); (case wi => first | assumption | exact rfl))
  | ((with_reducible refine' w_slL ?wh ?_); (case wh => walk_at "lk")) | ((with_reducible refine' w_rvq ?wh ?_); (case wh => walk_at "lk")) | ((with_reducible refine' w_listO ?wh ?_); (case wh => walk_at "lk")) | ((with_reducible refine' w_starL ?wh ?_); (case wh => walk_at "lk"))
  | ((with_reducible refine' w_fq ?wh ?wc ?wn ?wl ?_); (case wh => walk_at "lk"); (case wc => walk_at "sd"); (case wn => walk_at "sd"); (case wl => exact rfl))
  | ((with_reducible refine' w_sum ?wh ?_); (case wh => walk_at "lk"))
  | ((with_reducible refine' w_all ?wh ?_); (case wh => walk_at "lk"))
  | (with_reducible refine w_forL ?_) | ((with_reducible refine' w_forLq ?wh ?_); (case wh => walk_at "lk")) | (with_reducible refine w_forS ?_) | (with_reducible refine w_forSq ?_) | (with_reducible refine w_forR1 ?_) | ((with_reducible refine' w_forR1q ?wh ?_); (case wh => omega)) | (with_reducible refine w_forR2 ?_) | ((with_reducible refine' w_forR2q ?wh ?_); (case wh => omega)) | (with_reducible refine w_forE ?_) | ((with_reducible refine' w_forEq ?wh ?_); (case wh => walk_at "lk"))
  | (with_reducible refine w_lcL ?_) | ((with_reducible refine' w_lcLq ?wh ?_); (case wh => walk_at "lk")) | (with_reducible refine w_lcS ?_) | (with_reducible refine w_lcSq ?_) | (with_reducible refine w_lcR2 ?_) | ((with_reducible refine' w_lcR2q ?wh ?_); (case wh => omega))
  | (with_reducible refine w_bm ?_) | ((with_reducible refine' w_bmq ?wh ?_); (case wh => walk_at "lk")) | (with_reducible refine w_bm0 ?_) | ((with_reducible refine' w_bm0q ?wh ?_); (case wh => walk_at "lk"))
  | ((with_reducible refine' w_getL ?wh ?wi ?_); (case wh => walk_at "lk"); (case wi => first | assumption | exact rfl)) | (with_reducible refine w_gSub ?_) | (with_reducible refine w_augS ?_)
  | ((with_reducible refine' w_gTup ?wh ?wl ?_); (case wh => walk_at "lk"); (case wl => exact rfl)) | (with_reducible refine w_gCons ?_) | (with_reducible refine w_gNil ?_)
  | (with_reducible refine w_parT ?_) | (with_reducible refine w_parq ?_) | (with_reducible refine w_par3T ?_) | (with_reducible refine w_par3q ?_) | (with_reducible refine w_sfld ?_) | (with_reducible refine w_ob ?_) | (with_reducible refine w_obq ?_)
  | ((with_reducible refine' w_sfq ?wh ?wc ?wn ?wl ?wq); (case wh => walk_at "lk"); (case wc => walk_at "sd"); (case wn => walk_at "sd"); (case wl => exact Nat.le_of_ble_eq_true rfl))
  | ((with_reducible refine' w_rI ?wh ?wq); (case wh => first | decide | exact ⟨by decide, by decide⟩)) | (with_reducible refine w_pairsC ?_) | (with_reducible refine w_pairsN ?_) | ((with_reducible refine' w_cat ?wh ?wk ?wl ?wq); (case wh => walk_at "lk"); (case wk => walk_at "lk"); (case wl => walk_at "sz"))
  | ((with_reducible refine' w_mqRow ?wh ?wl ?wk ?wq); (case wh => walk_at "rw"); (case wl => exact rfl); (case wk => exact rfl))
  | ((with_reducible refine' w_mq ?wh ?wl ?wq); (case wh => walk_at "lk"); (case wl => exact rfl))
  | ((with_reducible refine' w_wipe ?wh ?wq); (case wh => exact rfl)) | (with_reducible refine w_yesT ?_)
  | (with_reducible refine w_isNumber ?_) | (with_reducible refine w_isCount ?_) | (with_reducible refine w_isColour ?_) | (with_reducible refine w_checkGame ?_) | (with_reducible refine w_checkGoal ?_) | (with_reducible refine w_checkWords ?_)
  | (with_reducible refine iteT ?_) | (with_reducible refine iteF ?_) | ((with_reducible refine' w_yes ?wh ?_); (case wh => exact rfl)) | ((with_reducible refine' w_no ?wh ?_); (case wh => exact rfl)))
local macro_rules | `(tactic| walk_at "sz") => `(tactic| first | (refine sz_le ?_; first | assumption | (simp only [List.length_map, List.length_append, List.length_cons, List.length_nil]; omega) | omega) | (refine sz_lt ?_; first | assumption | (simp only [List.length_map, List.length_append, List.length_cons, List.length_nil]; omega) | omega))
local macro_rules | `(tactic| walk_at "go") => `(tactic| repeat (walk_at "w"))
local macro_rules | `(tactic| walk_at "bt") => `(tactic| first | exact rfl | assumption | (simp [*]; done) | (simp; omega) | (simp [*]; omega))
local macro_rules | `(tactic| walk_at "yes") => `(tactic| ((with_reducible refine' w_yes ?wh ?wq); (case wh => walk_at "bt"); walk_at "go"))
local macro_rules | `(tactic| walk_at "no") => `(tactic| ((with_reducible refine' w_no ?wh ?wq); (case wh => walk_at "bt"); walk_at "go"))
local macro_rules | `(tactic| walk_at "st") => `(tactic| ((try dsimp only [L2.cxOf, L2.Cx.nox, L2.Cx.wish]); walk_at "go"))
local macro_rules | `(tactic| walk_at "rw") => `(tactic| first | assumption | ((with_reducible refine' IsRow.rw ?wk); (case wk => walk_at "rw")) | ((with_reducible refine' IsRw.ex (by assumption) ?wk); (case wk => walk_at "rw")) | ((with_reducible refine' IsRow.ex (by assumption) ?wk); (case wk => walk_at "rw")))
local macro_rules | `(tactic| walk_at "ro") => `(tactic| first | assumption | ((with_reducible refine' IsRow.ex (by assumption) ?wk); (case wk => walk_at "ro")))
local macro_rules | `(tactic| walk_at "fl") => `(tactic| first | assumption | ((with_reducible refine' IsFlip.ex (by assumption) ?wk); (case wk => walk_at "fl")))
local macro_rules | `(tactic| walk_at "w") => `(tactic| first
  | ((with_reducible refine' w_first ?wh ?wq); (case wh => walk_at "rw")) | ((with_reducible refine' w_runs ?wh ?wq); (case wh => walk_at "rw")) | ((with_reducible refine' w_length ?wh ?wq); (case wh => walk_at "rw")) | ((with_reducible refine' w_lengths ?wh ?wq); (case wh => walk_at "rw")))
local macro_rules | `(tactic| walk_at "w") => `(tactic| first
  | ((with_reducible refine' w_start ?wh ?wq); (case wh => walk_at "fl")) | ((with_reducible refine' w_end ?wh ?wq); (case wh => walk_at "fl")))
local macro_rules | `(tactic| walk_at "w") => `(tactic| first | (with_reducible refine w_dget ?_))
theorem tabEq_lk {P : Program} {K : PySem.W.Frag} {mg : Str → Option Value} (T : Tx P K mg) : ∃ o, K.lookup (He.ma K (He.ga K "Table") "__eq__") = some o := by
  obtain ⟨fd, F⟩ := T.d_Table_deqd
  obtain ⟨oc, od, kV, doc, pm, an, cdv, ct, osl, _, lk, _⟩ := F.ex
  exact ⟨_, lk⟩
theorem fn_mkC {P : Program} {w : World} {K : PySem.W.Frag} {mg : Str → Option Value} {base : Heap} {x : Str} {st : Stmt} {fd : FuncData} {N ps : List Str} {k : Nat} {sp : Sp} (F : Fun K x x st (He.ga K x) fd) (S : FnScope N ps (defScope st)) (len : ∀ vs H Q E, sp vs H Q E → vs.length = ps.length)
    (hbody : ∀ (A : Around) (outer : List Env) (s : Shared) (H : Hp) (vs : List V) (Q : VK) (E : XK), Room k (A.deeper (envOfC x (defScope st) s.heap.objs.size (He.ga K x) (.ref (He.cT K (x, none)).1))) → sp vs H Q E →
      ∃ t, PSs (cxOf CX0 P w K mg base N x (defScope st) (He.ga K x) (.ref (He.cT K (x, none)).1) A outer s H E).nox (defBody st) t ∧ t { nx := fun _ H' => Q .non H', rt := Q } (start N vs) H) : FnOk P w K mg base (L2.CX P w) (k + 1) (He.ga K x) fd ps sp := by
  obtain ⟨oc, od, kV, doc, pm, an, cdv, ct, osl, e, lk, hcd⟩ := F.ex
  subst e
  obtain ⟨c, hc⟩ := He.codeIn_ref hcd
  have e2 : (He.cT K (x, none)).1 = c := He.codeOf_eq (p := (x, none)) lk hc
  rw [e2] at hbody
  refine cx0_up (fn_of lk hcd S len fun A outer s H vs Q E hr hsp => ?_)
  rw [hc] at hr ⊢
  obtain ⟨t, h, q⟩ := hbody A outer s H vs Q E hr hsp
  exact ⟨t, h.nox, q⟩
theorem join_ex {S : List Addr} {H G : Hp} (hG : ∀ l ∈ S, G l = none) : Ex G (joinH S H G) := fun a o h => by
  rw [join_out fun m => by rw [hG a m] at h; cases h]
  exact h
theorem join_cut {S : List Addr} {H : Hp} : joinH S H (cutH S H) = H := funext fun a => by
  by_cases m : a ∈ S
  · rw [join_in m]
  · rw [join_out m, cut_out m]
theorem cut_join {S : List Addr} {H G : Hp} (hG : ∀ l ∈ S, G l = none) : cutH S (joinH S H G) = G := funext fun a => by
  by_cases m : a ∈ S
  · rw [cut_in m, hG a m]
  · rw [cut_out m, join_out m]
theorem cut_nil {H : Hp} : cutH [] H = H := funext fun a => cut_out (by simp)
theorem join_nil {H G : Hp} : joinH [] H G = G := funext fun a => join_out (by simp)
theorem frx_nil {sp : Sp} {vs : List V} {H : Hp} {Q : VK} {E : XK} (h : sp vs H (fun v G => (∀ l ∈ ([] : List Addr), G l = none) → Q v G) (fun C d G => (∀ l ∈ ([] : List Addr), G l = none) → E C d G)) : Frx sp vs H Q E := by
  refine ⟨[], fun l m => (List.not_mem_nil m).elim, ?_⟩
  simp only [cut_nil, join_nil]
  exact h
theorem tabs_cut {S : List Addr} {T : List (Addr × Str)} {H : Hp} (l : Lsts S H) (t : LamX.Tabs T H) : LamX.Tabs T (cutH S H) := fun p hp => by
  obtain ⟨ps, h1, h2, h3⟩ := t p hp
  refine ⟨ps, by rw [cut_out (lsts_at l h1 fun _ z => by cases z)]; exact h1, h2, fun pos cv hc => ?_⟩
  obtain ⟨c, e1, e2⟩ := h3 pos cv hc
  exact ⟨c, e1, by rw [cut_out (lsts_at l e2 fun _ z => CodeO_nl z)]; exact e2⟩
/-- Table(r0, g, o), lists left alone -/
theorem w_mkTabF {K : PySem.W.Frag} {H : Hp} {Q : VK} {E : XK} {S : List Addr} {r0 : Addr} {u0 : Wd} {g : Gm} {o : Go} (l : Lsts S H) (hr0 : IsRow K (cutH S H) r0 u0)
    (q : ∀ t wt st dl ul G, Ex (cutH S H) G → (∀ l ∈ S, G l = none) → TabO K G t r0 wt st → BgAt K G r0 wt u0 g o → StAt K G st r0 dl ul [] [] u0 [] [] → Q (.ref t) (joinH S H G)) : MkQ (He.ga K "Table") (Frx (spTabInit K)) E [.ref r0, .str g.s, .str o.s] Q H := by
  intro x dx nx ndx ne
  have n1 := lsts_no l nx
  have n2 := lsts_no l ndx
  have at_ : ∀ a ∈ S, upd (upd H dx (.own x)) x (.ins (He.ga K "Table") dx []) a = H a := fun a ha => by
    rw [upd_ne (fun (z : a = x) => n1 (z ▸ ha)), upd_ne (fun (z : a = dx) => n2 (z ▸ ha))]
  have l1 : Lsts S (upd (upd H dx (.own x)) x (.ins (He.ga K "Table") dx [])) := fun a ha => by
    rw [at_ a ha]
    exact l a ha
  have eH : Ex H (upd (upd H dx (.own x)) x (.ins (He.ga K "Table") dx [])) := (Ex.new ndx).trans (Ex.new (by rw [upd_ne (Ne.symm ne)]; exact nx))
  have e0 := cut_ex (S := S) eH
  refine ⟨S, l1, x, dx, r0, u0, g, o, rfl, by rw [cut_out n1]; exact upd_same, hr0.ex e0, fun H' wt st dl ul m h1 h2 hG => ⟨rfl, ?_⟩⟩
  obtain ⟨h3, h4⟩ := h2 (cutH S H) e0 (cut_none nx) hr0
  have ej : joinH S (upd (upd H dx (.own x)) x (.ins (He.ga K "Table") dx [])) H' = joinH S H H' := funext fun a => by
    by_cases ha : a ∈ S
    · rw [join_in ha, join_in ha, at_ a ha]
    · rw [join_out ha, join_out ha]
  rw [ej]
  exact q x wt st dl ul H' (m _ e0 (cut_none nx)) hG h1 h3 h4
def Wo.at (c : Wo) (tb : Addr) : Wo := { c with tb := tb }
/-- a clone: a second table beside the first -/
theorem b_clone {K : PySem.W.Frag} {c : Wo} {L : List (Addr × HO)} {ds us : List Pl} {m : Nat} {H : Hp} {Q : VK} {E : XK} (b : Big K c L ds us ds us m H)
    (q : ∀ t H', Big K c L ds us ds us m H' → Big K (c.at t) L ds us ds us m H' → (∃ r0 wt wt2 st r tdl tul dfs, TabO K H' c.tb r0 wt st ∧ TabO K H' t r0 wt2 st ∧ BgAt K H' r0 wt c.u0 c.g c.o ∧ BgAt K H' r0 wt2 c.u0 c.g c.o ∧ H' st = some (.tup [.ref r, .ref tdl, .ref tul]) ∧ H' tdl = some (.lst (List.map V.ref dfs)) ∧ dfs.length = ds.length) → Q (.ref t) H') :
    Frx (spClone K) [.ref c.tb] H Q E := by
  obtain ⟨wl, dl, ul, dts, uts, W, G⟩ := id b.ex
  obtain ⟨⟨r0, wt, st, r, tdl, tul, dfs, ufs, h1, h2, h3⟩, h4, h5⟩ := id G
  refine ⟨[c.s, c.z, wl, dl, ul], lists_of W b.stm, c.tb, r0, wt, st, c.u0, c.g, c.o, rfl, h1, h2, ⟨_, h3.tup⟩, fun t wt2 G' e' nt k1 k2 hG => ?_⟩
  have b' := b.table W (Mu.ofEx e') hG (G.ex e').1 b.a3 b.a4 (Nat.le_refl _) b.z3 b.z4
  have j := join_ex (H := H) hG
  obtain ⟨⟨wl', dl', ul', dts', uts', W', G2⟩, x1, x2, x3, x4, x5, x6, x7, x8, x9, x10, x11, x12⟩ := id b'
  have ew := W'.hz.symm.trans ((join_in (G := G') (show c.z ∈ [c.s, c.z, wl, dl, ul] by simp)).trans W.hz)
  simp only [Option.some.injEq, HO.lst.injEq, List.cons.injEq, V.ref.injEq, and_true] at ew
  obtain ⟨rfl, rfl, rfl⟩ := ew
  rw [cut_join hG] at G2
  refine q t _ b' ⟨⟨wl', dl', ul', dts', uts', W', ?_⟩, x1, x2, x3, x4, x5, x6, x7, x8, x9, x10, x11, x12⟩ ⟨r0, wt, wt2, st, r, tdl, tul, dfs, (h1.ex e').ex j, k1.ex j, (h2.ex e').ex j, k2.ex j, j _ _ (e' _ _ h3.tup), j _ _ (e' _ _ h3.don), paired_len h3.dF⟩
  show InG K (c.at t) L ds us (cutH [c.s, c.z, wl', dl', ul'] _)
  rw [cut_join hG]
  exact ⟨⟨r0, wt2, st, r, tdl, tul, dfs, ufs, k1, k2, h3.ex e'⟩, G2.2.1, G2.2.2⟩
theorem count0 (w : Wd) (h : w.length ≤ 7) : Txt.count (sT w) "0" = zer w := by
  have := all7 (p := fun w => decide (Txt.count (sT w) "0" = zer w)) (by decide +kernel) w h
  simpa using this
section
variable {σ : L2.St} {H : Hp} {Q : VK} {z w : Str}
def M1Q (r : V → List V → Hp → VK → Prop) (te : TE) (σ : L2.St) (Q : VK) : VK := fun x H1 => (∃ a, x = .str a) ∧ te σ H1 fun y H2 => r x [y] H2 Q
theorem w_m1 {r : V → List V → Hp → VK → Prop} {to te : TE} (q : to σ H (M1Q r te σ Q)) : tM1 r to te σ H Q := q
theorem w_m1q {r : V → List V → Hp → VK → Prop} {te : TE} (q : te σ H fun y H2 => r (.str z) [y] H2 Q) : M1Q r te σ Q (.str z) H := ⟨⟨z, rfl⟩, q⟩
theorem w_cnt (q : Q (.int (Txt.count z w)) H) : rCountS (.str z) [.str w] H Q := ⟨z, w, rfl, rfl, q⟩
end
/-- the script stays -/
def spLaw (K : PySem.W.Frag) : Sp := fun vs H Q _ => ∃ (a : Addr) (ns : List Int), vs = [.ref a] ∧ SqL K H a (ns.map V.int) ∧ ns.length ≤ 63 ∧ LamX.Tabs (lamT K) H ∧ ∀ H', Q (.bl true) H'
theorem sc_law : FnScope ["_law_script", "_law_k", "_law_stream_here", "_law_word", "_law_game", "_law_goal", "_law_words_here", "_law_one", "_law_known", "_law_state", "_law_table", "_law_turn_here", "_law_told", "_law_due", "_law_other"] ["_law_script"] (defScope (top 68)) := ⟨rfl, rfl, rfl, by decide +kernel, rfl, by decide +kernel, by decide +kernel⟩
theorem fn_law {P : Program} {w : World} {K : PySem.W.Frag} {mg : Str → Option Value} {base : Heap} (T : Tx P K mg) (TB : ∀ p ∈ tf, LamX.TabB base mg (He.cT K p).1 (He.cT K p).2) {fd : FuncData} (F : Fun K "law" "law" (top 68) (He.ga K "law") fd) : FnOk P w K mg base (L2.CX P w) 15 (He.ga K "law") fd ["_law_script"] (spLaw K) := by
  refine fn_mkC F sc_law (fun vs H Q E h => ?len) (fun A outer s H vs Q E hr h => ⟨_, (pss_cons (ps_for PassesOwn.never rfl (pi_range1 (by rfl) T.z_range (pa_cons (pe_callB (cq_max2 rfl) (by rfl) T.z_max (by decide +kernel) (pa_cons pe_int (pa_cons (pe_callB (cq_min2 rfl) (by rfl) T.z_min (by decide +kernel) (pa_cons pe_int (pa_cons (pe_callB cq_lenQ (by rfl) T.z_len (by decide +kernel) (pa_cons (pv 0) pa_nil)) pa_nil))) pa_nil))) pa_nil)) (pg_name (i := 1) sc_law.nd rfl (Or.inl rfl)) (pss_cons (ps_set (i := 2) sc_law.nd rfl (.inl rfl) (pe_fn (ok_law_stream T) hr T.g_law_stream (pa_cons (pv 0) (pa_cons (pv 1) pa_nil)))) (pss_cons (ps_asg (pe_tup (pa_cons (pe_fn (ok_law_text T) hr T.g_law_text (pa_cons (pv 2) (pa_cons pe_int pa_nil))) (pa_cons (pe_ix ix_list (pe_lst (pa_cons pe_str (pa_cons pe_str (pa_cons pe_str pa_nil)))) (pe_fn (ok_law_draw T) hr T.g_law_draw (pa_cons (pv 2) (pa_cons pe_int pa_nil))) (fun _ _ => rfl)) pa_nil))) (pg_tup rfl (pgs_cons (pg_name (i := 3) sc_law.nd rfl (Or.inr rfl)) (pgs_cons (pg_name (i := 4) sc_law.nd rfl (Or.inl rfl)) pgs_nil)))) (pss_cons (ps_set (i := 5) sc_law.nd rfl (.inl rfl) (pe_ix ix_list (pe_lst (pa_cons pe_str (pa_cons pe_str pa_nil))) (pe_fn (ok_law_draw T) hr T.g_law_draw (pa_cons (pv 2) (pa_cons pe_int pa_nil))) (fun _ _ => rfl))) (pss_cons (ps_setLc (i := 6) (own := [("_law_one", 7)]) (by rfl) sc_law.nd rfl rfl (sw_true rfl rfl rfl (by decide +kernel)) (pi_list (pe_fn (ok_law_words T) hr T.g_law_words (pa_cons (pe_callB cq_lenT (by rfl) T.z_len (by decide +kernel) (pa_cons (pv 3) pa_nil)) pa_nil))) (blkOk_by (own := [("_law_one", 7)]) (N := ["_law_script", "_law_k", "_law_stream_here", "_law_word", "_law_game", "_law_goal", "_law_words_here", "_law_one", "_law_known", "_law_state", "_law_table", "_law_turn_here", "_law_told", "_law_due", "_law_other"]) (sc := defScope (top 68)) (by decide +kernel)) (fun _ _ _ _ _ => (pg_name (i := 7) sc_law.nd rfl (Or.inl rfl))) (fun _ _ _ _ _ => (pts_one (pt_cmpR op_eq (pe_m1 PySem.F.slot_str_count PySem.F.type_str_count mq_count (pv 7) pe_str) (pe_m1 PySem.F.slot_str_count PySem.F.type_str_count mq_count (pv 3) pe_str) (nomark _)))) (fun _ _ _ _ _ => (pv 7))) (pss_cons (ps_par (i := 8) (j := 9) (by rfl) sc_law.nd rfl rfl (by decide) rfl rfl (pa_cons (pe_fn (ok_law_levels T) hr T.g_law_levels (pa_cons (pv 6) (pa_cons (pv 4) (pa_cons (pv 5) pa_nil)))) (pa_cons (pe_lst (pa_cons (pe_lst (pa_cons (pv 3) pa_nil)) (pa_cons (pe_lst pa_nil) (pa_cons (pe_lst pa_nil) pa_nil)))) pa_nil)) (by rfl)) (pss_cons (ps_set (i := 10) sc_law.nd rfl (.inl rfl) (pe_new T.k_Table (ok_Table_dinitd T).frm hr T.gc_Table (pa_cons (pe_fn (ok_row_of T).frm hr T.g_row_of (pa_cons (pv 3) pa_nil)) (pa_cons (pv 4) (pa_cons (pv 5) pa_nil))))) (pss_one (ps_for PassesOwn.never rfl (pi_range1 (by rfl) T.z_range (pa_cons pe_int pa_nil)) (pg_name (i := 11) sc_law.nd rfl (Or.inl rfl)) (pss_cons (ps_asg (pe_fn (ok_law_pair T TB) hr T.g_law_pair (pa_cons (pv 2) (pa_cons (pv 10) (pa_cons (pv 9) (pa_cons (pv 8) pa_nil))))) (pg_lst rfl (pgs_cons (pg_name (i := 12) sc_law.nd rfl (Or.inl rfl)) (pgs_cons (pg_name (i := 13) sc_law.nd rfl (Or.inl rfl)) pgs_nil)))) (pss_cons (ps_if (PW.pt (pw_or (pt_cmpR (op_neD hr.units) (pv 12) (pv 13) (nomark _)) (pw_or1 (pt_not (pt_val (pe_fn (ok_law_agrees T) hr T.g_law_agrees (pa_cons (pv 10) (pa_cons (pv 9) (pa_cons (pv 8) (pa_cons (pv 3) pa_nil)))))))))) (pss_one (ps_ret pe_bl)) pss_nil) (pss_cons (ps_set (i := 14) sc_law.nd rfl (.inl rfl) (pe_me0 T.c_Table T.m_Table_clone (ok_Table_clone T).frm hr (pv 10))) (pss_cons (ps_if (pt_cmpR (op_ownNe T.nq_Table T.m_Table_deqd (tabEq_lk T) (ok_Table_deqd T) hr) (pv 14) (pv 10) (nomark _)) (pss_one (ps_ret pe_bl)) pss_nil) (pss_cons (ps_if (pt_cmpR op_ne (pe_cmpR (op_ownEq T.m_Table_deqd (ok_Table_deqd T) hr) (pe_new T.k_Table (ok_Table_dinitd T).frm hr T.gc_Table (pa_cons (pe_fn (ok_row_of T).frm hr T.g_row_of (pa_cons (pv 3) pa_nil)) (pa_cons (pv 4) (pa_cons (pv 5) pa_nil)))) (pv 10) (nomark _)) (pe_cmpR (op_eqD hr.units) (pe_ix ix_list (pv 9) pe_int (fun _ _ => rfl)) (pe_lst pa_nil) (nomark _)) (nomark _)) (pss_one (ps_ret pe_bl)) pss_nil) (pss_one (ps_if (pt_cmpR op_eq (pe_fn (ok_law_draw T) hr T.g_law_draw (pa_cons (pv 2) (pa_cons pe_int pa_nil))) pe_int (nomark _)) (pss_one (ps_set (i := 10) sc_law.nd rfl (.inl rfl) (pv 14))) pss_nil)))))))))))))))) (pss_one (ps_ret pe_bl))), ?body⟩)
  case len => obtain ⟨a, ns, rfl, _⟩ := h; rfl
  case body =>
    obtain ⟨a, ns, rfl, ha, zn, hT, q⟩ := h
    obtain ⟨La, hLa, kLa⟩ : ∃ La : List (Addr × HO), (∀ x ∈ La, H x.1 = some x.2 ∧ Lt x.2) ∧ ∀ H', (∀ x ∈ La, H' x.1 = some x.2) → SqL K H' a (ns.map V.int) := by
      rcases ha with (h | ⟨o, h⟩) | h
      · exact ⟨[(a, .lst (ns.map V.int))], fun x hx => by rw [List.mem_singleton.mp hx]; exact ⟨h, .inl ⟨_, rfl⟩⟩, fun H' hH => .inl (.inl (hH _ List.mem_cons_self))⟩
      · exact ⟨[(a, .frz o (.lst (ns.map V.int)))], fun x hx => by rw [List.mem_singleton.mp hx]; exact ⟨h, .inr (.inr ⟨_, _, rfl⟩)⟩, fun H' hH => .inl (.inr ⟨o, hH _ List.mem_cons_self⟩)⟩
      · exact ⟨[], fun x hx => (List.not_mem_nil hx).elim, fun H' _ => .inr h⟩
    walk_at "st"
    generalize hN : ((if (if ((ns.map V.int).length : Int) < 3 then ((ns.map V.int).length : Int) else 3) > 1 then (if ((ns.map V.int).length : Int) < 3 then ((ns.map V.int).length : Int) else 3) else 1)).toNat = N
    have hN3 : N ≤ 3 := by
      rw [← hN]
      split
      · split <;> omega
      · decide
    refine w_forW (walk_range (lo := 0) (n := N)) (fun i σ' H' => σ'.length = 15 ∧ σ'[0]? = some (some (.ref a)) ∧ LamX.Tabs (lamT K) H' ∧ ∀ x ∈ La, H' x.1 = some x.2 ∧ Lt x.2) ?i0 ?iG ?is ?id
    case i0 => exact ⟨rfl, rfl, hT, hLa⟩
    case iG => exact fun _ _ _ _ _ => trivial
    case is =>
      rintro i x σ' H' H'' hi ⟨hl, h0, hT, hLa⟩ ⟨rfl, rfl⟩
      obtain ⟨y0, y1, y2, y3, y4, y5, y6, y7, y8, y9, y10, y11, y12, y13, y14, rfl⟩ : ∃ y0 y1 y2 y3 y4 y5 y6 y7 y8 y9 y10 y11 y12 y13 y14, σ' = [y0, y1, y2, y3, y4, y5, y6, y7, y8, y9, y10, y11, y12, y13, y14] := by
        match σ', hl with
        | [y0, y1, y2, y3, y4, y5, y6, y7, y8, y9, y10, y11, y12, y13, y14], _ => exact ⟨_, _, _, _, _, _, _, _, _, _, _, _, _, _, _, rfl⟩
      cases h0
      clear hl
      walk_at "go"
      refine ⟨a, ns, 0 + (i : Int), rfl, kLa _ (fun x hx => (hLa x hx).1), by omega, by omega, fun s1 H1 e1 nS hs1 => ?_⟩
      walk_at "go"
      refine ⟨s1, rfl, hs1, fun u H2 m2 hs2 zu => ?_⟩
      have E2 : Ex H'' H2 := m2 H'' e1 nS
      walk_at "go"
      refine w_newA (by show (3 : Nat) ≤ sizeLine; decide) fun l3 H3 e3 n3 h3 => ?_
      walk_at "go"
      refine ⟨s1, 3, rfl, hs2.ex e3, by decide, by decide, fun r3 H4 m4 hs4 hr3 => ?_⟩
      have E4 : Ex H'' H4 := m4 H'' (E2.trans e3) nS
      have ne3 : l3 ≠ s1 := fun z => by
        obtain ⟨x, y, h, _⟩ := hs2
        rw [z, h] at n3
        cases n3
      obtain ⟨g, hg⟩ : ∃ g : Gm, ([.str "front", .str "ends", .str "parts"] : List V)[r3]? = some (.str g.s) := by
        obtain h | h | h : r3 = 0 ∨ r3 = 1 ∨ r3 = 2 := by omega
        · exact ⟨.front, by rw [h]; rfl⟩
        · exact ⟨.ends, by rw [h]; rfl⟩
        · exact ⟨.parts, by rw [h]; rfl⟩
      refine w_ixL (K := K) (sl_of (mu_at m4 h3 ne3)) (at_nat hg rfl) ?_
      walk_at "go"
      refine w_newA (by show (2 : Nat) ≤ sizeLine; decide) fun t5 H5 e5 n5 h5 => ?_
      walk_at "go"
      refine w_newA (by show (2 : Nat) ≤ sizeLine; decide) fun l6 H6 e6 n6 h6 => ?_
      walk_at "go"
      have hs6 := (hs4.ex e5).ex e6
      refine ⟨s1, 2, rfl, hs6, by decide, by decide, fun r6 H7 m7 hs7 hr6 => ?_⟩
      have E7 : Ex H'' H7 := m7 H'' ((E4.trans e5).trans e6) nS
      have ne6 : l6 ≠ s1 := fun z => by
        obtain ⟨x, y, h, _⟩ := hs4.ex e5
        rw [z, h] at n6
        cases n6
      obtain ⟨o, ho⟩ : ∃ o : Go, ([.str "grouped", .str "sorted"] : List V)[r6]? = some (.str o.s) := by
        obtain h | h : r6 = 0 ∨ r6 = 1 := by omega
        · exact ⟨.grouped, by rw [h]; rfl⟩
        · exact ⟨.sorted, by rw [h]; rfl⟩
      refine w_ixL (K := K) (sl_of (mu_at m7 h6 ne6)) (at_nat ho rfl) ?_
      have zsu : (sT u).length = u.length := tx_len u
      walk_at "go"
      refine w_lenS (sz_le (by omega)) ?_
      rw [zsu]
      walk_at "go"
      refine ⟨u.length, rfl, zu, fun wp H8 e8 n8 h8 => ?_⟩
      walk_at "go"
      have zw : (wordsL u.length).length ≤ 128 := by
        rw [wordsL_len]
        exact Nat.le_trans (Nat.pow_le_pow_right (by decide) zu) (by decide)
      refine w_lcW (walk_list (xs := (wordsL u.length).map fun w => V.str (sT w))) (fun i => ((wordsL u.length)[i]?.map fun w => decide (zer w = zer u)).getD false) (fun i y _ => ∃ w, (wordsL u.length)[i]? = some w ∧ y = .str (sT w)) (by rw [List.length_map]; omega) (fun _ _ _ _ y => y.1) (fun _ _ _ _ _ h => h)
        (fun _ _ _ _ _ _ _ h => h) (fun H' e => sl_of (e _ _ h8)) (fun j y H9 hj e9 hy QE k h1 h2 => ?_) (fun D1 H9 zs9 e9 nD1 hD1 pr1 => ?_)
      · replace hy := hy.2
        rw [List.getElem?_map] at hy
        obtain ⟨w, hw, hxy⟩ := Option.map_eq_some_iff.mp hy
        subst hxy
        have zlw : w.length ≤ 7 := by
          have := (wordsC_mem (z := zer w)).mp (List.mem_filter.mpr ⟨List.mem_of_getElem? hw, by simp⟩)
          rw [this.1]
          exact zu
        have hf : ((wordsL u.length)[j]?.map fun w => decide (zer w = zer u)).getD false = decide (zer w = zer u) := by rw [hw]; rfl
        walk_at "go"
        refine w_m1 ?_
        walk_at "go"
        refine w_m1q ?_
        walk_at "go"
        refine w_cnt ?_
        walk_at "go"
        refine w_m1 ?_
        walk_at "go"
        refine w_m1q ?_
        walk_at "go"
        refine w_cnt ?_
        walk_at "go"
        rw [count0 w zlw, count0 u zu]
        refine w_ite (fun e => ?_) (fun e => ?_)
        · walk_at "go"
          have e' := of_decide_eq_true e
          exact h1 (hf.trans (decide_eq_true (by omega))) _ _ (Ex.refl _) ⟨w, hw, rfl⟩
        · have e' := of_decide_eq_false e
          exact h2 (hf.trans (decide_eq_false (fun z => e' (by rw [z])))) _ (Ex.refl _)
      rw [List.length_map] at pr1
      have pr2 := paired_filter (c := fun w => decide (zer w = zer u)) (R := fun (w : Wd) y => y = V.str (sT w)) (wordsL u.length) _ (fun i x hx => by rw [hx]; rfl) pr1
      have ez := eq_of_paired pr2
      subst ez
      walk_at "go"
      refine ⟨D1, u.length, zer u, g, o, rfl, zu, hD1, fun kd H10 e10 n10 hk => ?_⟩
      walk_at "go"
      refine w_newA (by show (1 : Nat) ≤ sizeLine; decide) fun wl H11 e11 n11 h11 => ?_
      walk_at "go"
      refine w_newA (by show (0 : Nat) ≤ sizeLine; decide) fun dl H12 e12 n12 h12 => ?_
      walk_at "go"
      refine w_newA (by show (0 : Nat) ≤ sizeLine; decide) fun ul H13 e13 n13 h13 => ?_
      walk_at "go"
      refine w_newA (by show (3 : Nat) ≤ sizeLine; decide) fun z H14 e14 n14 h14 => ?_
      walk_at "go"
      have E10 := ((E7.trans e8).trans e9).trans e10
      have E11 := E10.trans e11
      have E12 := E11.trans e12
      have E13 := E12.trans e13
      have E14 := E13.trans e14
      have hs14 := ((((((hs7.ex e8).ex e9).ex e10).ex e11).ex e12).ex e13).ex e14
      have a11 := e14 _ _ (e13 _ _ (e12 _ _ h11))
      have a12 := e14 _ _ (e13 _ _ h12)
      have a13 := e14 _ _ h13
      have d1 : z ≠ wl := fun y => by rw [y, e13 _ _ (e12 _ _ h11)] at n14; cases n14
      have d2 : z ≠ dl := fun y => by rw [y, e13 _ _ h12] at n14; cases n14
      have d3 : z ≠ ul := fun y => by rw [y, h13] at n14; cases n14
      have d4 : wl ≠ dl := fun y => by rw [← y, h11] at n12; cases n12
      have d5 : wl ≠ ul := fun y => by rw [← y, e12 _ _ h11] at n13; cases n13
      have d6 : dl ≠ ul := fun y => by rw [← y, h12] at n13; cases n13
      have W0 : LwAt H14 z wl dl ul (scanW u []) [] [] [] [] := ⟨h14, a11, a12, a13, .nil, .nil, d1, d2, d3, d4, d5, d6⟩
      have lS := lists_of W0 hs14
      have hk14 := (((hk.ex e11).ex e12).ex e13).ex e14
      have f0 : ∀ l ∈ [s1, z, wl, dl, ul], H'' l = none := fun l hl => by
        simp only [List.mem_cons, List.not_mem_nil, or_false] at hl
        rcases hl with rfl | rfl | rfl | rfl | rfl
        · exact nS
        · exact fr_back E13 n14
        · exact fr_back E10 n11
        · exact fr_back E11 n12
        · exact fr_back E12 n13
      have kC : KnownAt u.length (zer u) g o (cutH [s1, z, wl, dl, ul] H14) kd := by
        obtain ⟨ks, k1, k2⟩ := hk14
        exact ⟨ks, by rw [cut_out (lsts_at lS k1 fun _ y => by cases y)]; exact k1, k2⟩
      have laC : ∀ x ∈ La, cutH [s1, z, wl, dl, ul] H14 x.1 = some x.2 := fun x hx => by
        rw [cut_out fun hm => ?_]
        · exact E14 _ _ (hLa x hx).1
        · have := f0 _ hm
          rw [(hLa x hx).1] at this
          cases this
      have tC := tabs_cut lS (hT.ext E14)
      refine ⟨[s1, z, wl, dl, ul], lS, u, rfl, zu, fun t1 G1 eG1 ht1 hG1 => ?_⟩
      have lS1 : Lsts [s1, z, wl, dl, ul] (joinH [s1, z, wl, dl, ul] H14 G1) := fun l hl => by
        rw [join_in hl]
        exact lS l hl
      walk_at "go"
      refine w_mkTabF lS1 (by rw [cut_join hG1]; exact ht1) fun tb wt st tdl tul G2 eG2 hG2 k1 k2 k3 => ?_
      rw [cut_join hG1] at eG2
      have eG := eG1.trans eG2
      have jn : ∀ l ∈ [s1, z, wl, dl, ul], joinH [s1, z, wl, dl, ul] (joinH [s1, z, wl, dl, ul] H14 G1) G2 l = H14 l := fun l hl => by rw [join_in hl, join_in hl]
      have b : Big K ⟨s1, tb, z, kd, u.length, zer u, g, o, u⟩ La [] [] [] [] 0 (joinH [s1, z, wl, dl, ul] (joinH [s1, z, wl, dl, ul] H14 G1) G2) := by
        refine ⟨⟨wl, dl, ul, [], [], ⟨(jn z (by simp)).trans h14, (jn wl (by simp)).trans a11, (jn dl (by simp)).trans a12, (jn ul (by simp)).trans a13, .nil, .nil, d1, d2, d3, d4, d5, d6⟩, ?_⟩, ?_, (tC.ext eG).ext (join_ex hG2), ⟨rfl, rfl⟩, zu, AlF.nil, AlF.nil, AlF.nil, AlF.nil, Nat.le_refl _, Nat.le_refl _, Nat.le_refl _, Nat.le_refl _⟩
        · show InG K _ La [] [] (cutH [s1, z, wl, dl, ul] _)
          rw [cut_join hG2]
          exact ⟨⟨t1, wt, st, t1, tdl, tul, [], [], k1, k2, k3⟩, kC.ex eG, fun x hx => ⟨eG _ _ (laC x hx), (hLa x hx).2⟩⟩
        · obtain ⟨x, y, h1, h2⟩ := hs14
          exact ⟨x, y, (jn s1 (by simp)).trans h1, h2⟩
      generalize joinH [s1, z, wl, dl, ul] (joinH [s1, z, wl, dl, ul] H14 G1) G2 = H16 at b ⊢
      walk_at "go"
      refine w_forW (walk_range (lo := 0) (n := 40)) (fun j σ' H' => ∃ tb ds us x11 x12 x13 x14, σ' = [some (.ref a), some (.int (0 + (i : Int))), some (.ref s1), some (.str (sT u)), some (.str g.s), some (.str o.s), some (.ref D1), y7, some (.ref kd), some (.ref z), some (.ref tb), x11, x12, x13, x14] ∧ Big K ⟨s1, tb, z, kd, u.length, zer u, g, o, u⟩ La ds us ds us (6 * j) H') ?j0 ?jG ?js ?jd
      case j0 => exact ⟨tb, [], [], _, _, _, _, rfl, b⟩
      case jG => exact fun _ _ _ _ _ => trivial
      case jd =>
        rintro σ' H' ⟨tb, ds, us, x11, x12, x13, x14, rfl, b⟩
        exact ⟨rfl, rfl, b.tab, fun x hx => ⟨b.get hx, (hLa x hx).2⟩⟩
      case js =>
        clear b
        rintro j x σ' HA H1 hj ⟨tb, ds, us, x11, x12, x13, x14, rfl, b⟩ ⟨rfl, rfl⟩
        walk_at "go"
        refine ⟨⟨s1, tb, z, kd, u.length, zer u, g, o, u⟩, La, ds, us, 6 * j, rfl, b, by omega, fun p pa pb x ds' us' H2 b2 dp1 dp2 fx => ?_⟩
        walk_at "go"
        refine ⟨p, _, rfl, sl_of (b2.get List.mem_cons_self), rfl, ?_⟩
        walk_at "go"
        refine w_neSame dp1 dp2 fx ?_
        walk_at "go"
        refine ⟨⟨s1, tb, z, kd, u.length, zer u, g, o, u⟩, _, ds', us', 6 * j + 6, rfl, b2, by omega, fun H3 e3 => ?_⟩
        have b3 := b2.ext e3
        obtain ⟨r03, wt3, st3, r3', tdl3, tul3, dfs3, ufs3, ⟨dx3, hT3⟩, _⟩ := b3.tabH
        walk_at "go"
        refine b_clone b3 (fun t2 H4 b4 b4' k => ?_)
        obtain ⟨r0, wta, wt2, sta, r, tdla, tula, dfs, k1, k2, k3, k4, k5, k6, zdf⟩ := k
        walk_at "go"
        obtain ⟨dx1, i1⟩ := id k1
        obtain ⟨dx2, i2⟩ := id k2
        refine ⟨t2, tb, dx2, dx1, _, _, rfl, rfl, i2, i1, t2, r0, wt2, sta, tb, r0, wta, sta, u, g, o, r, tdla, tula, dfs, r, tdla, tula, dfs, rfl, k2, k1, k4, k3, k5, k6, k5, k6, true, fun _ => rfl, (fun y => by cases y), fun H5 e5 => ⟨true, rfl, ?_⟩⟩
        walk_at "go"
        refine frx_nil ⟨u, rfl, zu, fun t5 H6 e6 ht5 _ => ?_⟩
        walk_at "go"
        refine w_mkTabF (S := []) (fun l m => (List.not_mem_nil m).elim) (by rw [cut_nil]; exact ht5) fun t7 wt7 st7 dl7 ul7 H7 e7 _ m1 m2 m3 => ?_
        rw [cut_nil] at e7
        rw [join_nil]
        have e57 := (e5.trans e6).trans e7
        obtain ⟨dx7, i7⟩ := id m1
        walk_at "go"
        refine ⟨t7, tb, dx7, dx1, _, _, rfl, rfl, i7, e57 _ _ i1, t7, t5, wt7, st7, tb, r0, wta, sta, u, g, o, t5, dl7, ul7, [], r, tdla, tula, dfs, rfl, m1, k1.ex e57, m2, k3.ex e57, m3.tup, m3.don, e57 _ _ k5, e57 _ _ k6, decide (ds' = []), fun y => ?_, fun y => ?_, fun H8 e8 => ?_⟩
        · have y' := of_decide_eq_true y
          rw [y'] at zdf
          exact (List.eq_nil_of_length_eq_zero zdf).symm
        · have y' := of_decide_eq_false y
          rw [zdf]
          intro y2
          exact y' (List.eq_nil_of_length_eq_zero y2.symm)
        have b8 := b4.ext (e57.trans e8)
        have b8' := b4'.ext (e57.trans e8)
        obtain ⟨wl8, dl8, ul8, dts8, uts8, W8, _⟩ := id b8.ex
        have hz8 := W8.hz
        have hd8 := W8.hd
        walk_at "go"
        refine w_newA (by show (0 : Nat) ≤ sizeLine; decide) fun p9 H9 e9 n9 h9 => ?_
        refine w_eqNilP (sl_of (e9 _ _ hd8)) (W8.dF.ex e9) (sl_of h9) ?_
        walk_at "go"
        rw [show decide (ds' = []) = ds'.isEmpty by cases ds' <;> simp, decide_eq_true rfl]
        have b9 := b8.ext e9
        have b9' := b8'.ext e9
        walk_at "go"
        refine ⟨s1, 6, rfl, b9.stm, by decide, by decide, fun r9 H10 m10 hs10 hr9 => ?_⟩
        have b10 := (b9.draw m10 hs10).le (show 6 * j + 6 ≤ 6 * (j + 1) by omega)
        have b10' := (b9'.draw m10 hs10).le (show 6 * j + 6 ≤ 6 * (j + 1) by omega)
        walk_at "go"
        refine w_ite (fun e => ?_) (fun e => ?_)
        · walk_at "go"
          exact ⟨t2, ds', us', _, _, _, _, rfl, b10'.drop fun x hx => List.mem_cons_of_mem _ hx⟩
        · walk_at "go"
          exact ⟨tb, ds', us', _, _, _, _, rfl, b10.drop fun x hx => List.mem_cons_of_mem _ hx⟩
    case id =>
      rintro σ' H' _
      walk_at "go"
      exact q _
end Tcf

set_option Elab.async false
set_option linter.all false
set_option maxRecDepth 100000
set_option maxHeartbeats 0
/-! EV: the end. -/
namespace Tcf
open PySem PySem.Spec PyProof.Rows L2
abbrev theLaw : PySem.W.OpenLaw := PySem.Challenge.rw_twocolourflips_k62_whole_tables_of_all_d
theorem law_at {w : World} {K : PySem.W.Frag} {h : Heap} {mg : Str → Option Value} {fa : Addr} (X : K.In h) (G : h.Ns mainGlobals mg) (hfa : mg ("law" : Str) = some (.ref fa)) (c : SaysZ fx fn tf h K)
    (hfile : theLaw.prog.main.file = fileR) (hsup : (theLaw.prog.main.scope.names.lookup ("super" : Str)).isSome = false) : LamX.LawAtS theLaw w K (L2.CX theLaw.prog w) 15 63 "_law_script" mg fa h := by
  have T : Tx theLaw.prog K mg := ⟨⟨h, X, G, c⟩, hfile, hsup⟩
  obtain ⟨fd, F⟩ := T.d_law
  have e := hfa.symm.trans T.g_law
  cases e
  refine ⟨fd, tf.map (He.cT K), spLaw K, fun p hp => ?_, fun p hp => ?_, fun p hp => ?_, fun s u => ?_, fun H a ns hl _ hT hS => ?_, fun base Kb Gb TB => ?_⟩
  · obtain ⟨d, hd, rfl⟩ := List.mem_map.mp hp
    exact c.empty d hd
  · obtain ⟨d, hd, rfl⟩ := List.mem_map.mp hp
    exact c.out d hd
  · obtain ⟨d, hd, rfl⟩ := List.mem_map.mp hp
    exact PySem.W.codeHd_of_K X (c.hd d hd)
  · obtain ⟨oc, od, kV, doc, pm, an, cdv, ct, osl, rfl, _, _⟩ := F.ex
    exact .of_eq rfl
  · refine ⟨a, ns, rfl, hS, hl, fun p hp => ?_, fun _ => rfl⟩
    simp only [lamT, List.mem_cons, List.not_mem_nil, or_false] at hp
    rcases hp with rfl | rfl
    · exact LamX.TabS.nil (hT (He.cT K ("_law_pair", none)) (List.mem_map.mpr ⟨_, List.mem_cons_self, rfl⟩))
    · exact LamX.TabS.nil (hT (He.cT K ("_law_more_pair", none)) (List.mem_map.mpr ⟨_, List.mem_cons_of_mem _ List.mem_cons_self, rfl⟩))
  · exact fn_law T (fun p hp => TB _ (List.mem_map.mpr ⟨p, hp, rfl⟩)) F
end Tcf
open PySem PySem.W PySem.Calls PyProof.Rows
theorem PySem.Challenge.cw_twocolourflips_k62_whole_tables_of_all_d_holds : PySem.Challenge.rw_twocolourflips_k62_whole_tables_of_all_d.Holds := by
  w_on; o_law
  refine HandSHeadRun.head_any (r := Tcf.R) (q := view Tcf.R.prog [68]) (H := Tcf.hk) (ob := Tcf.ob) (M := 20000) (loose := Tcf.names) (d := HandSHeadRun.topDef Tcf.R.prog 68) (kwd := []) Tcf.ob_eq
    (by kernel_rfl) (fun s => by kernel_rfl) Tcf.run (by kernel_rfl) (by kernel_rfl) (by kernel_rfl) (by rfl) (by first | assumption | decide +kernel) (by decide +kernel) ⟨rfl, rfl, rfl, rfl, rfl, by decide +kernel⟩ ?hw ?hc
  case hw => w_witness2
  case hc =>
    refine LamX.walk_ofTsE (l := Tcf.theLaw) (n := 63) (k := 15) (x := "_law_script") (CX := fun w => L2.CX Tcf.theLaw.prog w) rfl (by decide) (by kernel_rfl) ⟨rfl, by decide, by decide⟩ ?F (fun w H s e s' z => ?_)
    case F =>
      intro w mg fa h Y G hmg0
      obtain ⟨K, KX, c⟩ := Y
      have hmg : mg ("law" : PySem.Str) = some (.ref fa) := by
        have e : (HandSHeadRun.topDef Tcf.R.prog 68).name = ("law" : PySem.Str) := by kernel_rfl
        rw [← e]
        exact hmg0
      exact ⟨K, KX, Tcf.law_at KX G hmg c (by kernel_rfl) (by kernel_rfl)⟩
    obtain ⟨_, _, _, _, _, _, _, _, _, _, _, _, y⟩ := z
    exact y.elim
