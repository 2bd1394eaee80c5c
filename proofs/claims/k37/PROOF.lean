import PyProof.Rows.All
import Wide.All
import OpenK.AllK
import Wide.FinOn
import HandS.ForMost
import HandS.Defaults
import HandS.HeadHook1
import HandS.HeadHook2
import KE.KStateDown
import Lean
import HandS.Codes
import HandS.Head0
import HandS.Head1
import HandS.Head2
import HandS.HeadEnd
import PyProof.ReprLen
import PyProof.ReprRoads
import HandS.Strs
import HandS.SetKeys
import HandS.Walk
import HandS.DictComp
import HandS.TupAny
import HandS.Deep
import KE.GoesMore
import KE.GoesEnum
import HandS.Evl
import HandS.Exc
import HandS.SetFor
import HandS.WordsDict
import PyProof.StrBlock2
import KE.KEqDict
import HandS.Ends
import HandS.Base
import HandS.Call
import PySem.Challenge.RW_sameanswers_k37_trunk_is_a_serial_run
set_option Elab.async false
set_option linter.all false
set_option maxRecDepth 100000
set_option maxHeartbeats 0
/-! text Text -/
/-! The program's text by places. Printed by gen_text.py. -/
namespace Sa
open PySem L2
def top (i : Nat) : Stmt := PySem.Challenge.pw_sameanswers_k37_trunk_is_a_serial_run.main.body.getD i (.Pass ⟨0, 0, 0, 0⟩)
abbrev s_wall : Stmt := top 0
abbrev m_OutOfRange_init : Stmt := inClass (top 3) 0
abbrev s_is_name : Stmt := top 19
abbrev s_is_path : Stmt := top 20
abbrev s_is_place : Stmt := top 21
abbrev s_is_plain : Stmt := top 22
abbrev s_is_line : Stmt := top 23
abbrev s_is_word : Stmt := top 24
abbrev s_is_lines : Stmt := top 25
abbrev s_is_inside : Stmt := top 26
abbrev s_are_files : Stmt := top 29
abbrev m_Tree_init : Stmt := inClass (top 30) 0
abbrev m_Tree_files : Stmt := inClass (top 30) 1
abbrev m_Tree_lines : Stmt := inClass (top 30) 2
abbrev m_Tree_paths : Stmt := inClass (top 30) 3
abbrev m_Tree_above : Stmt := inClass (top 30) 4
abbrev m_Tree_is_folder : Stmt := inClass (top 30) 5
abbrev m_Tree_with_file : Stmt := inClass (top 30) 6
abbrev m_Tree_without : Stmt := inClass (top 30) 7
abbrev m_Tree_is_same : Stmt := inClass (top 30) 8
abbrev s_is_question : Stmt := top 35
abbrev s_check : Stmt := top 36
abbrev s_check_action : Stmt := top 37
abbrev s_places_of : Stmt := top 38
abbrev s_names : Stmt := top 39
abbrev s_rows : Stmt := top 40
abbrev s_ask : Stmt := top 41
abbrev s_is_blocked : Stmt := top 42
abbrev s_write : Stmt := top 43
abbrev s_move : Stmt := top 44
abbrev s_splice : Stmt := top 45
abbrev s_act : Stmt := top 46
abbrev s_is_good_row : Stmt := top 51
abbrev s_next_row : Stmt := top 52
abbrev s_walk : Stmt := top 53
abbrev s_is_check : Stmt := top 57
abbrev s_check_check : Stmt := top 58
abbrev s_verdict : Stmt := top 59
abbrev s_run : Stmt := top 61
abbrev s_first_change : Stmt := top 62
abbrev s_holds : Stmt := top 63
abbrev s_lead : Stmt := top 64
abbrev m_Session_init : Stmt := inClass (top 72) 0
abbrev m_Line_init : Stmt := inClass (top 73) 0
abbrev m_Line_first : Stmt := inClass (top 73) 1
abbrev m_Line_leave : Stmt := inClass (top 73) 2
abbrev m_Line_join : Stmt := inClass (top 73) 3
abbrev m_Line_count : Stmt := inClass (top 73) 4
abbrev m_Trunk_init : Stmt := inClass (top 74) 0
abbrev m_Trunk_version : Stmt := inClass (top 74) 1
abbrev m_Trunk_tree : Stmt := inClass (top 74) 2
abbrev m_Trunk_entry : Stmt := inClass (top 74) 3
abbrev m_Trunk_append : Stmt := inClass (top 74) 4
abbrev m_Trunk_check_room : Stmt := inClass (top 74) 5
abbrev m_Trunk_make : Stmt := inClass (top 74) 6
abbrev m_Trunk_count_event : Stmt := inClass (top 74) 7
abbrev m_Trunk_add : Stmt := inClass (top 74) 8
abbrev m_Trunk_begin : Stmt := inClass (top 74) 9
abbrev m_Trunk_take_back : Stmt := inClass (top 74) 10
abbrev m_Trunk_known : Stmt := inClass (top 74) 11
abbrev m_Trunk_opened : Stmt := inClass (top 74) 12
abbrev m_Trunk_close : Stmt := inClass (top 74) 13
abbrev m_Trunk_act : Stmt := inClass (top 74) 14
abbrev m_Trunk_standing : Stmt := inClass (top 74) 15
abbrev m_Trunk_refuse : Stmt := inClass (top 74) 16
abbrev m_Trunk_is_barred : Stmt := inClass (top 74) 17
abbrev m_Trunk_passes : Stmt := inClass (top 74) 18
abbrev m_Trunk_submit : Stmt := inClass (top 74) 19
abbrev m_Trunk_state : Stmt := inClass (top 74) 20
abbrev m_Trunk_name : Stmt := inClass (top 74) 21
abbrev m_Trunk_base : Stmt := inClass (top 74) 22
abbrev m_Trunk_refusals : Stmt := inClass (top 74) 23
abbrev m_Trunk_journal : Stmt := inClass (top 74) 24
abbrev m_Trunk_sight : Stmt := inClass (top 74) 25
abbrev m_Trunk_place : Stmt := inClass (top 74) 26
abbrev m_Trunk_is_protected : Stmt := inClass (top 74) 27
abbrev m_Trunk_line : Stmt := inClass (top 74) 28
abbrev m_Trunk_require : Stmt := inClass (top 74) 29
abbrev m_Trunk_check_known : Stmt := inClass (top 74) 30
abbrev m_Trunk_drop : Stmt := inClass (top 74) 31
abbrev m_Trunk_checks : Stmt := inClass (top 74) 32
abbrev m_Trunk_verdicts : Stmt := inClass (top 74) 33
abbrev m_Trunk_runs : Stmt := inClass (top 74) 34
abbrev s_law_cell : Stmt := top 76
abbrev s_law_digits : Stmt := top 77
abbrev s_law_draw : Stmt := top 78
abbrev s_law_alike : Stmt := top 79
abbrev s_law_path : Stmt := top 80
abbrev s_law_place : Stmt := top 81
abbrev s_law_lines : Stmt := top 82
abbrev s_law_question : Stmt := top 83
abbrev s_law_action : Stmt := top 84
abbrev s_law_table : Stmt := top 85
abbrev s_law_inside : Stmt := top 86
abbrev s_law_barred : Stmt := top 87
abbrev s_law_names : Stmt := top 88
abbrev s_law_found : Stmt := top 89
abbrev s_law_told : Stmt := top 90
abbrev s_law_with : Stmt := top 91
abbrev s_law_spliced : Stmt := top 92
abbrev s_law_act : Stmt := top 93
abbrev s_law_files : Stmt := top 94
abbrev s_law_run : Stmt := top 95
abbrev s_law_check : Stmt := top 96
abbrev s_law_acted : Stmt := top 97
abbrev s_law_result : Stmt := top 98
abbrev s_law_serial : Stmt := top 99
abbrev s_law : Stmt := top 100
end Sa
/-! text HookL -/
/-! A hook whose looks go straight to the objects by address (no list of parts): each look of the layer's facts, over a function of addresses. -/
namespace HkL
open PySem PySem.Spec PyProof.Rows L2
abbrev Lk : Type := Addr → Option Obj
abbrev lkK (K : PySem.W.Frag) : Lk := fun a => List.lookup a K
def nsL (lk : Lk) (ns : Addr) (name : Str) : Option (Option Value) := match lk ns with
  | some ⟨_, _, .dict es _, _⟩ => (match es.toList.find? (·.key.isStr name) with
      | some e => some (some e.val)
      | none => if es.toList.any (·.refKey) then none else some none)
  | _ => none
theorem nsL_eq (K : PySem.W.Frag) (ns : Addr) (name : Str) : PySem.W.nsIn K ns name = nsL (lkK K) ns name := rfl
def ownL (lk : Lk) (name : Str) : Value → Option (Option Value)
  | .type n => some (fastBuiltinOwn n name)
  | .ref a => (match lk a with
      | some ⟨_, _, .cls cd, _⟩ => nsL lk cd.ns name
      | _ => none)
  | _ => some none
theorem ownL_eq (K : PySem.W.Frag) (name : Str) (v : Value) : PySem.W.ownIn K name v = ownL (lkK K) name v := by
  cases v <;> rfl
def alongL (lk : Lk) (name : Str) : List Value → Option (Option Value)
  | [] => some none
  | c :: r => match ownL lk name c with
    | some (some v) => some (some v)
    | some none => alongL lk name r
    | none => none
theorem alongL_eq (K : PySem.W.Frag) (name : Str) : ∀ l : List Value, PySem.W.alongIn K name l = alongL (lkK K) name l
  | [] => rfl
  | c :: r => by
    unfold PySem.W.alongIn alongL
    rw [ownL_eq, alongL_eq K name r]
    rfl
def findL (lk : Lk) (t : Value) (name : Str) : Option (Option Value) := match t with
  | .type n => fastLookup n name
  | .ref a => (match lk a with
      | some ⟨_, _, .cls cd, _⟩ => alongL lk name cd.mro
      | _ => none)
  | _ => none
theorem findL_eq (K : PySem.W.Frag) (t : Value) (name : Str) : PySem.W.findIn K t name = findL (lkK K) t name := by
  cases t with
  | ref a =>
    unfold PySem.W.findIn findL
    simp only [alongL_eq]
    rfl
  | _ => rfl
def clsL (lk : Lk) (C : Addr) : Option ClassData := match lk C with
  | some ⟨_, _, .cls cd, _⟩ => some cd
  | _ => none
theorem clsL_eq (K : PySem.W.Frag) (C : Addr) : PySem.W.clsIn K C = clsL (lkK K) C := rfl
def typeL (lk : Lk) : Value → Option Value
  | .ref a => (lk a).map (·.cls)
  | .builtin i => PySem.W.pureOf (fastBuiltinType i)
  | .type _ => none
  | v => PySem.W.pureOf (typeOf v)
theorem typeL_eq (K : PySem.W.Frag) (v : Value) : PySem.W.typeIn K v = typeL (lkK K) v := by
  cases v <;> rfl
def specialL (lk : Lk) (v : Value) (name : Str) : Option (Option Value) := (typeL lk v).bind fun t => findL lk t name
theorem specialL_eq (K : PySem.W.Frag) (v : Value) (name : Str) : PySem.W.specialIn K v name = specialL (lkK K) v name := by
  unfold PySem.W.specialIn specialL
  rw [typeL_eq]
  congr 1
  funext t
  exact findL_eq K t name
def mroL (lk : Lk) (C : Addr) (base : Value) : Option Bool := (clsL lk C).bind fun cd => if cd.mro.isEmpty then none else some (cd.mro.contains base)
def subL (lk : Lk) (t base : Value) : Option Bool := match t with
  | .type T => (fastBuiltinMro T).map (·.contains base)
  | .ref C => mroL lk C base
  | _ => none
theorem subL_eq (K : PySem.W.Frag) (t base : Value) : PySem.W.subIn K t base = subL (lkK K) t base := by
  cases t <;> rfl
def instL (lk : Lk) (v base : Value) : Option Bool := (typeL lk v).bind fun t => subL lk t base
theorem instL_eq (K : PySem.W.Frag) (v base : Value) : PySem.W.instIn K v base = instL (lkK K) v base := by
  unfold PySem.W.instIn instL
  rw [typeL_eq]
  congr 1
def keepL (lk : Lk) (f : Value) : Bool := match f with
  | .ref a => (match lk a with
      | some ⟨_, _, .func _, _⟩ => true
      | some ⟨_, _, .cls _, _⟩ => specialL lk (.ref a) "__call__" == some (some (.builtin "type.__call__"))
      | _ => false)
  | _ => false
theorem keepL_eq (K : PySem.W.Frag) (f : Value) : PySem.W.keepIn K f = keepL (lkK K) f := by
  cases f with
  | ref a =>
    unfold PySem.W.keepIn keepL
    simp only [specialL_eq]
    rfl
  | _ => rfl
def isFnL (lk : Lk) (v : Value) : Bool := typeL lk v == some (.type "function")
theorem isFnL_eq (K : PySem.W.Frag) (v : Value) : PySem.W.isFn K v = isFnL (lkK K) v := by
  unfold PySem.W.isFn isFnL
  rw [typeL_eq]
def plainGetL (lk : Lk) (C : Addr) : Bool := findL lk (.ref C) "__getattribute__" == some (some (.builtin "object.__getattribute__")) && findL lk (.ref C) "__getattr__" == some none
theorem plainGetL_eq (K : PySem.W.Frag) (C : Addr) (n : Str) : PySem.W.plainGet K C n = plainGetL (lkK K) C := by
  unfold PySem.W.plainGet plainGetL
  rw [findL_eq, findL_eq]
def hasDictL (lk : Lk) (C : Addr) : Bool := (clsL lk C).any (·.hasDict)
theorem hasDictL_eq (K : PySem.W.Frag) (C : Addr) : PySem.W.hasDictIn K C = hasDictL (lkK K) C := rfl
def plainOverL (lk : Lk) (C : Addr) : Bool := (clsL lk C).any fun cd => PySem.W.onlyObject cd.mro
theorem plainOverL_eq (K : PySem.W.Frag) (C : Addr) : PySem.W.plainOver K C = plainOverL (lkK K) C := rfl
def makesL (lk : Lk) (C : Addr) : Bool := match lk C with
  | some ⟨_, _, .cls cd, sl⟩ => !cd.abstract && !cd.hasDel && (sl.toList[4]?).join == some (.builtin "object.__new__") && !cd.mro.isEmpty && cd.mro.contains (.ref C) && cd.mro.contains (.type "object") &&
      specialL lk (.ref C) "__call__" == some (some (.builtin "type.__call__")) && instL lk (.ref C) (.type "type") == some true
  | _ => false
theorem makesL_eq (K : PySem.W.Frag) (C : Addr) : PySem.W.makesIn K C = makesL (lkK K) C := by
  unfold PySem.W.makesIn makesL
  simp only [specialL_eq, instL_eq]
  rfl
def codeL (lk : Lk) (cd : Value) (q : Str) : Bool := match cd with
  | .ref c => (match lk c with
      | some ⟨_, _, .fields vs, _⟩ => (match vs.toList with | _ :: .str n _ :: _ => n == q | _ => false)
      | _ => false)
  | _ => false
theorem codeL_eq (K : PySem.W.Frag) (cd : Value) (q : Str) : PySem.W.codeIn K cd q = codeL (lkK K) cd q := by
  cases cd <;> rfl
/-! ### addresses by names -/
def gaL (lk : Lk) (x : Str) : Addr := match nsL lk mainGlobals x with
  | some (some (.ref a)) => a
  | _ => 0
theorem gaL_eq (K : PySem.W.Frag) (x : Str) : He.ga K x = gaL (lkK K) x := rfl
def maL (lk : Lk) (C : Addr) (m : Str) : Addr := match findL lk (.ref C) m with
  | some (some (.ref a)) => a
  | _ => 0
theorem maL_eq (K : PySem.W.Frag) (C : Addr) (m : Str) : He.ma K C m = maL (lkK K) C m := by
  unfold He.ma maL
  rw [findL_eq]
  rfl
def fAdL (lk : Lk) (p : Str × Option Str) : Addr := match p.2 with
  | none => gaL lk p.1
  | some m => maL lk (gaL lk p.1) m
theorem fAdL_eq (K : PySem.W.Frag) (p : Str × Option Str) : He.fAd K p = fAdL (lkK K) p := by
  unfold He.fAd fAdL
  simp only [maL_eq, gaL_eq]
  rfl
/-! ### facts -/
inductive Fc where
  | glo (x : Str)
  | free (x : Str)
  | int (x : Str) (i : Int)
  | str (x z : Str)
  | cls (x : Str)
  | noat (x f : Str)
  | meth (x m : Str)
  | mkr (x : Str)
  | same (x y : Str)
  | tup (x : Str) (vs : List He.Dv)
def Fc.okL (lk : Lk) : Fc → Bool
  | .glo x => He.eqO (nsL lk mainGlobals x) (some (some (.ref (gaL lk x))))
  | .free x => He.eqO (nsL lk mainGlobals x) (some none)
  | .int x i => (match nsL lk mainGlobals x with
    | some (some (.int j _)) => decide (j = i)
    | _ => false)
  | .str x z => (match nsL lk mainGlobals x with
    | some (some (.str y _)) => decide (y = z)
    | _ => false)
  | .cls x => plainGetL lk (gaL lk x) && (hasDictL lk (gaL lk x) && (plainOverL lk (gaL lk x) && He.eqO (findL lk (.ref (gaL lk x)) "__setattr__") (some (some (.builtin "object.__setattr__")))))
  | .noat x f => He.eqO (findL lk (.ref (gaL lk x)) f) (some none)
  | .meth x m => He.eqO (findL lk (.ref (gaL lk x)) m) (some (some (.ref (maL lk (gaL lk x) m)))) && (isFnL lk (.ref (maL lk (gaL lk x) m)) && keepL lk (.ref (maL lk (gaL lk x) m)))
  | .mkr x => makesL lk (gaL lk x) && (He.eqO (findL lk (.ref (gaL lk x)) "__init__") (some (some (.ref (maL lk (gaL lk x) "__init__")))) && (isFnL lk (.ref (maL lk (gaL lk x) "__init__")) && keepL lk (.ref (gaL lk x))))
  | .same x y => He.eqO (nsL lk mainGlobals x) (some (some (.ref (gaL lk y))))
  | .tup x vs => (match lk (gaL lk x) with
    | some ⟨.type c, _, .seq its _, _⟩ => decide (c = "tuple") && (decide (its.size ≤ sizeLine) && He.relAll (vs.map (He.Dv.v [])) its.toList)
    | _ => false)
def toFa : Fc → Option He.Fa
  | .glo x => some (.glo x)
  | .free x => some (.free x)
  | .int x i => some (.int x i)
  | .str x z => some (.str x z)
  | .cls x => some (.cls x)
  | .noat x f => some (.noat x f)
  | .meth x m => some (.meth x m)
  | .mkr x => some (.mkr x)
  | .same _ _ => none
  | .tup _ _ => none
theorem okL_fa {K : PySem.W.Frag} : ∀ {f : Fc} {f' : He.Fa}, toFa f = some f' → f.okL (lkK K) = true → f'.ok K = true
  | .glo x, _, e, h => by
    cases e
    exact h
  | .free x, _, e, h => by
    cases e
    exact h
  | .int x i, _, e, h => by
    cases e
    exact h
  | .str x z, _, e, h => by
    cases e
    exact h
  | .cls x, _, e, h => by
    cases e
    show (PySem.W.plainGet K _ _ && (PySem.W.hasDictIn K _ && (PySem.W.plainOver K _ && He.eqO (PySem.W.findIn K _ _) _))) = true
    rw [plainGetL_eq, findL_eq]
    exact h
  | .noat x f, _, e, h => by
    cases e
    show He.eqO (PySem.W.findIn K _ _) _ = true
    rw [findL_eq]
    exact h
  | .meth x m, _, e, h => by
    cases e
    show (He.eqO (PySem.W.findIn K _ _) _ && (PySem.W.isFn K _ && PySem.W.keepIn K _)) = true
    rw [findL_eq, isFnL_eq, keepL_eq, maL_eq]
    exact h
  | .mkr x, _, e, h => by
    cases e
    show (PySem.W.makesIn K _ && (He.eqO (PySem.W.findIn K _ _) _ && (PySem.W.isFn K _ && PySem.W.keepIn K _))) = true
    rw [makesL_eq, findL_eq, isFnL_eq, keepL_eq, maL_eq]
    exact h
  | .same _ _, _, e, _ => nomatch e
  | .tup _ _, _, e, _ => nomatch e
/-! ### defs -/
abbrev FnW : Type := He.FnW
def fnL (lk : Lk) (p : Str × Option Str) : He.FnW := match lk (fAdL lk p) with
  | some ⟨_, _, .func fd, _⟩ => some (fd.name, fd.qualname, fd.params, fd.body, fd.scope, fd.globals, fd.closure, fd.builtins)
  | _ => none
theorem fnL_eq (K : PySem.W.Frag) (p : Str × Option Str) : He.fnW K p = fnL (lkK K) p := by
  unfold He.fnW fnL
  rw [fAdL_eq]
  rfl
/-- a def: where it stands, its name, its place in the text; opt: it has one default, some object -/
structure DefL where
  at_ : Str × Option Str
  name : Str
  qual : Str
  st : Stmt
  opt : Bool
def DefL.val (d : DefL) : He.FnW := some (d.name, d.qual, defArgs d.st, .stmts (defBody d.st), defScope d.st, mainGlobals, [], builtinsNs)
def DefL.ok (lk : Lk) (d : DefL) : Bool := keepL lk (.ref (fAdL lk d.at_)) && (match lk (fAdL lk d.at_) with
  | some ⟨_, _, .func fd, _⟩ => codeL lk fd.code d.qual && ((match d.opt, fd.defaults with
      | false, .none => true
      | true, .ref T => (match lk T with
        | some ⟨_, _, .seq its _, _⟩ => (match its.toList with
          | [.ref _] => true
          | _ => false)
        | _ => false)
      | _, _ => false) && (match fd.kwdefaults with
        | .none => true
        | _ => true))
  | _ => false)
/-- a def of the text stands at f -/
theorem DefL.fun_ {K : PySem.W.Frag} {d : DefL} (ho : d.opt = false) (e : fnL (lkK K) d.at_ = d.val) (c : d.ok (lkK K) = true) : ∃ fd, Fun K d.name d.qual d.st (He.fAd K d.at_) fd := by
  obtain ⟨kp, c2⟩ := He.ba c
  rw [← keepL_eq] at kp
  unfold fnL at e
  rw [← fAdL_eq] at kp c2 e
  dsimp only [lkK] at c2 e
  cases q : K.lookup (He.fAd K d.at_) with
  | none =>
    rw [q] at c2
    cases c2
  | some o =>
    obtain ⟨oc, od, dt, osl⟩ := o
    rw [q] at c2 e
    cases dt with
    | func fd =>
      obtain ⟨n1, n2, n3, n4, n5, n6, n7, n8, n9, n10, n11, n12, n13, n14, n15⟩ := fd
      have e2 : (some (n1, n2, n3, n4, n5, n6, n7, n15) : He.FnW) = some (d.name, d.qual, defArgs d.st, .stmts (defBody d.st), defScope d.st, mainGlobals, [], builtinsNs) := e
      simp only [Option.some.injEq, Prod.mk.injEq] at e2
      obtain ⟨h1, h2, h3, h4, h5, h6, h7, h8⟩ := e2
      subst h1 h2 h3 h4 h5 h6 h7 h8
      obtain ⟨k1, k2⟩ := He.ba c2
      obtain ⟨k3, _⟩ := He.ba k2
      rw [ho] at k3
      have k1' : PySem.W.codeIn K n13 d.qual = true := by rw [codeL_eq]; exact k1
      have hd : n8 = .none := by
        cases n8 with
        | none => rfl
        | _ => cases k3
      subst hd
      exact ⟨_, ⟨oc, od, n9, n10, n11, n12, n13, n14, osl, rfl, q, k1'⟩, kp⟩
    | _ => cases c2
/-- a def with one default that is an object -/
theorem DefL.funD {K : PySem.W.Frag} {d : DefL} (ho : d.opt = true) (e : fnL (lkK K) d.at_ = d.val) (c : d.ok (lkK K) = true) : ∃ (fd : FuncData) (a : Addr), FunD K d.name d.qual (defArgs d.st) (defBody d.st) (defScope d.st) [.ref a] [] (He.fAd K d.at_) fd := by
  obtain ⟨kp, c2⟩ := He.ba c
  rw [← keepL_eq] at kp
  unfold fnL at e
  rw [← fAdL_eq] at kp c2 e
  dsimp only [lkK] at c2 e
  cases q : K.lookup (He.fAd K d.at_) with
  | none =>
    rw [q] at c2
    cases c2
  | some o =>
    obtain ⟨oc, od, dt, osl⟩ := o
    rw [q] at c2 e
    cases dt with
    | func fd =>
      obtain ⟨n1, n2, n3, n4, n5, n6, n7, n8, n9, n10, n11, n12, n13, n14, n15⟩ := fd
      have e2 : (some (n1, n2, n3, n4, n5, n6, n7, n15) : He.FnW) = some (d.name, d.qual, defArgs d.st, .stmts (defBody d.st), defScope d.st, mainGlobals, [], builtinsNs) := e
      simp only [Option.some.injEq, Prod.mk.injEq] at e2
      obtain ⟨h1, h2, h3, h4, h5, h6, h7, h8⟩ := e2
      subst h1 h2 h3 h4 h5 h6 h7 h8
      obtain ⟨k1, k2⟩ := He.ba c2
      obtain ⟨k3, _⟩ := He.ba k2
      rw [ho] at k3
      have k1' : PySem.W.codeIn K n13 d.qual = true := by rw [codeL_eq]; exact k1
      cases n8 with
      | ref T =>
        have k4 : (match K.lookup T with
          | some ⟨_, _, .seq its _, _⟩ => (match its.toList with
            | [.ref _] => true
            | _ => false)
          | _ => false) = true := k3
        cases qT : K.lookup T with
        | none =>
          rw [qT] at k4
          cases k4
        | some oT =>
          obtain ⟨tc, td, tdt, tsl⟩ := oT
          rw [qT] at k4
          cases tdt with
          | seq its n =>
            have k5 : (match its.toList with
              | [.ref _] => true
              | _ => false) = true := k4
            cases ql : its.toList with
            | nil =>
              rw [ql] at k5
              cases k5
            | cons v r =>
              rw [ql] at k5
              cases r with
              | cons _ _ => cases v <;> cases k5
              | nil =>
                cases v with
                | ref a =>
                  refine ⟨_, a, ⟨oc, od, .ref T, n9, n10, n11, n12, n13, n14, osl, rfl, q, k1', ?_, .inl rfl⟩, kp⟩
                  exact .inr ⟨List.cons_ne_nil _ _, T, _, its.toList, n, rfl, qT, by simp, by rw [ql]; exact .cons rfl .nil⟩
                | _ => cases k5
          | _ => cases k4
      | _ => cases k3
    | _ => cases c2
/-! ### the hook -/
abbrev Al : Type := Bool × List He.FnW
def obsL (fc : List Fc) (fn : List DefL) (lk : Lk) : Al := ((fc.all fun f => f.okL lk) && fn.all fun d => d.ok lk, fn.map fun d => fnL lk d.at_)
def valL (fn : List DefL) : Al := (true, fn.map DefL.val)
/-- the whole heap as a part -/
def allOf (h : Heap) : PySem.W.Frag := He.frG h.get? (List.range h.objs.size)
theorem frG_hit {g : Addr → Option Obj} {a : Addr} {o : Obj} (e : g a = some o) : ∀ as : List Addr, a ∈ as → (He.frG g as).lookup a = some o
  | [], h => absurd h (by simp)
  | b :: r, h => by
    unfold He.frG
    rw [List.filterMap_cons]
    by_cases q : a = b
    · subst q
      rw [e]
      show (match a == a with | true => some o | false => _) = some o
      rw [beq_self_eq_true]
    · have hr : a ∈ r := by
        rcases List.mem_cons.mp h with z | z
        · exact absurd z q
        · exact z
      have ih := frG_hit e r hr
      cases hb : g b with
      | none => exact ih
      | some ob =>
        show (match a == b with | true => some ob | false => (He.frG g r).lookup a) = some o
        rw [beq_eq_false_iff_ne.mpr q]
        exact ih
theorem allOf_get (h : Heap) : lkK (allOf h) = h.get? := by
  funext a
  cases e : h.get? a with
  | none =>
    show List.lookup a (allOf h) = none
    cases q : (allOf h).lookup a with
    | none => rfl
    | some o =>
      have := He.frG_at _ q
      rw [e] at this
      cases this
  | some o => exact frG_hit e _ (List.mem_range.mpr (Heap.lt_size e))
def Says (fc : List Fc) (fn : List DefL) (K : PySem.W.Frag) : Prop := obsL fc fn (lkK K) = valL fn
def hookL (fc : List Fc) (fn : List DefL) : PySem.W.Hook where
  α := Al
  obs := fun s => obsL fc fn s.heap.get?
  val := fun _ => valL fn
  says := fun _ h => ∃ K : PySem.W.Frag, K.In h ∧ Says fc fn K
  of := fun _ s e => ⟨allOf s.heap, He.frG_in, by unfold Says; rw [allOf_get]; exact e⟩
  keeps := fun _ _ _ ⟨K, hK, c⟩ k => ⟨K, PySem.W.Frag.In.keeps hK k, c⟩
theorem obsL_eq {fc : List Fc} {fn : List DefL} {g : Addr → Option Obj} {s : Shared} (h : ∀ a, g a = s.heap.get? a) : obsL fc fn g = (hookL fc fn).obs s := by
  have e : g = s.heap.get? := funext h
  rw [e] <;> rfl
section
variable {fc : List Fc} {fn : List DefL} {K : PySem.W.Frag}
theorem Says.fact (c : Says fc fn K) {f : Fc} (h : f ∈ fc) : f.okL (lkK K) = true := by
  have c1 := (He.ba (show ((fc.all fun f => f.okL (lkK K)) && fn.all fun d => d.ok (lkK K)) = true from congrArg (fun z : Al => z.1) c)).1
  exact List.all_eq_true.mp c1 f h
theorem Says.def_ (c : Says fc fn K) {d : DefL} (h : d ∈ fn) : fnL (lkK K) d.at_ = d.val ∧ d.ok (lkK K) = true := by
  have c2 := (He.ba (show ((fc.all fun f => f.okL (lkK K)) && fn.all fun d => d.ok (lkK K)) = true from congrArg (fun z : Al => z.1) c)).2
  have e : fn.map (fun d => fnL (lkK K) d.at_) = fn.map DefL.val := congrArg (fun z : Al => z.2) c
  refine ⟨?_, List.all_eq_true.mp c2 d h⟩
  have key : ∀ l : List DefL, l.map (fun d => fnL (lkK K) d.at_) = l.map DefL.val → d ∈ l → fnL (lkK K) d.at_ = d.val := by
    intro l
    induction l with
    | nil => intro _ q; exact absurd q (by simp)
    | cons x r ih =>
      intro e q
      simp only [List.map_cons, List.cons.injEq] at e
      rcases List.mem_cons.mp q with z | z
      · rw [z]; exact e.1
      · exact ih e.2 z
  exact key fn e h
theorem tup_ok {x : Str} {vs : List He.Dv} (h : (Fc.tup x vs).okL (lkK K) = true) (H : Hp) : SqT K H (He.ga K x) (vs.map (He.Dv.v [])) := by
  change (match K.lookup (He.ga K x) with
    | some ⟨.type c, _, .seq its _, _⟩ => decide (c = "tuple") && (decide (its.size ≤ sizeLine) && He.relAll (vs.map (He.Dv.v [])) its.toList)
    | _ => false) = true at h
  cases q : K.lookup (He.ga K x) with
  | none =>
    rw [q] at h
    cases h
  | some o =>
    obtain ⟨oc, od, dt, osl⟩ := o
    rw [q] at h
    cases oc with
    | type c =>
      cases dt with
      | seq its n =>
        obtain ⟨h1, h2⟩ := He.ba (show (decide (c = "tuple") && (decide (its.size ≤ sizeLine) && He.relAll (vs.map (He.Dv.v [])) its.toList)) = true from h)
        obtain ⟨h3, h4⟩ := He.ba h2
        exact .inr ⟨_, its, n, q, congrArg Value.type (of_decide_eq_true h1), rfl, of_decide_eq_true h3, He.relAll_ok h4⟩
      | _ => cases h
    | _ => cases dt <;> cases h
theorem same_ok {h : Heap} {mg : Str → Option Value} {x y : Str} (X : K.In h) (G : h.Ns mainGlobals mg) (c : (Fc.same x y).okL (lkK K) = true) : mg x = some (.ref (He.ga K y)) := PySem.W.mg_of X G (He.eqO_ok c)
end
end HkL
/-! text FactsD -/
/-! The facts that are read off the heap behind the top. Printed by gen_head.py. -/
namespace Sa
open PySem PySem.Spec PyProof.Rows L2
def d_is_name : HkL.DefL := ⟨("is_name", none), "is_name", "is_name", s_is_name, false⟩
def d_is_path : HkL.DefL := ⟨("is_path", none), "is_path", "is_path", s_is_path, false⟩
def d_is_place : HkL.DefL := ⟨("is_place", none), "is_place", "is_place", s_is_place, false⟩
def d_is_plain : HkL.DefL := ⟨("_is_plain", none), "_is_plain", "_is_plain", s_is_plain, false⟩
def d_is_line : HkL.DefL := ⟨("is_line", none), "is_line", "is_line", s_is_line, false⟩
def d_is_word : HkL.DefL := ⟨("is_word", none), "is_word", "is_word", s_is_word, false⟩
def d_is_lines : HkL.DefL := ⟨("is_lines", none), "is_lines", "is_lines", s_is_lines, false⟩
def d_is_inside : HkL.DefL := ⟨("is_inside", none), "is_inside", "is_inside", s_is_inside, false⟩
def d_are_files : HkL.DefL := ⟨("_are_files", none), "_are_files", "_are_files", s_are_files, false⟩
def d_Tree_init : HkL.DefL := ⟨("Tree", some "__init__"), "__init__", "Tree.__init__", m_Tree_init, true⟩
def d_Tree_files : HkL.DefL := ⟨("Tree", some "files"), "files", "Tree.files", m_Tree_files, false⟩
def d_Tree_lines : HkL.DefL := ⟨("Tree", some "lines"), "lines", "Tree.lines", m_Tree_lines, false⟩
def d_Tree_paths : HkL.DefL := ⟨("Tree", some "paths"), "paths", "Tree.paths", m_Tree_paths, false⟩
def d_Tree_above : HkL.DefL := ⟨("Tree", some "above"), "above", "Tree.above", m_Tree_above, false⟩
def d_Tree_is_folder : HkL.DefL := ⟨("Tree", some "is_folder"), "is_folder", "Tree.is_folder", m_Tree_is_folder, false⟩
def d_Tree_with_file : HkL.DefL := ⟨("Tree", some "with_file"), "with_file", "Tree.with_file", m_Tree_with_file, false⟩
def d_Tree_without : HkL.DefL := ⟨("Tree", some "without"), "without", "Tree.without", m_Tree_without, false⟩
def d_is_question : HkL.DefL := ⟨("is_question", none), "is_question", "is_question", s_is_question, false⟩
def d_check : HkL.DefL := ⟨("_check", none), "_check", "_check", s_check, false⟩
def d_check_action : HkL.DefL := ⟨("check_action", none), "check_action", "check_action", s_check_action, false⟩
def d_places_of : HkL.DefL := ⟨("places_of", none), "places_of", "places_of", s_places_of, false⟩
def d_names : HkL.DefL := ⟨("_names", none), "_names", "_names", s_names, false⟩
def d_rows : HkL.DefL := ⟨("_rows", none), "_rows", "_rows", s_rows, false⟩
def d_ask : HkL.DefL := ⟨("_ask", none), "_ask", "_ask", s_ask, false⟩
def d_is_blocked : HkL.DefL := ⟨("_is_blocked", none), "_is_blocked", "_is_blocked", s_is_blocked, false⟩
def d_write : HkL.DefL := ⟨("_write", none), "_write", "_write", s_write, false⟩
def d_move : HkL.DefL := ⟨("_move", none), "_move", "_move", s_move, false⟩
def d_splice : HkL.DefL := ⟨("_splice", none), "_splice", "_splice", s_splice, false⟩
def d_act : HkL.DefL := ⟨("act", none), "act", "act", s_act, false⟩
def d_is_good_row : HkL.DefL := ⟨("is_good_row", none), "is_good_row", "is_good_row", s_is_good_row, false⟩
def d_next_row : HkL.DefL := ⟨("next_row", none), "next_row", "next_row", s_next_row, false⟩
def d_walk : HkL.DefL := ⟨("walk", none), "walk", "walk", s_walk, false⟩
def d_is_check : HkL.DefL := ⟨("_is_check", none), "_is_check", "_is_check", s_is_check, false⟩
def d_check_check : HkL.DefL := ⟨("check_check", none), "check_check", "check_check", s_check_check, false⟩
def d_verdict : HkL.DefL := ⟨("verdict", none), "verdict", "verdict", s_verdict, false⟩
def d_first_change : HkL.DefL := ⟨("first_change", none), "first_change", "first_change", s_first_change, false⟩
def d_holds : HkL.DefL := ⟨("holds", none), "holds", "holds", s_holds, false⟩
def d_lead : HkL.DefL := ⟨("lead", none), "lead", "lead", s_lead, false⟩
def d_Session_init : HkL.DefL := ⟨("Session", some "__init__"), "__init__", "Session.__init__", m_Session_init, false⟩
def d_Line_init : HkL.DefL := ⟨("Line", some "__init__"), "__init__", "Line.__init__", m_Line_init, false⟩
def d_Line_first : HkL.DefL := ⟨("Line", some "first"), "first", "Line.first", m_Line_first, false⟩
def d_Line_leave : HkL.DefL := ⟨("Line", some "leave"), "leave", "Line.leave", m_Line_leave, false⟩
def d_Line_join : HkL.DefL := ⟨("Line", some "join"), "join", "Line.join", m_Line_join, false⟩
def d_Line_count : HkL.DefL := ⟨("Line", some "count"), "count", "Line.count", m_Line_count, false⟩
def d_Trunk_init : HkL.DefL := ⟨("Trunk", some "__init__"), "__init__", "Trunk.__init__", m_Trunk_init, false⟩
def d_Trunk_version : HkL.DefL := ⟨("Trunk", some "version"), "version", "Trunk.version", m_Trunk_version, false⟩
def d_Trunk_tree : HkL.DefL := ⟨("Trunk", some "tree"), "tree", "Trunk.tree", m_Trunk_tree, false⟩
def d_Trunk_entry : HkL.DefL := ⟨("Trunk", some "entry"), "entry", "Trunk.entry", m_Trunk_entry, false⟩
def d_Trunk_check_room : HkL.DefL := ⟨("Trunk", some "_check_room"), "_check_room", "Trunk._check_room", m_Trunk_check_room, false⟩
def d_Trunk_make : HkL.DefL := ⟨("Trunk", some "_make"), "_make", "Trunk._make", m_Trunk_make, false⟩
def d_Trunk_count_event : HkL.DefL := ⟨("Trunk", some "_count_event"), "_count_event", "Trunk._count_event", m_Trunk_count_event, false⟩
def d_Trunk_add : HkL.DefL := ⟨("Trunk", some "_add"), "_add", "Trunk._add", m_Trunk_add, false⟩
def d_Trunk_begin : HkL.DefL := ⟨("Trunk", some "begin"), "begin", "Trunk.begin", m_Trunk_begin, false⟩
def d_Trunk_known : HkL.DefL := ⟨("Trunk", some "_known"), "_known", "Trunk._known", m_Trunk_known, false⟩
def d_Trunk_opened : HkL.DefL := ⟨("Trunk", some "_opened"), "_opened", "Trunk._opened", m_Trunk_opened, false⟩
def d_Trunk_close : HkL.DefL := ⟨("Trunk", some "close"), "close", "Trunk.close", m_Trunk_close, false⟩
def d_Trunk_act : HkL.DefL := ⟨("Trunk", some "act"), "act", "Trunk.act", m_Trunk_act, false⟩
def d_Trunk_standing : HkL.DefL := ⟨("Trunk", some "standing"), "standing", "Trunk.standing", m_Trunk_standing, false⟩
def d_Trunk_refuse : HkL.DefL := ⟨("Trunk", some "_refuse"), "_refuse", "Trunk._refuse", m_Trunk_refuse, false⟩
def d_Trunk_is_barred : HkL.DefL := ⟨("Trunk", some "_is_barred"), "_is_barred", "Trunk._is_barred", m_Trunk_is_barred, false⟩
def d_Trunk_passes : HkL.DefL := ⟨("Trunk", some "_passes"), "_passes", "Trunk._passes", m_Trunk_passes, false⟩
def d_Trunk_submit : HkL.DefL := ⟨("Trunk", some "submit"), "submit", "Trunk.submit", m_Trunk_submit, false⟩
def d_Trunk_state : HkL.DefL := ⟨("Trunk", some "state"), "state", "Trunk.state", m_Trunk_state, false⟩
def d_Trunk_base : HkL.DefL := ⟨("Trunk", some "base"), "base", "Trunk.base", m_Trunk_base, false⟩
def d_Trunk_journal : HkL.DefL := ⟨("Trunk", some "journal"), "journal", "Trunk.journal", m_Trunk_journal, false⟩
def d_Trunk_sight : HkL.DefL := ⟨("Trunk", some "sight"), "sight", "Trunk.sight", m_Trunk_sight, false⟩
def d_Trunk_is_protected : HkL.DefL := ⟨("Trunk", some "is_protected"), "is_protected", "Trunk.is_protected", m_Trunk_is_protected, false⟩
def d_Trunk_require : HkL.DefL := ⟨("Trunk", some "require"), "require", "Trunk.require", m_Trunk_require, false⟩
def d_law_cell : HkL.DefL := ⟨("_law_cell", none), "_law_cell", "_law_cell", s_law_cell, false⟩
def d_law_digits : HkL.DefL := ⟨("_law_digits", none), "_law_digits", "_law_digits", s_law_digits, false⟩
def d_law_draw : HkL.DefL := ⟨("_law_draw", none), "_law_draw", "_law_draw", s_law_draw, false⟩
def d_law_alike : HkL.DefL := ⟨("_law_alike", none), "_law_alike", "_law_alike", s_law_alike, false⟩
def d_law_path : HkL.DefL := ⟨("_law_path", none), "_law_path", "_law_path", s_law_path, false⟩
def d_law_place : HkL.DefL := ⟨("_law_place", none), "_law_place", "_law_place", s_law_place, false⟩
def d_law_lines : HkL.DefL := ⟨("_law_lines", none), "_law_lines", "_law_lines", s_law_lines, false⟩
def d_law_question : HkL.DefL := ⟨("_law_question", none), "_law_question", "_law_question", s_law_question, false⟩
def d_law_action : HkL.DefL := ⟨("_law_action", none), "_law_action", "_law_action", s_law_action, false⟩
def d_law_table : HkL.DefL := ⟨("_law_table", none), "_law_table", "_law_table", s_law_table, false⟩
def d_law_inside : HkL.DefL := ⟨("_law_inside", none), "_law_inside", "_law_inside", s_law_inside, false⟩
def d_law_barred : HkL.DefL := ⟨("_law_barred", none), "_law_barred", "_law_barred", s_law_barred, false⟩
def d_law_names : HkL.DefL := ⟨("_law_names", none), "_law_names", "_law_names", s_law_names, false⟩
def d_law_found : HkL.DefL := ⟨("_law_found", none), "_law_found", "_law_found", s_law_found, false⟩
def d_law_told : HkL.DefL := ⟨("_law_told", none), "_law_told", "_law_told", s_law_told, false⟩
def d_law_with : HkL.DefL := ⟨("_law_with", none), "_law_with", "_law_with", s_law_with, false⟩
def d_law_spliced : HkL.DefL := ⟨("_law_spliced", none), "_law_spliced", "_law_spliced", s_law_spliced, false⟩
def d_law_act : HkL.DefL := ⟨("_law_act", none), "_law_act", "_law_act", s_law_act, false⟩
def d_law_files : HkL.DefL := ⟨("_law_files", none), "_law_files", "_law_files", s_law_files, false⟩
def d_law_run : HkL.DefL := ⟨("_law_run", none), "_law_run", "_law_run", s_law_run, false⟩
def d_law_check : HkL.DefL := ⟨("_law_check", none), "_law_check", "_law_check", s_law_check, false⟩
def d_law_acted : HkL.DefL := ⟨("_law_acted", none), "_law_acted", "_law_acted", s_law_acted, false⟩
def d_law_result : HkL.DefL := ⟨("_law_result", none), "_law_result", "_law_result", s_law_result, false⟩
def d_law_serial : HkL.DefL := ⟨("_law_serial", none), "_law_serial", "_law_serial", s_law_serial, false⟩
def d_law : HkL.DefL := ⟨("law", none), "law", "law", s_law, false⟩
def fn0 : List HkL.DefL := [d_is_name, d_is_path, d_is_place, d_is_plain, d_is_line, d_is_word, d_is_lines, d_is_inside, d_are_files, d_Tree_init, d_Tree_files, d_Tree_lines, d_Tree_paths, d_Tree_above, d_Tree_is_folder, d_Tree_with_file, d_Tree_without, d_is_question, d_check, d_check_action, d_places_of, d_names, d_rows, d_ask, d_is_blocked, d_write, d_move, d_splice, d_act, d_is_good_row]
def fn1 : List HkL.DefL := [d_next_row, d_walk, d_is_check, d_check_check, d_verdict, d_first_change, d_holds, d_lead, d_Session_init, d_Line_init, d_Line_first, d_Line_leave, d_Line_join, d_Line_count, d_Trunk_init, d_Trunk_version, d_Trunk_tree, d_Trunk_entry, d_Trunk_check_room, d_Trunk_make, d_Trunk_count_event, d_Trunk_add, d_Trunk_begin, d_Trunk_known, d_Trunk_opened, d_Trunk_close, d_Trunk_act, d_Trunk_standing, d_Trunk_refuse, d_Trunk_is_barred]
def fn2 : List HkL.DefL := [d_Trunk_passes, d_Trunk_submit, d_Trunk_state, d_Trunk_base, d_Trunk_journal, d_Trunk_sight, d_Trunk_is_protected, d_Trunk_require, d_law_cell, d_law_digits, d_law_draw, d_law_alike, d_law_path, d_law_place, d_law_lines, d_law_question, d_law_action, d_law_table, d_law_inside, d_law_barred, d_law_names, d_law_found, d_law_told, d_law_with, d_law_spliced, d_law_act, d_law_files, d_law_run, d_law_check, d_law_acted]
def fn3 : List HkL.DefL := [d_law_result, d_law_serial, d_law]
def fn : List HkL.DefL := fn0 ++ (fn1 ++ (fn2 ++ (fn3)))
def fa0 : List HkL.Fc := [.glo "is_name", .glo "is_path", .glo "is_place", .glo "_is_plain", .glo "is_line", .glo "is_word", .glo "is_lines", .glo "is_inside", .glo "_are_files", .glo "is_question", .glo "_check", .glo "check_action", .glo "places_of", .glo "_names", .glo "_rows", .glo "_ask", .glo "_is_blocked", .glo "_write", .glo "_move", .glo "_splice", .glo "act", .glo "is_good_row", .glo "next_row", .glo "walk", .glo "_is_check", .glo "check_check", .glo "verdict", .glo "first_change", .glo "holds", .glo "lead"]
def fa1 : List HkL.Fc := [.glo "_law_cell", .glo "_law_digits", .glo "_law_draw", .glo "_law_alike", .glo "_law_path", .glo "_law_place", .glo "_law_lines", .glo "_law_question", .glo "_law_action", .glo "_law_table", .glo "_law_inside", .glo "_law_barred", .glo "_law_names", .glo "_law_found", .glo "_law_told", .glo "_law_with", .glo "_law_spliced", .glo "_law_act", .glo "_law_files", .glo "_law_run", .glo "_law_check", .glo "_law_acted", .glo "_law_result", .glo "_law_serial", .glo "law", .glo "Tree", .glo "Session", .glo "Line", .glo "Trunk", .int "NAME_MOST" 8]
def fa2 : List HkL.Fc := [.int "DEPTH_MOST" 3, .int "LINE_MOST" 20, .int "LINES_MOST" 12, .int "WORD_MOST" 12, .str "LETTERS" "abcdefghijklmnopqrstuvwxyz0123456789", .int "PERCENT" 37, .int "FILES_MOST" 20, .glo "QUESTIONS", .tup "QUESTIONS" [.str "read", .str "kind", .str "list", .str "find", .str "count"], .glo "NONE", .tup "NONE" [.str "none"], .glo "DONE", .tup "DONE" [.str "done"], .int "ROWS_MOST" 24, .int "CASES_MOST" 6, .glo "PASS", .tup "PASS" [.str "pass"], .glo "FAIL", .tup "FAIL" [.str "fail"], .int "SESSIONS_MOST" 6, .int "VERSIONS_MOST" 200, .int "JOURNAL_MOST" 40, .int "CHECKS_MOST" 4, .int "VERDICTS_MOST" 5, .int "PATIENCE_MOST" 9, .free "len", .free "all", .free "any", .free "set", .free "tuple"]
def fa3 : List HkL.Fc := [.free "sorted", .free "list", .free "range", .free "enumerate", .free "ord", .free "str", .free "int", .free "repr", .cls "Tree", .mkr "Tree", .noat "Tree" "_files", .cls "Session", .mkr "Session", .noat "Session" "name", .noat "Session" "base", .noat "Session" "journal", .noat "Session" "refusals", .noat "Session" "state", .cls "Line", .mkr "Line", .noat "Line" "sessions", .noat "Line" "is_protected", .noat "Line" "_events", .cls "Trunk", .mkr "Trunk", .noat "Trunk" "_patience", .noat "Trunk" "_allowance", .noat "Trunk" "_trees", .noat "Trunk" "_entries", .noat "Trunk" "_sessions"]
def fa4 : List HkL.Fc := [.noat "Trunk" "_line", .noat "Trunk" "_checks", .noat "Trunk" "_verdicts", .noat "Trunk" "_runs", .meth "Tree" "files", .meth "Tree" "lines", .meth "Tree" "paths", .meth "Tree" "above", .meth "Tree" "is_folder", .meth "Tree" "with_file", .meth "Tree" "without", .meth "Line" "first", .meth "Line" "leave", .meth "Line" "join", .meth "Line" "count", .meth "Trunk" "version", .meth "Trunk" "tree", .meth "Trunk" "entry", .meth "Trunk" "_check_room", .meth "Trunk" "_make", .meth "Trunk" "_count_event", .meth "Trunk" "_add", .meth "Trunk" "begin", .meth "Trunk" "_known", .meth "Trunk" "_opened", .meth "Trunk" "close", .meth "Trunk" "act", .meth "Trunk" "standing", .meth "Trunk" "_refuse", .meth "Trunk" "_is_barred"]
def fa5 : List HkL.Fc := [.meth "Trunk" "_passes", .meth "Trunk" "submit", .meth "Trunk" "state", .meth "Trunk" "base", .meth "Trunk" "journal", .meth "Trunk" "sight", .meth "Trunk" "is_protected", .meth "Trunk" "require", .same "act_actions" "act", .noat "Session" "files", .noat "Line" "files", .noat "Trunk" "files"]
def fa : List HkL.Fc := fa0 ++ (fa1 ++ (fa2 ++ (fa3 ++ (fa4 ++ (fa5)))))
def loose0 : List Str := ["_wall", "__name__", "TrunkError", "OutOfRange", "NoSession", "TooManySessions", "WrongPosition", "JournalFull", "TooManyVersions", "TooManyChecks", "NoCheck", "NAME_MOST", "DEPTH_MOST", "LINE_MOST", "LINES_MOST", "WORD_MOST", "LETTERS", "PERCENT", "is_name", "is_path", "is_place", "_is_plain", "is_line", "is_word", "is_lines", "is_inside", "FILES_MOST", "_are_files", "Tree", "QUESTIONS"]
def loose1 : List Str := ["NONE", "DONE", "is_question", "_check", "check_action", "places_of", "_names", "_rows", "_ask", "_is_blocked", "_write", "_move", "_splice", "act", "act_actions", "ROWS_MOST", "CASES_MOST", "is_good_row", "next_row", "walk", "PASS", "FAIL", "_is_check", "check_check", "verdict", "run", "first_change", "holds", "lead", "SESSIONS_MOST"]
def loose2 : List Str := ["VERSIONS_MOST", "JOURNAL_MOST", "CHECKS_MOST", "VERDICTS_MOST", "PATIENCE_MOST", "Session", "Line", "Trunk", "_law_cell", "_law_digits", "_law_draw", "_law_alike", "_law_path", "_law_place", "_law_lines", "_law_question", "_law_action", "_law_table", "_law_inside", "_law_barred", "_law_names", "_law_found", "_law_told", "_law_with", "_law_spliced", "_law_act", "_law_files", "_law_run", "_law_check", "_law_acted"]
def loose3 : List Str := ["_law_result", "_law_serial"]
def loose : List Str := loose0 ++ (loose1 ++ (loose2 ++ (loose3)))
end Sa
/-! text Facts -/
/-! What a def's proof takes from the top: facts by their place, and the rules that make a promise of a body. -/
namespace Sa
open PySem PySem.Spec L2 PyProof.Rows
/-! ### what may be called: a def, a method, a class (nothing is raised) -/
structure Cal (P : Program) (w : World) (K : PySem.W.Frag) (mg : Str → Option Value) (base : Heap) (k : Nat) (x : Str) (sp : Sp) : Prop where
  ex : ∃ (f : Addr) (fd : FuncData) (ps : List Str), FnOk P w K mg base CX0 k f fd ps sp ∧ mg x = some (.ref f) ∧ PySem.W.keepIn K (.ref f) = true ∧ Binds K fd ps []
structure Met (P : Program) (w : World) (K : PySem.W.Frag) (mg : Str → Option Value) (base : Heap) (k : Nat) (C : Addr) (m : Str) (sp : Sp) : Prop where
  ex : ∃ (f : Addr) (fd : FuncData) (ps : List Str), Cls K C ∧ Meth K C m f ∧ FnOk P w K mg base CX0 k f fd ps sp ∧ Binds K fd ps []
structure Mak (P : Program) (w : World) (K : PySem.W.Frag) (mg : Str → Option Value) (base : Heap) (k : Nat) (x : Str) (C : Addr) (sp : Sp) : Prop where
  ex : ∃ (f : Addr) (fd : FuncData) (ps : List Str), Mk K C f ∧ FnOk P w K mg base CX0 k f fd ps sp ∧ mg x = some (.ref C) ∧ Binds K fd ps []
section
variable {X : Cx} {k j : Nat} {C : Addr} {x m : Str} {sp : Sp} {p pos apos : Pos} {e o : Expr} {es : List Expr} {ta : TE} {t : TA}
theorem pe_gc {v : V} (hg : Gl X x) (h : ∃ u, X.mg x = some u ∧ RelV v u) (hd : (x == ("__debug__" : Str)) = false := by decide) : PE X (.Name x pos) (tC v) :=
  let ⟨_, hm, r⟩ := h
  pe_glob hg hm r hd
theorem pe_c (c : Cal X.prog X.w X.K X.mg X.base k x sp) (hr : Room j X.A) (hk : k ≤ j) (hg : Gl X x) (ha : PA X (e :: es) t)
    (hdb : (x == ("__debug__" : Str)) = false := by decide) (he : starEach (e :: es) X.env = (false, eval e X.env) :: starEach es X.env := by rfl) (hpl : (backTo pos (starEach es X.env)).any (·.1) = false := by rfl) :
    PE X (.Call (.Name x p) (e :: es) [] pos) (tCall sp [] E0 t) :=
  let ⟨_, _, _, F, hm, kp, b⟩ := c.ex
  pe_call F (hr.mono hk) hg hm kp b .nil pass0 ha hdb he hpl
theorem pe_mk (c : Mak X.prog X.w X.K X.mg X.base k x C sp) (hr : Room j X.A) (hk : k + 1 ≤ j) (hg : Gl X x) (ha : PA X (e :: es) t)
    (hdb : (x == ("__debug__" : Str)) = false := by decide) (he : starEach (e :: es) X.env = (false, eval e X.env) :: starEach es X.env := by rfl) (hpl : (backTo pos (starEach es X.env)).any (·.1) = false := by rfl) :
    PE X (.Call (.Name x p) (e :: es) [] pos) (tMake C sp [] E0 t) :=
  let ⟨_, _, _, M, F, hm, b⟩ := c.ex
  pe_make M F (hr.mono hk) hg hm b .nil pass0 ha hdb he hpl
theorem pe_mk0 (c : Mak X.prog X.w X.K X.mg X.base k x C sp) (hr : Room j X.A) (hk : k + 1 ≤ j) (hg : Gl X x) (hdb : (x == ("__debug__" : Str)) = false := by decide) :
    PE X (.Call (.Name x p) [] [] pos) (tMake C sp [] E0 tNil) :=
  let ⟨_, _, _, M, F, hm, b⟩ := c.ex
  pe_make0 M F (hr.mono hk) hg hm b .nil pass0 hdb
theorem pe_mt {pl : Sem Bool} (c : Met X.prog X.w X.K X.mg X.base k C m sp) (hr : Room j X.A) (hk : k ≤ j) (he : PE X o ta) (ha : PA X (e :: es) t)
    (hst : starEach (e :: es) X.env = (false, eval e X.env) :: starEach es X.env := by rfl) (hpl : (backTo pos (starEach es X.env)).any (·.1) = false := by rfl)
    (ht : eval (.Call (.Attribute o m apos) (e :: es) [] pos) X.env = (do
      let ov ← eval o X.env
      standAt apos.atName
      let (g, first) ← holding [ov] (getMethod ov m pl)
      callWith pos g first (backTo pos (starEach (e :: es) X.env)) (backToKw pos (keywordEach [] X.env))) := by rfl) :
    PE X (.Call (.Attribute o m apos) (e :: es) [] pos) (tMeth C m sp [] E0 ta t) :=
  let ⟨_, _, _, hc, hm, F, b⟩ := c.ex
  pe_meth (pl := pl) he hc hm F (hr.mono hk) b .nil pass0 ha hst hpl ht
theorem pe_mt0 {pl : Sem Bool} (c : Met X.prog X.w X.K X.mg X.base k C m sp) (hr : Room j X.A) (hk : k ≤ j) (he : PE X o ta)
    (ht : eval (.Call (.Attribute o m apos) [] [] pos) X.env = (do
      let ov ← eval o X.env
      standAt apos.atName
      let (g, first) ← holding [ov] (getMethod ov m pl)
      callWith pos g first (backTo pos (starEach [] X.env)) (backToKw pos (keywordEach [] X.env))) := by rfl) :
    PE X (.Call (.Attribute o m apos) [] [] pos) (tMeth C m sp [] E0 ta tNil) :=
  let ⟨_, _, _, hc, hm, F, b⟩ := c.ex
  pe_meth0 (pl := pl) he hc hm F (hr.mono hk) b .nil pass0 ht
end
/-- the top as the run has left it -/
structure Tx (K : PySem.W.Frag) (mg : Str → Option Value) : Prop where
  c : HkL.Says fa fn K
  h : ∃ h : Heap, K.In h ∧ h.Ns mainGlobals mg
section
variable {P : Program} {w : World} {K : PySem.W.Frag} {mg : Str → Option Value} {base : Heap}
theorem Tx.fact (T : Tx K mg) (i : Nat) {f : HkL.Fc} (h : fa[i]? = some f) : f.okL (HkL.lkK K) = true := T.c.fact (List.mem_of_getElem? h)
theorem Tx.fa_ (T : Tx K mg) (i : Nat) {f : HkL.Fc} {g : He.Fa} (h : fa[i]? = some f) (e : HkL.toFa f = some g) : g.ok K = true := HkL.okL_fa e (T.fact i h)
theorem Tx.glo (T : Tx K mg) (i : Nat) {x : Str} (h : fa[i]? = some (.glo x)) : mg x = some (.ref (He.ga K x)) := by
  obtain ⟨hp, X, G⟩ := T.h
  exact He.glo_ok X G (T.fa_ i h rfl)
theorem Tx.same (T : Tx K mg) (i : Nat) {x y : Str} (h : fa[i]? = some (.same x y)) : mg x = some (.ref (He.ga K y)) := by
  obtain ⟨hp, X, G⟩ := T.h
  exact HkL.same_ok X G (T.fact i h)
theorem Tx.free (T : Tx K mg) (i : Nat) {x : Str} (h : fa[i]? = some (.free x) := by rfl) : mg x = none := by
  obtain ⟨hp, X, G⟩ := T.h
  exact He.free_ok X G (T.fa_ i h rfl)
theorem Tx.gint (T : Tx K mg) (i : Nat) {x : Str} {n : Int} (h : fa[i]? = some (.int x n) := by rfl) : ∃ u, mg x = some u ∧ RelV (.int n) u := by
  obtain ⟨hp, X, G⟩ := T.h
  obtain ⟨t, e⟩ := He.int_ok X G (T.fa_ i h rfl)
  exact ⟨_, e, t, rfl⟩
theorem Tx.gstr (T : Tx K mg) (i : Nat) {x z : Str} (h : fa[i]? = some (.str x z) := by rfl) : ∃ u, mg x = some u ∧ RelV (.str z) u := by
  obtain ⟨hp, X, G⟩ := T.h
  obtain ⟨t, e⟩ := He.str_ok X G (T.fa_ i h rfl)
  exact ⟨_, e, t, rfl⟩
theorem Tx.gref (T : Tx K mg) (i : Nat) {x : Str} (h : fa[i]? = some (.glo x) := by rfl) : ∃ u, mg x = some u ∧ RelV (.ref (He.ga K x)) u := ⟨_, T.glo i h, rfl⟩
theorem Tx.tup (T : Tx K mg) (i : Nat) {x : Str} {vs : List He.Dv} (h : fa[i]? = some (.tup x vs)) (H : Hp) : SqT K H (He.ga K x) (vs.map (He.Dv.v [])) := HkL.tup_ok (T.fact i h) H
theorem Tx.cls (T : Tx K mg) (i : Nat) {x : Str} (h : fa[i]? = some (.cls x)) : Cls K (He.ga K x) := He.cls_ok (T.fa_ i h rfl)
theorem Tx.noat (T : Tx K mg) (i : Nat) {x f : Str} (h : fa[i]? = some (.noat x f)) : NoAttr K (He.ga K x) f := He.noat_ok (T.fa_ i h rfl)
theorem Tx.meth (T : Tx K mg) (i : Nat) {x m : Str} (h : fa[i]? = some (.meth x m)) : Meth K (He.ga K x) m (He.ma K (He.ga K x) m) := He.meth_ok (T.fa_ i h rfl)
theorem Tx.mkr (T : Tx K mg) (i : Nat) {x : Str} (h : fa[i]? = some (.mkr x)) : Mk K (He.ga K x) (He.ma K (He.ga K x) "__init__") := He.mkr_ok (T.fa_ i h rfl)
theorem Tx.fun_ (T : Tx K mg) (i : Nat) {a : Str × Option Str} {x q : Str} {st : Stmt} (h : fn[i]? = some ⟨a, x, q, st, false⟩) : ∃ fd, Fun K x q st (He.fAd K a) fd := by
  obtain ⟨h1, h2⟩ := T.c.def_ (List.mem_of_getElem? h)
  exact HkL.DefL.fun_ rfl h1 h2
theorem Tx.funD (T : Tx K mg) (i : Nat) {a : Str × Option Str} {x q : Str} {st : Stmt} (h : fn[i]? = some ⟨a, x, q, st, true⟩) : ∃ (fd : FuncData) (d : Addr), FunD K x q (defArgs st) (defBody st) (defScope st) [.ref d] [] (He.fAd K a) fd := by
  obtain ⟨h1, h2⟩ := T.c.def_ (List.mem_of_getElem? h)
  exact HkL.DefL.funD rfl h1 h2
/-- a body, as a term of rules with its reading -/
abbrev Body (P : Program) (w : World) (K : PySem.W.Frag) (mg : Str → Option Value) (base : Heap) (q : Str) (st : Stmt) (N : List Str) (k : Nat) (sp : Sp) : Prop :=
  ∀ (f : Addr) (cdv : Value) (A : Around) (outer : List Env) (s : Shared) (H : Hp) (vs : List V) (Q : VK) (E : XK), Room k (A.deeper (envOfC q (defScope st) s.heap.objs.size f cdv)) → sp vs H Q E →
    ∃ t, PSs (cxOf CX0 P w K mg base N q (defScope st) f cdv A outer s H E).nox (defBody st) t ∧ t { nx := fun _ H' => Q .non H', rt := Q } (start N vs) H
/-- how arguments are bound -/
abbrev BindQ (x q : Str) (st : Stmt) (ps : List Str) : Prop := ∀ (kV doc pm : Value) (an : Option Addr) (cdv ct : Value) (us : List Value), us.length = ps.length →
  bindArgs (PySem.W.fnOf x q (defArgs st) (defBody st) (defScope st) .none kV doc pm an cdv ct) ⟨us, []⟩ = pure (ps.zip us)
/-- a def of the module -/
theorem Tx.cal (T : Tx K mg) (i j : Nat) {x : Str} {st : Stmt} {N ps : List Str} {k : Nat} {sp : Sp} (hf : fn[i]? = some ⟨(x, none), x, x, st, false⟩) (hg : fa[j]? = some (.glo x))
    (hb : BindQ x x st ps) (S : FnScope N ps (defScope st)) (len : ∀ vs H Q E, sp vs H Q E → vs.length = ps.length) (body : Body P w K mg base x st N k sp) : Cal P w K mg base (k + 1) x sp := by
  obtain ⟨fd, F⟩ := T.fun_ i hf
  have b : Binds K fd ps [] := F.binds hb
  exact ⟨_, fd, ps, F.ok S len fun cdv A outer s H vs Q E hr h => body _ cdv A outer s H vs Q E hr h, T.glo j hg, F.kp, b⟩
/-- the same def under another name -/
theorem Tx.alias (T : Tx K mg) (i : Nat) {x y : Str} {k : Nat} {sp : Sp} (j : Nat) (hj : fa[j]? = some (.glo x)) (h : fa[i]? = some (.same y x)) (c : Cal P w K mg base k x sp) : Cal P w K mg base k y sp := by
  obtain ⟨f, fd, ps, F, hm, kp, b⟩ := c.ex
  have e1 := T.glo j hj
  rw [hm] at e1
  have e2 := T.same i h
  rw [← e1] at e2
  exact ⟨f, fd, ps, F, e2, kp, b⟩
/-- a method -/
theorem Tx.met (T : Tx K mg) (i j c : Nat) {C x q : Str} {st : Stmt} {N ps : List Str} {k : Nat} {sp : Sp} (hf : fn[i]? = some ⟨(C, some x), x, q, st, false⟩) (hg : fa[j]? = some (.meth C x)) (hc : fa[c]? = some (.cls C))
    (hb : BindQ x q st ps) (S : FnScope N ps (defScope st)) (len : ∀ vs H Q E, sp vs H Q E → vs.length = ps.length) (body : Body P w K mg base q st N k sp) : Met P w K mg base (k + 1) (He.ga K C) x sp := by
  obtain ⟨fd, F⟩ := T.fun_ i hf
  have b : Binds K fd ps [] := F.binds hb
  exact ⟨_, fd, ps, T.cls c hc, T.meth j hg, F.ok S len fun cdv A outer s H vs Q E hr h => body _ cdv A outer s H vs Q E hr h, b⟩
/-- a class that is made by its name -/
theorem Tx.mak (T : Tx K mg) (i j g : Nat) {C q : Str} {st : Stmt} {N ps : List Str} {k : Nat} {sp : Sp} (hf : fn[i]? = some ⟨(C, some "__init__"), "__init__", q, st, false⟩) (hm : fa[j]? = some (.mkr C)) (hg : fa[g]? = some (.glo C))
    (hb : BindQ "__init__" q st ps) (S : FnScope N ps (defScope st)) (len : ∀ vs H Q E, sp vs H Q E → vs.length = ps.length) (body : Body P w K mg base q st N k sp) : Mak P w K mg base (k + 1) C (He.ga K C) sp := by
  obtain ⟨fd, F⟩ := T.fun_ i hf
  have b : Binds K fd ps [] := F.binds hb
  exact ⟨_, fd, ps, T.mkr j hm, F.ok S len fun cdv A outer s H vs Q E hr h => body _ cdv A outer s H vs Q E hr h, T.glo g hg, b⟩
end
theorem f_at {i : Nat} {x : Str} {st : Stmt} (h : fn[i]? = some ⟨(x, none), x, x, st, false⟩) : fn[i]? = some ⟨(x, none), x, x, st, false⟩ := h
theorem g_at {i : Nat} {x : Str} (h : fa[i]? = some (.glo x)) : fa[i]? = some (.glo x) := h
/-! ### built-in names -/
theorem bv_len : bootBuiltins "len" = some (.builtin "len") := by decide +kernel
theorem bv_all : bootBuiltins "all" = some (.builtin "all") := by decide +kernel
theorem bv_any : bootBuiltins "any" = some (.builtin "any") := by decide +kernel
theorem bv_sorted : bootBuiltins "sorted" = some (.builtin "sorted") := by decide +kernel
theorem bv_ord : bootBuiltins "ord" = some (.builtin "ord") := by decide +kernel
theorem bv_repr : bootBuiltins "repr" = some (.builtin "repr") := by decide +kernel
theorem bv_tuple : bootBuiltins "tuple" = some (.type "tuple") := by decide +kernel
theorem bv_list : bootBuiltins "list" = some (.type "list") := by decide +kernel
theorem bv_int : bootBuiltins "int" = some (.type "int") := by decide +kernel
theorem bv_str : bootBuiltins "str" = some (.type "str") := by decide +kernel
theorem bv_set : bootBuiltins "set" = some (.type "set") := by decide +kernel
end Sa
/-! text Data -/
/-! The plain model: paths, lines, files, actions, answers; what an action does. -/
namespace Sa
open PySem L2 PyProof.Rows
def P10 : List Str := ["a", "a/x", "a/y", "b", "b/x", "b/x/z", "c", "c/q", "d", "e"]
def P11 : List Str := "" :: P10
def L5 : List Str := ["", "p", "p q", "q", "r"]
def W4 : List Str := ["p", "p q", "q", "r"]
/-- all first names behind a place, rising -/
def NS : List Str := ["a", "a/", "b", "b/", "c", "c/", "d", "e", "q", "x", "x/", "y", "z"]
abbrev Files : Type := Str → Option (List Str)
inductive Act where
  | read (p : Str) | kind (q : Str) | list (q : Str) | find (q w : Str) | count (q : Str)
  | write (p : Str) (ls : List Str) | remove (p : Str) | move (p t : Str) | splice (p : Str) (old new : List Str)
  deriving DecidableEq
inductive Ans where
  | lines (ls : List Str) | none | file | folder | names (ns : List Str) | found (rs : List (Str × Nat)) | many (n : Nat)
  | blocked | full | done | missing | absent | ambiguous | long
  deriving DecidableEq
/-! ### texts -/
def isInB (p q : Str) : Bool := decide (q = "") || Txt.startswith p (q ++ "/")
def behind (p q : Str) : Str := cutS p (some (if q = "" then 0 else (q.length : Int) + 1)) none
def nameOf (p q : Str) : Str := (Txt.partition (behind p q) "/").1 ++ (Txt.partition (behind p q) "/").2.1
def inLine (w l : Str) : Bool := !(Builtin.Str.occurrences l w 0 l.length 1).isEmpty
/-! ### files -/
def keys (F : Files) : List Str := P10.filter fun p => (F p).isSome
def inside (F : Files) (q : Str) : List Str := (keys F).filter fun p => isInB p q
def above (F : Files) (p : Str) : List Str := (keys F).filter fun o => isInB p o
def folderB (F : Files) (q : Str) : Bool := decide (q = "") || decide (0 < (inside F q).length)
def names (F : Files) (q : Str) : List Str := NS.filter fun n => (inside F q).any fun p => decide (nameOf p q = n)
def rowsOf (p w : Str) (ls : List Str) : List (Str × Nat) := ((List.range ls.length).filter fun k => inLine w (ls.getD k "")).map fun k => (p, k)
def atOrIn (F : Files) (q : Str) : List Str := (keys F).filter fun p => isInB p q || decide (p = q)
def found (F : Files) (q w : Str) : List (Str × Nat) := (atOrIn F q).flatMap fun p => rowsOf p w ((F p).getD [])
def blockedB (F : Files) (p : Str) : Bool := decide (0 < (inside F p).length) || decide (0 < (above F p).length)
def put (F : Files) (p : Str) (ls : List Str) : Files := fun q => if q = p then some ls else F q
def del (F : Files) (p : Str) : Files := fun q => if q = p then none else F q
def places (ls part : List Str) : List Nat := (List.range (ls.length + 1 - part.length)).filter fun k => decide ((ls.drop k).take part.length = part)
def told (F : Files) : Act → Ans
  | .read p => match F p with
    | some ls => .lines ls
    | none => .none
  | .kind q => if (F q).isSome then .file else if folderB F q then .folder else .none
  | .list q => if folderB F q then .names (names F q) else .none
  | .find q w => if (F q).isSome || folderB F q then .found (found F q w) else .none
  | .count q => if folderB F q then .many (inside F q).length else .none
  | _ => .none
def spliced (F : Files) (p : Str) (old new ls : List Str) : Ans × Files :=
  match places ls old with
  | [] => (.absent, F)
  | k :: r => if r ≠ [] then (.ambiguous, F) else if (12 : Int) < (ls.length : Int) - (old.length : Int) + (new.length : Int) then (.long, F) else (.done, put F p (ls.take k ++ new ++ ls.drop (k + old.length)))
def actF (F : Files) : Act → Ans × Files
  | .write p ls => if blockedB F p then (.blocked, F) else if (F p).isNone && decide ((keys F).length = 20) then (.full, F) else (.done, put F p ls)
  | .remove p => if (F p).isNone then (.missing, F) else (.done, del F p)
  | .move p t => match F p with
    | none => (.missing, F)
    | some ls => if ((del F p) t).isSome || blockedB (del F p) t then (.blocked, F) else (.done, put (del F p) t ls)
  | .splice p old new => match F p with
    | none => (.missing, F)
    | some ls => spliced F p old new ls
  | a => (told F a, F)
def isQ : Act → Bool
  | .read _ | .kind _ | .list _ | .find _ _ | .count _ => true
  | _ => false
/-! ### what is within bounds -/
def GoodLs (ls : List Str) : Prop := ls.length ≤ 12 ∧ ∀ l ∈ ls, l ∈ L5
structure GoodF (F : Files) : Prop where
  one : ∀ p ls, F p = some ls → p ∈ P10 ∧ GoodLs ls
  two : ∀ p q ls ms, F p = some ls → F q = some ms → isInB p q = false
def GoodA : Act → Prop
  | .read p => p ∈ P10
  | .kind q => q ∈ P11
  | .list q => q ∈ P11
  | .find q w => q ∈ P11 ∧ w ∈ W4
  | .count q => q ∈ P11
  | .write p ls => p ∈ P10 ∧ GoodLs ls
  | .remove p => p ∈ P10
  | .move p t => p ∈ P10 ∧ t ∈ P10
  | .splice p old new => p ∈ P10 ∧ GoodLs old ∧ old ≠ [] ∧ GoodLs new
/-! ### journals -/
abbrev Jr : Type := List (Act × Ans)
def runF (F : Files) : List Act → Jr × Files
  | [] => ([], F)
  | a :: r => ((a, (actF F a).1) :: (runF (actF F a).2 r).1, (runF (actF F a).2 r).2)
def leadF (F : Files) : List Act → Files
  | [] => F
  | a :: r => leadF (actF F a).2 r
/-- the first change from entry i on -/
def changeF (F : Files) (i : Nat) : Jr → Option (Nat × Ans)
  | [] => none
  | e :: r => if (actF F e.1).1 = e.2 then changeF (actF F e.1).2 (i + 1) r else some (i, (actF F e.1).1)
def holdsF (F : Files) (j : Jr) : Prop := changeF F 0 j = none
/-! ### as data of the program -/
def dL (ls : List Str) : PyData := .tuple (ls.map .str)
def dA : Act → PyData
  | .read p => .tuple [.str "read", .str p]
  | .kind q => .tuple [.str "kind", .str q]
  | .list q => .tuple [.str "list", .str q]
  | .find q w => .tuple [.str "find", .str q, .str w]
  | .count q => .tuple [.str "count", .str q]
  | .write p ls => .tuple [.str "write", .str p, dL ls]
  | .remove p => .tuple [.str "remove", .str p]
  | .move p t => .tuple [.str "move", .str p, .str t]
  | .splice p old new => .tuple [.str "splice", .str p, dL old, dL new]
def dRow (r : Str × Nat) : PyData := .tuple [.str r.1, .int (r.2 : Int)]
def dR : Ans → PyData
  | .lines ls => .tuple [.str "lines", dL ls]
  | .none => .tuple [.str "none"]
  | .file => .tuple [.str "file"]
  | .folder => .tuple [.str "folder"]
  | .names ns => .tuple [.str "names", dL ns]
  | .found rs => .tuple [.str "found", .tuple (rs.map dRow)]
  | .many n => .tuple [.str "many", .int (n : Int)]
  | .blocked => .tuple [.str "blocked"]
  | .full => .tuple [.str "full"]
  | .done => .tuple [.str "done"]
  | .missing => .tuple [.str "missing"]
  | .absent => .tuple [.str "absent"]
  | .ambiguous => .tuple [.str "ambiguous"]
  | .long => .tuple [.str "long"]
def dE (e : Act × Ans) : PyData := .tuple [dA e.1, dR e.2]
def dJ (j : Jr) : PyData := .tuple (j.map dE)
def dFl (F : Files) (p : Str) : PyData := .tuple [.str p, dL ((F p).getD [])]
def dFs (F : Files) : PyData := .tuple ((keys F).map (dFl F))
/-! ### finite facts -/
theorem lawIn : ∀ p ∈ P10, ∀ q ∈ P11, (decide (q = "") || decide (cutS p none (some ((q.length : Int) + 1)) = q ++ "/")) = isInB p q := by decide +kernel
theorem name_in : ∀ p ∈ P10, ∀ q ∈ P11, isInB p q = true → nameOf p q ∈ NS := by decide +kernel
theorem lawName : ∀ p ∈ P10, ∀ q ∈ P11, isInB p q = true →
    (Txt.split (behind p q) "/").headD "" ++ (if 1 < (Txt.split (behind p q) "/").length then "/" else "") = nameOf p q ∧ Txt.split (behind p q) "/" ≠ [] := by decide +kernel
theorem ns_sorted : sortedS NS = true := by decide +kernel
theorem p10_sorted : sortedS P10 = true := by decide +kernel
theorem p10_nodup : P10.Nodup := by decide +kernel
theorem ns_nodup : NS.Nodup := by decide +kernel
theorem len5 : ∀ l ∈ L5, l.length ≤ 3 := by decide +kernel
theorem len10 : ∀ p ∈ P11, p.length ≤ 5 := by decide +kernel
end Sa
/-! text Math -/
/-! Facts of the plain model. -/
namespace Sa
open PySem PySem.Spec L2 PyProof.Rows
/-! ### one sorted list -/
def rk (S : List Str) (x : Str) : Int := (S.idxOf x : Nat)
theorem rk_inj {S : List Str} {x y : Str} (hx : x ∈ S) (hy : y ∈ S) (h : rk S x = rk S y) : x = y := by
  have e : S.idxOf x = S.idxOf y := by
    unfold rk at h
    omega
  have h1 := List.getElem_idxOf (List.idxOf_lt_length_of_mem hx)
  have h2 := List.getElem_idxOf (List.idxOf_lt_length_of_mem hy)
  rw [← h1, ← h2]
  congr 1
theorem map_rk_inj {S : List Str} : ∀ {xs ys : List Str}, (∀ x ∈ xs, x ∈ S) → (∀ y ∈ ys, y ∈ S) → xs.map (rk S) = ys.map (rk S) → xs = ys
  | [], [], _, _, _ => rfl
  | [], _ :: _, _, _, h => nomatch h
  | _ :: _, [], _, _, h => nomatch h
  | x :: xs, y :: ys, hx, hy, h => by
    simp only [List.map_cons, List.cons.injEq] at h
    rw [rk_inj (hx x List.mem_cons_self) (hy y List.mem_cons_self) h.1, map_rk_inj (fun z hz => hx z (List.mem_cons_of_mem _ hz)) (fun z hz => hy z (List.mem_cons_of_mem _ hz)) h.2]
def Ranked (S : List Str) : Prop := ∀ x ∈ S, ∀ y ∈ S, ltCps x.cps.toList y.cps.toList = decide (rk S x < rk S y)
theorem rising_pw {S : List Str} (hS : Ranked S) : ∀ {ys : List Str} {p : Str}, p ∈ S → (∀ y ∈ ys, y ∈ S) → risingS p ys = true → (∀ y ∈ ys, rk S p ≤ rk S y) ∧ (ys.map (rk S)).Pairwise (· ≤ ·)
  | [], _, _, _, _ => ⟨fun _ h => absurd h (by simp), List.Pairwise.nil⟩
  | y :: ys, p, hp, hy, h => by
    unfold risingS at h
    obtain ⟨h1, h2⟩ := Bool.and_eq_true_iff.mp h
    have my := hy y List.mem_cons_self
    rw [hS y my p hp] at h1
    have h3 : rk S p ≤ rk S y := by
      have : ¬ rk S y < rk S p := by simpa using h1
      omega
    obtain ⟨i1, i2⟩ := rising_pw hS my (fun z hz => hy z (List.mem_cons_of_mem _ hz)) h2
    refine ⟨fun z hz => ?_, ?_⟩
    · rcases List.mem_cons.mp hz with e | hz
      · rw [e]
        exact h3
      · exact Int.le_trans h3 (i1 z hz)
    · rw [List.map_cons]
      refine List.Pairwise.cons (fun z hz => ?_) i2
      obtain ⟨w, hw, rfl⟩ := List.mem_map.mp hz
      exact i1 w hw
theorem sorted_pw {S : List Str} (hS : Ranked S) {ys : List Str} (hy : ∀ y ∈ ys, y ∈ S) (h : sortedS ys = true) : (ys.map (rk S)).Pairwise (· ≤ ·) := by
  cases ys with
  | nil => exact List.Pairwise.nil
  | cons y ys =>
    obtain ⟨i1, i2⟩ := rising_pw hS (hy y List.mem_cons_self) (fun z hz => hy z (List.mem_cons_of_mem _ hz)) h
    rw [List.map_cons]
    refine List.Pairwise.cons (fun z hz => ?_) i2
    obtain ⟨w, hw, rfl⟩ := List.mem_map.mp hz
    exact i1 w hw
theorem canon {S : List Str} (hS : Ranked S) (sS : sortedS S = true) (nS : S.Nodup) {ks ys : List Str} {f : Str → Bool} (hp : ys.Perm ks) (so : sortedS ys = true) (nk : ks.Nodup) (hm : ∀ x, x ∈ ks ↔ x ∈ S ∧ f x = true) : ys = S.filter f := by
  have my : ∀ y ∈ ys, y ∈ S := fun y hy => ((hm y).mp (hp.mem_iff.mp hy)).1
  have mf : ∀ y ∈ S.filter f, y ∈ S := fun y hy => (List.mem_filter.mp hy).1
  refine map_rk_inj my mf ?_
  have p2 : (S.filter f).Perm ks := (List.perm_ext_iff_of_nodup (nS.sublist List.filter_sublist) nk).mpr fun x => by rw [List.mem_filter, hm]
  refine PySem.W.ksm_same ((hp.trans p2.symm).map _) (sorted_pw hS my so) ?_
  have q := sorted_pw hS (fun y hy => hy) sS
  exact q.sublist (List.filter_sublist.map _)
theorem rk10 : Ranked P10 := by unfold Ranked; decide +kernel
theorem rkNS : Ranked NS := by unfold Ranked; decide +kernel
/-! ### keys -/
theorem mem_keys {F : Files} {p : Str} : p ∈ keys F ↔ p ∈ P10 ∧ (F p).isSome = true := List.mem_filter
theorem keys_p10 {F : Files} {p : Str} (h : p ∈ keys F) : p ∈ P10 := (mem_keys.mp h).1
theorem keys_nodup (F : Files) : (keys F).Nodup := p10_nodup.sublist List.filter_sublist
theorem keys_len (F : Files) : (keys F).length ≤ 10 := List.length_filter_le _ _
theorem keys_get {F : Files} {p : Str} (h : p ∈ keys F) : ∃ ls, F p = some ls := Option.isSome_iff_exists.mp (mem_keys.mp h).2
theorem goodF_key {F : Files} (g : GoodF F) {p : Str} {ls : List Str} (h : F p = some ls) : p ∈ keys F := mem_keys.mpr ⟨(g.one p ls h).1, by rw [h]; rfl⟩
theorem goodF_none {F : Files} (g : GoodF F) {p : Str} (h : p ∉ P10) : F p = none := by
  cases e : F p with
  | none => rfl
  | some ls => exact absurd (g.one p ls e).1 h
theorem goodF_mem {F : Files} (g : GoodF F) {p : Str} : p ∈ keys F ↔ (F p).isSome = true := by
  rw [mem_keys]
  refine ⟨fun h => h.2, fun h => ⟨?_, h⟩⟩
  obtain ⟨ls, e⟩ := Option.isSome_iff_exists.mp h
  exact (g.one p ls e).1
theorem keys_canon {F : Files} {ks ys : List Str} (g : GoodF F) (hp : ys.Perm ks) (so : sortedS ys = true) (nk : ks.Nodup) (hm : ∀ x, x ∈ ks ↔ (F x).isSome = true) : ys = keys F :=
  canon rk10 p10_sorted p10_nodup hp so nk fun x => by rw [hm, ← mem_keys, goodF_mem g]
/-! ### what stays good -/
theorem GoodLs.nil : GoodLs [] := ⟨Nat.zero_le _, fun _ h => absurd h (by simp)⟩
theorem good_none : GoodF fun _ => none := ⟨fun _ _ h => (nomatch h), fun _ _ _ _ h => (nomatch h)⟩
theorem put_same {F : Files} {p : Str} {ls : List Str} : put F p ls p = some ls := if_pos rfl
theorem put_ne {F : Files} {p q : Str} {ls : List Str} (h : q ≠ p) : put F p ls q = F q := if_neg h
theorem del_same {F : Files} {p : Str} : del F p p = none := if_pos rfl
theorem del_ne {F : Files} {p q : Str} (h : q ≠ p) : del F p q = F q := if_neg h
theorem goodF_del {F : Files} (g : GoodF F) (p : Str) : GoodF (del F p) := by
  refine ⟨fun q ls h => ?_, fun q r ls ms h1 h2 => ?_⟩
  · by_cases e : q = p
    · rw [e, del_same] at h
      cases h
    · rw [del_ne e] at h
      exact g.one q ls h
  · by_cases e : q = p
    · rw [e, del_same] at h1
      cases h1
    · by_cases e2 : r = p
      · rw [e2, del_same] at h2
        cases h2
      · rw [del_ne e] at h1
        rw [del_ne e2] at h2
        exact g.two q r ls ms h1 h2
theorem self_in : ∀ p ∈ P10, isInB p p = false := by decide +kernel
theorem len0 {l : List Str} (h : decide (0 < l.length) = false) : l = [] := by
  cases l with
  | nil => rfl
  | cons _ _ => simp at h
theorem not_blocked {F : Files} {p : Str} (h : blockedB F p = false) : inside F p = [] ∧ above F p = [] := by
  unfold blockedB at h
  obtain ⟨h1, h2⟩ := Bool.or_eq_false_iff.mp h
  exact ⟨len0 h1, len0 h2⟩
theorem goodF_put {F : Files} (g : GoodF F) {p : Str} {ls : List Str} (hp : p ∈ P10) (hl : GoodLs ls) (hb : blockedB F p = false) : GoodF (put F p ls) := by
  obtain ⟨b1, b2⟩ := not_blocked hb
  have n1 : ∀ q ms, F q = some ms → isInB q p = false := fun q ms e => by
    cases h : isInB q p with
    | false => rfl
    | true =>
      have : q ∈ inside F p := List.mem_filter.mpr ⟨goodF_key g e, h⟩
      rw [b1] at this
      exact absurd this (by simp)
  have n2 : ∀ q ms, F q = some ms → isInB p q = false := fun q ms e => by
    cases h : isInB p q with
    | false => rfl
    | true =>
      have : q ∈ above F p := List.mem_filter.mpr ⟨goodF_key g e, h⟩
      rw [b2] at this
      exact absurd this (by simp)
  refine ⟨fun q ms h => ?_, fun q r ls' ms h1 h2 => ?_⟩
  · by_cases e : q = p
    · rw [e, put_same] at h
      cases h
      rw [e]
      exact ⟨hp, hl⟩
    · rw [put_ne e] at h
      exact g.one q ms h
  · by_cases e : q = p
    · by_cases e2 : r = p
      · rw [e, e2]
        exact self_in p hp
      · rw [put_ne e2] at h2
        rw [e]
        exact n2 r ms h2
    · by_cases e2 : r = p
      · rw [put_ne e] at h1
        rw [e2]
        exact n1 q ls' h1
      · rw [put_ne e] at h1
        rw [put_ne e2] at h2
        exact g.two q r ls' ms h1 h2
/-- other lines for a file that is there -/
theorem goodF_over {F : Files} (g : GoodF F) {p : Str} {ls ms : List Str} (hp : F p = some ms) (hl : GoodLs ls) : GoodF (put F p ls) := by
  have key : ∀ q ns, put F p ls q = some ns → ∃ os, F q = some os := fun q ns h => by
    by_cases e : q = p
    · exact ⟨ms, by rw [e, hp]⟩
    · exact ⟨ns, by rwa [put_ne e] at h⟩
  refine ⟨fun q ns h => ?_, fun q r ns os h1 h2 => ?_⟩
  · by_cases e : q = p
    · rw [e, put_same] at h
      cases h
      rw [e]
      exact ⟨(g.one p ms hp).1, hl⟩
    · rw [put_ne e] at h
      exact g.one q ns h
  · obtain ⟨a, ha⟩ := key q ns h1
    obtain ⟨b, hb⟩ := key r os h2
    exact g.two q r a b ha hb
theorem places_lt {ls part : List Str} {k : Nat} (h : k ∈ places ls part) (hp : part ≠ []) : k + part.length ≤ ls.length ∧ (ls.drop k).take part.length = part := by
  obtain ⟨h1, h2⟩ := List.mem_filter.mp h
  have h3 := of_decide_eq_true h2
  have h4 := List.mem_range.mp h1
  have : part.length ≠ 0 := fun e => hp (List.length_eq_zero_iff.mp e)
  exact ⟨by omega, h3⟩
theorem spliced_good {ls old new : List Str} {k : Nat} (hl : GoodLs ls) (hn : GoodLs new) (hk : k + old.length ≤ ls.length) (hz : ¬ (12 : Int) < (ls.length : Int) - (old.length : Int) + (new.length : Int)) :
    GoodLs (ls.take k ++ new ++ ls.drop (k + old.length)) := by
  refine ⟨?_, fun l h => ?_⟩
  · simp only [List.length_append, List.length_take, List.length_drop]
    omega
  · rcases List.mem_append.mp h with h | h
    · rcases List.mem_append.mp h with h | h
      · exact hl.2 l (List.mem_of_mem_take h)
      · exact hn.2 l h
    · exact hl.2 l (List.mem_of_mem_drop h)
theorem goodF_act {F : Files} (g : GoodF F) {a : Act} (ga : GoodA a) : GoodF (actF F a).2 := by
  cases a with
  | write p ls =>
    show GoodF (if blockedB F p then (Ans.blocked, F) else if (F p).isNone && decide ((keys F).length = 20) then (Ans.full, F) else (Ans.done, put F p ls)).2
    cases hb : blockedB F p with
    | true => exact g
    | false =>
      show GoodF (if (F p).isNone && decide ((keys F).length = 20) then (Ans.full, F) else (Ans.done, put F p ls)).2
      split
      · exact g
      · exact goodF_put g ga.1 ga.2 hb
  | remove p =>
    show GoodF (if (F p).isNone then (Ans.missing, F) else (Ans.done, del F p)).2
    split
    · exact g
    · exact goodF_del g p
  | move p t =>
    show GoodF (match F p with
      | none => (Ans.missing, F)
      | some ls => if ((del F p) t).isSome || blockedB (del F p) t then (Ans.blocked, F) else (Ans.done, put (del F p) t ls)).2
    cases e : F p with
    | none => exact g
    | some ls =>
      show GoodF (if ((del F p) t).isSome || blockedB (del F p) t then (Ans.blocked, F) else (Ans.done, put (del F p) t ls)).2
      split
      · exact g
      · rename_i h
        have h2 : blockedB (del F p) t = false := by
          cases q : blockedB (del F p) t with
          | false => rfl
          | true => rw [q, Bool.or_true] at h; exact absurd rfl h
        exact goodF_put (goodF_del g p) ga.2 (g.one p ls e).2 h2
  | splice p old new =>
    show GoodF (match F p with
      | none => (Ans.missing, F)
      | some ls => spliced F p old new ls).2
    cases e : F p with
    | none => exact g
    | some ls =>
      show GoodF (spliced F p old new ls).2
      unfold spliced
      cases q : places ls old with
      | nil => exact g
      | cons k r =>
        show GoodF (if r ≠ [] then (Ans.ambiguous, F) else if (12 : Int) < (ls.length : Int) - (old.length : Int) + (new.length : Int) then (Ans.long, F) else (Ans.done, put F p (ls.take k ++ new ++ ls.drop (k + old.length)))).2
        split
        · exact g
        · split
          · exact g
          · rename_i h2
            have hk := places_lt (k := k) (by rw [q]; exact List.mem_cons_self) ga.2.2.1
            exact goodF_over g e (spliced_good (g.one p ls e).2 ga.2.2.2 hk.1 h2)
  | _ => exact g
/-! ### journals -/
theorem goodF_lead {F : Files} (g : GoodF F) : ∀ {l : List Act}, (∀ a ∈ l, GoodA a) → GoodF (leadF F l) := by
  intro l
  induction l generalizing F with
  | nil => intro _; exact g
  | cons a r ih => intro h; exact ih (goodF_act g (h a List.mem_cons_self)) fun b hb => h b (List.mem_cons_of_mem _ hb)
theorem run_of_holds {F : Files} : ∀ {j : Jr} {i : Nat}, changeF F i j = none → runF F (j.map (·.1)) = (j, leadF F (j.map (·.1))) := by
  intro j
  induction j generalizing F with
  | nil => intro _ _; rfl
  | cons e r ih =>
    intro i h
    unfold changeF at h
    split at h
    · rename_i q
      have := ih h
      simp only [List.map_cons, runF, leadF]
      rw [this, q]
    · cases h
theorem change_shift {F : Files} : ∀ {j : Jr} {i k : Nat}, changeF F (i + k) j = (changeF F i j).map fun r => (r.1 + k, r.2) := by
  intro j
  induction j generalizing F with
  | nil => intro _ _; rfl
  | cons e r ih =>
    intro i k
    unfold changeF
    split
    · rw [show i + k + 1 = (i + 1) + k by omega]
      exact ih
    · rfl
theorem holds_iff {F : Files} {j : Jr} {i : Nat} : changeF F i j = none ↔ holdsF F j := by
  unfold holdsF
  rw [show i = 0 + i by omega, change_shift]
  cases changeF F 0 j <;> simp
theorem holds_nil {F : Files} : holdsF F [] := rfl
theorem holds_cons {F : Files} {e : Act × Ans} {r : Jr} : holdsF F (e :: r) ↔ (actF F e.1).1 = e.2 ∧ holdsF (actF F e.1).2 r := by
  show changeF F 0 (e :: r) = none ↔ _
  unfold changeF
  split
  · rename_i q
    rw [holds_iff]
    exact ⟨fun h => ⟨q, h⟩, fun h => h.2⟩
  · rename_i q
    exact ⟨fun h => (nomatch h), fun h => absurd h.1 q⟩
theorem lead_append {F : Files} {l m : List Act} : leadF F (l ++ m) = leadF (leadF F l) m := by
  induction l generalizing F with
  | nil => rfl
  | cons a r ih => exact ih
theorem holds_append {F : Files} {j k : Jr} : holdsF F (j ++ k) ↔ holdsF F j ∧ holdsF (leadF F (j.map (·.1))) k := by
  induction j generalizing F with
  | nil => exact Iff.intro (fun h => And.intro rfl h) (fun h => h.2)
  | cons e r ih =>
    rw [List.cons_append, holds_cons, holds_cons, ih]
    simp only [List.map_cons, leadF]
    exact ⟨fun ⟨a, b, c⟩ => ⟨⟨a, b⟩, c⟩, fun ⟨⟨a, b⟩, c⟩ => ⟨a, b, c⟩⟩
theorem holds_take {F : Files} {j : Jr} (n : Nat) (h : holdsF F j) : holdsF F (j.take n) := by
  have e : j.take n ++ j.drop n = j := List.take_append_drop n j
  rw [← e, holds_append] at h
  exact h.1
/-- what a change says -/
theorem change_some {F : Files} : ∀ {j : Jr} {i k : Nat} {r : Ans}, changeF F i j = some (k, r) → i ≤ k ∧ ∃ e, j[k - i]? = some e ∧ e.2 ≠ r ∧ holdsF F (j.take (k - i)) := by
  intro j
  induction j generalizing F with
  | nil => intro _ _ _ h; cases h
  | cons e t ih =>
    intro i k r h
    unfold changeF at h
    split at h
    · rename_i q
      obtain ⟨h1, e', h2, h3, h4⟩ := ih h
      refine ⟨by omega, e', ?_, h3, ?_⟩
      · rw [show k - i = (k - (i + 1)) + 1 by omega, List.getElem?_cons_succ]
        exact h2
      · rw [show k - i = (k - (i + 1)) + 1 by omega, List.take_succ_cons, holds_cons]
        exact ⟨q, h4⟩
    · rename_i q
      cases h
      refine ⟨Nat.le_refl _, e, by simp, fun z => q z.symm, ?_⟩
      rw [Nat.sub_self]
      exact rfl
end Sa
/-! text Rel -/
/-! Values that stand for data; files of a tree in the heap. -/
namespace Sa
open PySem PySem.Spec L2 PyProof.Rows
/-! ### data within bounds -/
structure OkD (d : PyData) (k n : Nat) : Prop where
  lay : d.canLay0 = true
  short : d.leavesShort 13 = true
  sh : d.showable = true
  nod : d.hasDict = false
  dep : d.depth ≤ k
  wt : d.weight ≤ n
structure OkAll (ds : List PyData) (k n : Nat) : Prop where
  lay : PyData.canLayAll0 ds = true
  short : PyData.leavesShortAll 13 ds = true
  sh : PyData.showableAll ds = true
  nod : PyData.hasDictAll ds = false
  dep : PyData.depthAll ds ≤ k
  wt : PyData.weightAll ds ≤ n
theorem OkD.mono {d : PyData} {k n k' n' : Nat} (h : OkD d k n) (h1 : k ≤ k') (h2 : n ≤ n') : OkD d k' n' := ⟨h.lay, h.short, h.sh, h.nod, Nat.le_trans h.dep h1, Nat.le_trans h.wt h2⟩
theorem OkAll.mono {d : List PyData} {k n k' n' : Nat} (h : OkAll d k n) (h1 : k ≤ k') (h2 : n ≤ n') : OkAll d k' n' := ⟨h.lay, h.short, h.sh, h.nod, Nat.le_trans h.dep h1, Nat.le_trans h.wt h2⟩
theorem OkAll.nil {k : Nat} : OkAll [] k 0 := ⟨by simp [PyData.canLayAll0], by simp [PyData.leavesShortAll], by simp [PyData.showableAll], by simp [PyData.hasDictAll], by simp [PyData.depthAll], by simp [PyData.weightAll]⟩
theorem OkAll.cons {d : PyData} {ds : List PyData} {k n m : Nat} (h : OkD d k n) (t : OkAll ds k m) : OkAll (d :: ds) k (n + 1 + m) := by
  refine ⟨?_, ?_, ?_, ?_, ?_, ?_⟩
  · simp [PyData.canLayAll0, h.lay, t.lay]
  · simp [PyData.leavesShortAll, h.short, t.short]
  · simp [PyData.showableAll, h.sh, t.sh]
  · simp [PyData.hasDictAll, h.nod, t.nod]
  · simp only [PyData.depthAll]
    exact Nat.max_le.mpr ⟨h.dep, t.dep⟩
  · simp only [PyData.weightAll]
    have := h.wt
    have := t.wt
    omega
theorem OkD.tuple {ds : List PyData} {k n : Nat} (t : OkAll ds k n) : OkD (.tuple ds) (k + 1) n := by
  refine ⟨?_, ?_, ?_, ?_, ?_, ?_⟩
  · simp only [PyData.canLay0]; exact t.lay
  · simp only [PyData.leavesShort]; exact t.short
  · simp only [PyData.showable]; exact t.sh
  · simp only [PyData.hasDict]; exact t.nod
  · simp only [PyData.depth]; exact Nat.succ_le_succ t.dep
  · simp only [PyData.weight]; exact t.wt
theorem OkAll.map {α : Type} {f : α → PyData} {k n : Nat} : ∀ {xs : List α}, (∀ x ∈ xs, OkD (f x) k n) → OkAll (xs.map f) k (xs.length * (n + 1))
  | [], _ => by
    rw [List.length_nil, Nat.zero_mul]
    exact OkAll.nil
  | x :: xs, h => by
    have := OkAll.cons (h x List.mem_cons_self) (OkAll.map (xs := xs) fun y hy => h y (List.mem_cons_of_mem _ hy))
    refine this.mono (Nat.le_refl _) ?_
    rw [List.length_cons, Nat.succ_mul]
    omega
theorem OkD.str {x : Str} {k n : Nat} (h : PyData.strOk x = true) (hl : x.length ≤ n) : OkD (.str x) k n := by
  refine ⟨h, ?_, rfl, rfl, Nat.zero_le _, hl⟩
  have h2 : x.cps.all (· < 0x110000) = true := h
  show (PyData.leavesShort 13 (.str x)) = true
  simp only [PyData.leavesShort, List.all_eq_true, decide_eq_true_eq]
  intro c hc
  rw [← Array.all_toList] at h2
  have := List.all_eq_true.mp h2 c hc
  have h3 := of_decide_eq_true this
  omega
theorem OkD.int {i : Int} {k : Nat} (h : i.natAbs < 10 ^ 6) : OkD (.int i) k 24 := by
  have hl : i.natAbs.log2 < 24 := by
    by_cases h0 : i.natAbs = 0
    · rw [h0]; decide
    · exact (Nat.log2_lt h0).mpr (Nat.lt_trans h (by decide))
  refine ⟨rfl, ?_, ?_, rfl, Nat.zero_le _, ?_⟩
  · simp only [PyData.leavesShort, decide_eq_true_eq]
    have := int_text_length_le10 (a := i) (k := 6) (by decide) h
    show (PyData.shown (.int i)).length ≤ 13
    have e : (PyData.shown (.int i)).length = (toString i).length := by
      simp only [PyData.shown]
      exact PySem.ofString_length _
    omega
  · simp only [PyData.showable, decide_eq_true_eq]
    omega
  · show (if i == 0 then 0 else i.natAbs.log2 + 1) ≤ 24
    split <;> omega
theorem OkD.shaped {d : PyData} {k n : Nat} (h : OkD d k n) (hk : k ≤ 64) : SeqAt.shaped d = true := by
  unfold SeqAt.shaped
  rw [h.lay, Bool.true_and]
  exact decide_eq_true (Nat.le_trans h.dep hk)
theorem OkD.fits {d : PyData} {k n : Nat} (h : OkD d k n) (hn : n ≤ 2 ^ 20) : d.shown.length ≤ sizeLine :=
  PyData.shown_fits (B := 13) (by decide) (by decide) h.short (Nat.le_trans h.wt hn)
/-! ### which answers, rows .. are within bounds -/
def GoodR : Ans → Prop
  | .lines ls => GoodLs ls
  | .names ns => (∀ n ∈ ns, n ∈ NS) ∧ ns.length ≤ 20
  | .found rs => (∀ r ∈ rs, r.1 ∈ P10 ∧ r.2 ≤ 12) ∧ rs.length ≤ 120
  | .many n => n ≤ 20
  | _ => True
theorem ok_p11 : ∀ p ∈ P11, PyData.strOk p = true ∧ p.length ≤ 5 := by decide +kernel
theorem ok_p10 : ∀ p ∈ P10, PyData.strOk p = true ∧ p.length ≤ 5 := by decide +kernel
theorem ok_l5 : ∀ p ∈ L5, PyData.strOk p = true ∧ p.length ≤ 5 := by decide +kernel
theorem ok_w4 : ∀ p ∈ W4, PyData.strOk p = true ∧ p.length ≤ 5 := by decide +kernel
theorem ok_ns : ∀ p ∈ NS, PyData.strOk p = true ∧ p.length ≤ 5 := by decide +kernel
theorem okS {x : Str} {k n : Nat} (h : PyData.strOk x = true ∧ x.length ≤ 5) (hn : 5 ≤ n) : OkD (.str x) k n := OkD.str h.1 (Nat.le_trans h.2 hn)
theorem okW {x : Str} {k : Nat} (h : (PyData.strOk x && decide (x.length ≤ 9)) = true) : OkD (.str x) k 9 := by
  obtain ⟨h1, h2⟩ := Bool.and_eq_true_iff.mp h
  exact OkD.str h1 (of_decide_eq_true h2)
theorem ok_dL {ls : List Str} (h : ∀ l ∈ ls, PyData.strOk l = true ∧ l.length ≤ 5) : OkD (dL ls) 1 (ls.length * 6) := OkD.tuple (OkAll.map (k := 0) (n := 5) fun x hx => okS (h x hx) (Nat.le_refl _))
theorem ok_lines {ls : List Str} (h : GoodLs ls) : OkD (dL ls) 1 72 := (ok_dL fun l hl => ok_l5 l (h.2 l hl)).mono (Nat.le_refl _) (by have := h.1; omega)
theorem ok1 {d : PyData} {k n : Nat} (h : OkD d k n) : OkD (.tuple [d]) (k + 1) (n + 1) := OkD.tuple (OkAll.cons h OkAll.nil)
theorem ok2 {d e : PyData} {k n m : Nat} (h : OkD d k n) (g : OkD e k m) : OkD (.tuple [d, e]) (k + 1) (n + m + 2) := (OkD.tuple (OkAll.cons h (OkAll.cons g OkAll.nil))).mono (Nat.le_refl _) (by omega)
theorem ok3 {d e f : PyData} {k n m l : Nat} (h : OkD d k n) (g : OkD e k m) (i : OkD f k l) : OkD (.tuple [d, e, f]) (k + 1) (n + m + l + 3) := (OkD.tuple (OkAll.cons h (OkAll.cons g (OkAll.cons i OkAll.nil)))).mono (Nat.le_refl _) (by omega)
theorem ok4 {d e f j : PyData} {k n m l r : Nat} (h : OkD d k n) (g : OkD e k m) (i : OkD f k l) (o : OkD j k r) : OkD (.tuple [d, e, f, j]) (k + 1) (n + m + l + r + 4) := (OkD.tuple (OkAll.cons h (OkAll.cons g (OkAll.cons i (OkAll.cons o OkAll.nil))))).mono (Nat.le_refl _) (by omega)
theorem ok_dA {a : Act} (g : GoodA a) : OkD (dA a) 2 200 := by
  cases a with
  | read p => exact (ok2 (k := 1) (okW (by decide +kernel)) (okS (ok_p10 p g) (Nat.le_refl _))).mono (by decide) (by decide)
  | kind p => exact (ok2 (k := 1) (okW (by decide +kernel)) (okS (ok_p11 p g) (Nat.le_refl _))).mono (by decide) (by decide)
  | list p => exact (ok2 (k := 1) (okW (by decide +kernel)) (okS (ok_p11 p g) (Nat.le_refl _))).mono (by decide) (by decide)
  | find p w => exact (ok3 (k := 1) (okW (by decide +kernel)) (okS (ok_p11 p g.1) (Nat.le_refl _)) (okS (ok_w4 w g.2) (Nat.le_refl _))).mono (by decide) (by decide)
  | count p => exact (ok2 (k := 1) (okW (by decide +kernel)) (okS (ok_p11 p g) (Nat.le_refl _))).mono (by decide) (by decide)
  | write p ls => exact (ok3 (k := 1) (okW (by decide +kernel)) (okS (ok_p10 p g.1) (Nat.le_refl _)) (ok_lines g.2)).mono (by decide) (by decide)
  | remove p => exact (ok2 (k := 1) (okW (by decide +kernel)) (okS (ok_p10 p g) (Nat.le_refl _))).mono (by decide) (by decide)
  | move p t => exact (ok3 (k := 1) (okW (by decide +kernel)) (okS (ok_p10 p g.1) (Nat.le_refl _)) (okS (ok_p10 t g.2) (Nat.le_refl _))).mono (by decide) (by decide)
  | splice p o n => exact (ok4 (k := 1) (okW (by decide +kernel)) (okS (ok_p10 p g.1) (Nat.le_refl _)) (ok_lines g.2.1) (ok_lines g.2.2.2)).mono (by decide) (by decide)
theorem ok_row {r : Str × Nat} (h : r.1 ∈ P10 ∧ r.2 ≤ 12) : OkD (dRow r) 1 31 := (ok2 (k := 0) (okS (ok_p10 _ h.1) (Nat.le_refl _)) (OkD.int (by have := h.2; omega))).mono (by decide) (by decide)
theorem ok_dR {a : Ans} (g : GoodR a) : OkD (dR a) 3 4000 := by
  cases a with
  | lines ls => exact (ok2 (k := 1) (okW (by decide +kernel)) (ok_lines g)).mono (by decide) (by decide)
  | names ns => exact (ok2 (k := 1) (okW (by decide +kernel)) ((ok_dL fun l hl => ok_ns l (g.1 l hl)).mono (Nat.le_refl _) (show _ ≤ 120 by have := g.2; omega))).mono (by decide) (by decide)
  | found rs => exact (ok2 (k := 2) (okW (by decide +kernel)) ((OkD.tuple (OkAll.map fun r hr => ok_row (g.1 r hr))).mono (Nat.le_refl _) (show _ ≤ 3900 by have := g.2; omega))).mono (by decide) (by decide)
  | many n => exact (ok2 (k := 1) (okW (by decide +kernel)) (OkD.int (by have h : n ≤ 20 := g; omega))).mono (by decide) (by decide)
  | _ => exact (ok1 (k := 1) (okW (by decide +kernel))).mono (by decide) (by decide)
structure GoodE (e : Act × Ans) : Prop where
  a : GoodA e.1
  r : GoodR e.2
theorem ok_dE {e : Act × Ans} (g : GoodE e) : OkD (dE e) 4 4210 := (ok2 ((ok_dA g.a).mono (by decide) (Nat.le_refl _)) (ok_dR g.r)).mono (by decide) (by decide)
def GoodJ (j : Jr) : Prop := (∀ e ∈ j, GoodE e) ∧ j.length ≤ 40
theorem ok_dJ {j : Jr} (g : GoodJ j) : OkD (dJ j) 5 200000 := (OkD.tuple (OkAll.map fun e he => ok_dE (g.1 e he))).mono (Nat.le_refl _) (by have := g.2; omega)
theorem ok_dFs {F : Files} (g : GoodF F) : OkD (dFs F) 3 1000 := by
  refine (OkD.tuple (OkAll.map (k := 2) (n := 80) fun p hp => ?_)).mono (Nat.le_refl _) (by have := keys_len F; omega)
  obtain ⟨ls, e⟩ := keys_get hp
  refine (ok2 (k := 1) (okS (ok_p10 p (keys_p10 hp)) (Nat.le_refl _)) ?_).mono (by decide) (show 5 + 72 + 2 ≤ 80 by decide)
  rw [e]
  exact ok_lines (g.one p ls e).2
/-! ### == of plain data -/
mutual
def plainD : PyData → Bool
  | .int _ | .str _ => true
  | .tuple ds => plainAll ds
  | _ => false
def plainAll : List PyData → Bool
  | [] => true
  | d :: ds => plainD d && plainAll ds
end
mutual
theorem eqv_plain : ∀ {d e : PyData}, plainD d = true → plainD e = true → (PyData.eqv d e = true ↔ d = e)
  | .int i, .int j, _, _ => by simp [PyData.eqv]
  | .int i, .str x, _, _ => by simp [PyData.eqv]
  | .int i, .tuple x, _, _ => by simp [PyData.eqv]
  | .str i, .int j, _, _ => by simp [PyData.eqv]
  | .str i, .str x, _, _ => by simp [PyData.eqv]
  | .str i, .tuple x, _, _ => by simp [PyData.eqv]
  | .tuple i, .int j, _, _ => by simp [PyData.eqv]
  | .tuple i, .str x, _, _ => by simp [PyData.eqv]
  | .tuple xs, .tuple ys, h, g => by
    simp only [PyData.eqv, PyData.tuple.injEq]
    exact eqvAll_plain (by simpa only [plainD] using h) (by simpa only [plainD] using g)
  | .none, _, h, _ => by simp [plainD] at h
  | .bool _, _, h, _ => by simp [plainD] at h
  | .list _, _, h, _ => by simp [plainD] at h
  | .dict _, _, h, _ => by simp [plainD] at h
  | .int _, .none, _, h => by simp [plainD] at h
  | .int _, .bool _, _, h => by simp [plainD] at h
  | .int _, .list _, _, h => by simp [plainD] at h
  | .int _, .dict _, _, h => by simp [plainD] at h
  | .str _, .none, _, h => by simp [plainD] at h
  | .str _, .bool _, _, h => by simp [plainD] at h
  | .str _, .list _, _, h => by simp [plainD] at h
  | .str _, .dict _, _, h => by simp [plainD] at h
  | .tuple _, .none, _, h => by simp [plainD] at h
  | .tuple _, .bool _, _, h => by simp [plainD] at h
  | .tuple _, .list _, _, h => by simp [plainD] at h
  | .tuple _, .dict _, _, h => by simp [plainD] at h
theorem eqvAll_plain : ∀ {ds es : List PyData}, plainAll ds = true → plainAll es = true → (PyData.eqvAll ds es = true ↔ ds = es)
  | [], [], _, _ => by simp [PyData.eqvAll]
  | [], _ :: _, _, _ => by simp [PyData.eqvAll]
  | _ :: _, [], _, _ => by simp [PyData.eqvAll]
  | d :: ds, e :: es, h, g => by
    simp only [plainAll, Bool.and_eq_true] at h g
    simp only [PyData.eqvAll, Bool.and_eq_true, List.cons.injEq]
    rw [eqv_plain h.1 g.1, eqvAll_plain h.2 g.2]
end
theorem eqv_dec {d e : PyData} {p : Prop} [Decidable p] (h : plainD d = true) (g : plainD e = true) (hp : d = e ↔ p) : PyData.eqv d e = decide p := by
  by_cases q : p
  · rw [decide_eq_true q, eqv_plain h g, hp]
    exact q
  · rw [decide_eq_false q]
    cases z : PyData.eqv d e with
    | false => rfl
    | true => exact absurd (hp.mp ((eqv_plain h g).mp z)) q
theorem plain_map {α : Type} {f : α → PyData} (hf : ∀ x, plainD (f x) = true) : ∀ xs : List α, plainAll (xs.map f) = true
  | [] => rfl
  | x :: xs => by
    simp only [List.map_cons, plainAll, hf x, plain_map hf xs, Bool.and_self]
theorem plain_dL (ls : List Str) : plainD (dL ls) = true := by
  unfold dL
  simp only [plainD]
  exact plain_map (fun _ => rfl) ls
theorem plain_dA (a : Act) : plainD (dA a) = true := by
  cases a <;> simp [dA, plainD, plainAll, plain_dL]
theorem plain_dR (a : Ans) : plainD (dR a) = true := by
  cases a with
  | found rs =>
    simp only [dR, plainD, plainAll, Bool.and_true, Bool.true_and]
    exact plain_map (fun _ => rfl) rs
  | _ => simp [dR, plainD, plainAll, plain_dL]
theorem map_inj {α β : Type} {f : α → β} (hf : ∀ x y, f x = f y → x = y) : ∀ {xs ys : List α}, xs.map f = ys.map f → xs = ys
  | [], [], _ => rfl
  | [], _ :: _, h => nomatch h
  | _ :: _, [], h => nomatch h
  | x :: xs, y :: ys, h => by
    simp only [List.map_cons, List.cons.injEq] at h
    rw [hf x y h.1, map_inj hf h.2]
theorem dL_inj {ls ms : List Str} (h : dL ls = dL ms) : ls = ms := by
  unfold dL at h
  simp only [PyData.tuple.injEq] at h
  exact map_inj (fun x y e => by simpa using e) h
theorem dRow_inj {r s : Str × Nat} (h : dRow r = dRow s) : r = s := by
  unfold dRow at h
  simp only [PyData.tuple.injEq, List.cons.injEq, PyData.str.injEq, PyData.int.injEq, and_true] at h
  obtain ⟨h1, h2⟩ := h
  exact Prod.ext h1 (by omega)
theorem dR_inj {a b : Ans} (h : dR a = dR b) : a = b := by
  cases a <;> cases b <;> simp only [dR, PyData.tuple.injEq, List.cons.injEq, PyData.str.injEq, PyData.int.injEq, and_true, true_and, reduceCtorEq, and_false, false_and] at h <;>
    first
    | rfl
    | (exact absurd h (by decide +kernel))
    | (exact absurd h.1 (by decide +kernel))
    | (rw [dL_inj h])
    | (rw [map_inj (fun _ _ => dRow_inj) h])
    | (congr 1; omega)
theorem eqR {a b : Ans} : PyData.eqv (dR a) (dR b) = decide (a = b) := eqv_dec (plain_dR a) (plain_dR b) ⟨dR_inj, fun h => by rw [h]⟩
theorem eqL {a b : List Str} : PyData.eqv (dL a) (dL b) = decide (a = b) := eqv_dec (plain_dL a) (plain_dL b) ⟨dL_inj, fun h => by rw [h]⟩
end Sa
/-! text Hea -/
/-! Values that stand for data in the heap; trees and tables. -/
namespace Sa
open PySem PySem.Spec L2 PyProof.Rows
section
variable {K : PySem.W.Frag}
/-! ### how heaps go on -/
/-- every tuple stays -/
def TX (H H' : Hp) : Prop := ∀ a xs, H a = some (.tup xs) → H' a = some (.tup xs)
theorem TX.refl (H : Hp) : TX H H := fun _ _ h => h
theorem TX.trans {H H1 H2 : Hp} (a : TX H H1) (b : TX H1 H2) : TX H H2 := fun x xs h => b x xs (a x xs h)
theorem tx_same {H H' : Hp} (s : Same H H') : TX H H' := fun a xs h => s a _ h
def isTup : Option HO → Bool
  | some (.tup _) => true
  | _ => false
theorem tx_upd {H : Hp} {p : Addr} {o : HO} (h : isTup (H p) = false) : TX H (upd H p o) := fun a xs e => by
  have : a ≠ p := fun z => by
    rw [z] at e
    rw [e] at h
    cases h
  rw [upd_ne this]
  exact e
theorem same_new {H : Hp} {p : Addr} {o : HO} (h : H p = none) : Same H (upd H p o) := fun a u e => by
  rw [upd_ne (ne_of_none e h)]
  exact e
/-- an object that H does not know may change -/
theorem same_mut {H H' : Hp} {p : Addr} {o : HO} (s : Same H H') (h : H p = none) : Same H (upd H' p o) := fun a u e => by
  rw [upd_ne (ne_of_none e h)]
  exact s a u e
/-- all but these stay -/
def Kp (D : List Addr) (H H' : Hp) : Prop := ∀ a o, H a = some o → a ∉ D → H' a = some o
theorem Kp.refl (D : List Addr) (H : Hp) : Kp D H H := fun _ _ h _ => h
theorem Kp.trans {D : List Addr} {H H1 H2 : Hp} (a : Kp D H H1) (b : Kp D H1 H2) : Kp D H H2 := fun x o h n => b x o (a x o h n) n
theorem kp_same {D : List Addr} {H H' : Hp} (s : Same H H') : Kp D H H' := fun a o h _ => s a o h
theorem Kp.mono {D D' : List Addr} {H H' : Hp} (k : Kp D H H') (h : ∀ x ∈ D, x ∈ D') : Kp D' H H' := fun a o e n => k a o e fun z => n (h a z)
theorem kp_upd {D : List Addr} {H H' : Hp} {p : Addr} {o : HO} (k : Kp D H H') (h : p ∈ D) : Kp D H (upd H' p o) := fun a u e n => by
  have ne : a ≠ p := fun z => n (by rw [z]; exact h)
  rw [upd_ne ne]
  exact k a u e n
theorem kp_new {D : List Addr} {H H' : Hp} {p : Addr} {o : HO} (k : Kp D H H') (h : H p = none) : Kp D H (upd H' p o) := fun a u e n => by
  rw [upd_ne (ne_of_none e h)]
  exact k a u e n
theorem tx_kp {D : List Addr} {H H' : Hp} (k : Kp D H H') (h : ∀ x ∈ D, isTup (H x) = false) : TX H H' := fun a xs e => k a _ e fun z => by
  have := h a z
  rw [e] at this
  cases this
/-! ### values that stand for data -/
def St1 (K : PySem.W.Frag) (H : Hp) (a : Addr) (xs : List V) : Prop := H a = some (.tup xs) ∨ ∀ H', SqT K H' a xs
theorem St1.sq {H : Hp} {a : Addr} {xs : List V} (h : St1 K H a xs) : SqT K H a xs := by
  rcases h with h | h
  · exact .inl (.inl h)
  · exact h H
theorem St1.tx {H H' : Hp} {a : Addr} {xs : List V} (t : TX H H') (h : St1 K H a xs) : St1 K H' a xs := by
  rcases h with h | h
  · exact .inl (t a xs h)
  · exact .inr h
mutual
inductive Dt (K : PySem.W.Frag) (H : Hp) : V → PyData → Prop
  | int (i : Int) : Dt K H (.int i) (.int i)
  | str (x : Str) : Dt K H (.str x) (.str x)
  | tup {a : Addr} {xs : List V} {ds : List PyData} : St1 K H a xs → DtAll K H xs ds → Dt K H (.ref a) (.tuple ds)
inductive DtAll (K : PySem.W.Frag) (H : Hp) : List V → List PyData → Prop
  | nil : DtAll K H [] []
  | cons {v : V} {vs : List V} {d : PyData} {ds : List PyData} : Dt K H v d → DtAll K H vs ds → DtAll K H (v :: vs) (d :: ds)
end
mutual
theorem Dt.tx {H H' : Hp} (t : TX H H') : ∀ {v : V} {d : PyData}, Dt K H v d → Dt K H' v d
  | _, _, .int i => .int i
  | _, _, .str x => .str x
  | _, _, .tup h a => .tup (h.tx t) (DtAll.tx t a)
theorem DtAll.tx {H H' : Hp} (t : TX H H') : ∀ {vs : List V} {ds : List PyData}, DtAll K H vs ds → DtAll K H' vs ds
  | _, _, .nil => .nil
  | _, _, .cons h a => .cons (Dt.tx t h) (DtAll.tx t a)
end
mutual
theorem Dt.dp {H : Hp} : ∀ {v : V} {d : PyData}, Dt K H v d → Dp K H v d
  | _, _, .int i => .int i
  | _, _, .str x => .str x
  | _, _, .tup h a => .tup h.sq (DtAll.dp a)
theorem DtAll.dp {H : Hp} : ∀ {vs : List V} {ds : List PyData}, DtAll K H vs ds → DpAll K H vs ds
  | _, _, .nil => .nil
  | _, _, .cons h a => .cons (Dt.dp h) (DtAll.dp a)
end
theorem Dt.same {H H' : Hp} {v : V} {d : PyData} (s : Same H H') (h : Dt K H v d) : Dt K H' v d := h.tx (tx_same s)
theorem DtAll.same {H H' : Hp} {v : List V} {d : List PyData} (s : Same H H') (h : DtAll K H v d) : DtAll K H' v d := h.tx (tx_same s)
theorem Dt.new {H : Hp} {p : Addr} {xs : List V} {ds : List PyData} (h : H p = some (.tup xs)) (a : DtAll K H xs ds) : Dt K H (.ref p) (.tuple ds) := .tup (.inl h) a
theorem Dt.tupI {H : Hp} {v : V} {ds : List PyData} (h : Dt K H v (.tuple ds)) : ∃ a xs, v = .ref a ∧ St1 K H a xs ∧ DtAll K H xs ds := by
  cases h with
  | tup h a => exact ⟨_, _, rfl, h, a⟩
theorem Dt.strI {H : Hp} {v : V} {x : Str} (h : Dt K H v (.str x)) : v = .str x := by
  cases h
  rfl
theorem Dt.intI {H : Hp} {v : V} {x : Int} (h : Dt K H v (.int x)) : v = .int x := by
  cases h
  rfl
theorem DtAll.nilI {H : Hp} {vs : List V} (h : DtAll K H vs []) : vs = [] := by
  cases h
  rfl
theorem DtAll.consI {H : Hp} {vs : List V} {d : PyData} {ds : List PyData} (h : DtAll K H vs (d :: ds)) : ∃ v r, vs = v :: r ∧ Dt K H v d ∧ DtAll K H r ds := by
  cases h with
  | cons a b => exact ⟨_, _, rfl, a, b⟩
theorem DtAll.length {H : Hp} : ∀ {vs : List V} {ds : List PyData}, DtAll K H vs ds → vs.length = ds.length
  | _, _, .nil => rfl
  | _, _, .cons _ a => congrArg Nat.succ (DtAll.length a)
theorem DtAll.get {H : Hp} : ∀ {vs : List V} {ds : List PyData} {i : Nat} {v : V}, DtAll K H vs ds → vs[i]? = some v → ∃ d, ds[i]? = some d ∧ Dt K H v d
  | _, _, _, _, .nil, h => by cases h
  | _, _, 0, _, .cons h _, e => by
    cases e
    exact ⟨_, rfl, h⟩
  | _, _, i + 1, _, .cons _ a, e => by
    obtain ⟨d, h1, h2⟩ := DtAll.get (i := i) a (by simpa using e)
    exact ⟨d, by simpa using h1, h2⟩
theorem DtAll.at {H : Hp} : ∀ {vs : List V} {ds : List PyData} {i : Nat} {d : PyData}, DtAll K H vs ds → ds[i]? = some d → ∃ v, vs[i]? = some v ∧ Dt K H v d
  | _, _, _, _, .nil, h => by cases h
  | _, _, 0, _, .cons h _, e => by
    cases e
    exact ⟨_, rfl, h⟩
  | _, _, i + 1, _, .cons _ a, e => by
    obtain ⟨v, h1, h2⟩ := DtAll.at (i := i) a (by simpa using e)
    exact ⟨v, by simpa using h1, h2⟩
theorem DtAll.snoc {H : Hp} : ∀ {vs : List V} {ds : List PyData} {v : V} {d : PyData}, DtAll K H vs ds → Dt K H v d → DtAll K H (vs ++ [v]) (ds ++ [d])
  | _, _, _, _, .nil, h => .cons h .nil
  | _, _, _, _, .cons a b, h => .cons a (DtAll.snoc b h)
theorem DtAll.append {H : Hp} : ∀ {vs ws : List V} {ds es : List PyData}, DtAll K H vs ds → DtAll K H ws es → DtAll K H (vs ++ ws) (ds ++ es)
  | _, _, _, _, .nil, h => h
  | _, _, _, _, .cons a b, h => .cons a (DtAll.append b h)
theorem DtAll.take {H : Hp} : ∀ {vs : List V} {ds : List PyData} (n : Nat), DtAll K H vs ds → DtAll K H (vs.take n) (ds.take n)
  | _, _, 0, _ => .nil
  | _, _, _ + 1, .nil => .nil
  | _, _, n + 1, .cons a b => .cons a (DtAll.take n b)
/-- texts -/
theorem DtAll.strs {H : Hp} : ∀ (ls : List Str), DtAll K H (ls.map .str) (ls.map .str)
  | [] => .nil
  | x :: r => .cons (.str x) (DtAll.strs r)
theorem DtAll.strsI {H : Hp} : ∀ {ls : List Str} {vs : List V}, DtAll K H vs (ls.map .str) → vs = ls.map .str
  | [], _, h => DtAll.nilI h
  | x :: r, _, h => by
    obtain ⟨v, t, rfl, h1, h2⟩ := DtAll.consI h
    rw [Dt.strI h1, DtAll.strsI h2]
    rfl
theorem Dt.linesI {H : Hp} {v : V} {ls : List Str} (h : Dt K H v (dL ls)) : ∃ a, v = .ref a ∧ St1 K H a (ls.map .str) := by
  obtain ⟨a, xs, rfl, h1, h2⟩ := Dt.tupI h
  rw [DtAll.strsI h2] at h1
  exact ⟨a, rfl, h1⟩
theorem Dt.lines {H : Hp} {a : Addr} {ls : List Str} (h : H a = some (.tup (ls.map .str))) : Dt K H (.ref a) (dL ls) := Dt.new h (DtAll.strs ls)
theorem Dt.linesS {H : Hp} {a : Addr} {ls : List Str} (h : St1 K H a (ls.map .str)) : Dt K H (.ref a) (dL ls) := .tup h (DtAll.strs ls)
/-- tuples of one, two, three, four items -/
theorem Dt.one {H : Hp} {p : Addr} {v : V} {d : PyData} (h : H p = some (.tup [v])) (a : Dt K H v d) : Dt K H (.ref p) (.tuple [d]) := .new h (.cons a .nil)
theorem Dt.two {H : Hp} {p : Addr} {v w : V} {d e : PyData} (h : H p = some (.tup [v, w])) (a : Dt K H v d) (b : Dt K H w e) : Dt K H (.ref p) (.tuple [d, e]) := .new h (.cons a (.cons b .nil))
theorem Dt.oneI {H : Hp} {v : V} {d : PyData} (h : Dt K H v (.tuple [d])) : ∃ a x, v = .ref a ∧ St1 K H a [x] ∧ Dt K H x d := by
  obtain ⟨a, xs, rfl, h1, h2⟩ := Dt.tupI h
  obtain ⟨x, r, rfl, h3, h4⟩ := DtAll.consI h2
  rw [DtAll.nilI h4] at h1
  exact ⟨a, x, rfl, h1, h3⟩
theorem Dt.twoI {H : Hp} {v : V} {d e : PyData} (h : Dt K H v (.tuple [d, e])) : ∃ a x y, v = .ref a ∧ St1 K H a [x, y] ∧ Dt K H x d ∧ Dt K H y e := by
  obtain ⟨a, xs, rfl, h1, h2⟩ := Dt.tupI h
  obtain ⟨x, r, rfl, h3, h4⟩ := DtAll.consI h2
  obtain ⟨y, r', rfl, h5, h6⟩ := DtAll.consI h4
  rw [DtAll.nilI h6] at h1
  exact ⟨a, x, y, rfl, h1, h3, h5⟩
theorem Dt.threeI {H : Hp} {v : V} {d e f : PyData} (h : Dt K H v (.tuple [d, e, f])) : ∃ a x y z, v = .ref a ∧ St1 K H a [x, y, z] ∧ Dt K H x d ∧ Dt K H y e ∧ Dt K H z f := by
  obtain ⟨a, xs, rfl, h1, h2⟩ := Dt.tupI h
  obtain ⟨x, r, rfl, h3, h4⟩ := DtAll.consI h2
  obtain ⟨y, r', rfl, h5, h6⟩ := DtAll.consI h4
  obtain ⟨z, r'', rfl, h7, h8⟩ := DtAll.consI h6
  rw [DtAll.nilI h8] at h1
  exact ⟨a, x, y, z, rfl, h1, h3, h5, h7⟩
theorem Dt.fourI {H : Hp} {v : V} {d e f g : PyData} (h : Dt K H v (.tuple [d, e, f, g])) : ∃ a x y z u, v = .ref a ∧ St1 K H a [x, y, z, u] ∧ Dt K H x d ∧ Dt K H y e ∧ Dt K H z f ∧ Dt K H u g := by
  obtain ⟨a, xs, rfl, h1, h2⟩ := Dt.tupI h
  obtain ⟨x, r, rfl, h3, h4⟩ := DtAll.consI h2
  obtain ⟨y, r', rfl, h5, h6⟩ := DtAll.consI h4
  obtain ⟨z, r'', rfl, h7, h8⟩ := DtAll.consI h6
  obtain ⟨u, r3, rfl, h9, h10⟩ := DtAll.consI h8
  rw [DtAll.nilI h10] at h1
  exact ⟨a, x, y, z, u, rfl, h1, h3, h5, h7, h9⟩
/-! ### == -/
theorem eqd_of {H : Hp} {x y : V} {d e : PyData} {k l n m : Nat} {Q : VK} (hx : Dt K H x d) (hy : Dt K H y e) (gd : OkD d k n) (ge : OkD e l m) (hk : k ≤ 64) (hl : l ≤ 64) (q : Q (.bl (PyData.eqv d e)) H) : rEqD K x y H Q :=
  ⟨d, e, hx.dp, hy.dp, gd.shaped hk, ge.shaped hl, q⟩
theorem ned_of {H : Hp} {x y : V} {d e : PyData} {k l n m : Nat} {Q : VK} (hx : Dt K H x d) (hy : Dt K H y e) (gd : OkD d k n) (ge : OkD e l m) (hk : k ≤ 64) (hl : l ≤ 64) (q : Q (.bl (!PyData.eqv d e)) H) : rNeD K x y H Q :=
  ⟨d, e, hx.dp, hy.dp, gd.shaped hk, ge.shaped hl, q⟩
theorem eqR_of {H : Hp} {x y : V} {a b : Ans} {Q : VK} (hx : Dt K H x (dR a)) (hy : Dt K H y (dR b)) (ga : GoodR a) (gb : GoodR b) (q : Q (.bl (decide (a = b))) H) : rEqD K x y H Q :=
  eqd_of hx hy (ok_dR ga) (ok_dR gb) (by decide) (by decide) (by rw [eqR]; exact q)
theorem neR_of {H : Hp} {x y : V} {a b : Ans} {Q : VK} (hx : Dt K H x (dR a)) (hy : Dt K H y (dR b)) (ga : GoodR a) (gb : GoodR b) (q : Q (.bl (!decide (a = b))) H) : rNeD K x y H Q :=
  ned_of hx hy (ok_dR ga) (ok_dR gb) (by decide) (by decide) (by rw [eqR]; exact q)
theorem eqL_of {H : Hp} {x y : V} {a b : List Str} {Q : VK} (hx : Dt K H x (dL a)) (hy : Dt K H y (dL b)) (ga : GoodLs a) (gb : GoodLs b) (q : Q (.bl (decide (a = b))) H) : rEqD K x y H Q :=
  eqd_of hx hy (ok_lines ga) (ok_lines gb) (by decide) (by decide) (by rw [eqL]; exact q)
/-! ### dicts of files -/
/-- the pairs kvs are the files F -/
structure DF (K : PySem.W.Frag) (H : Hp) (kvs : List (Key × V)) (F : Files) : Prop where
  nd : (kvs.map (·.1)).Nodup
  fst : ∀ k v, (k, v) ∈ kvs → ∃ p ls, k = .inr p ∧ F p = some ls ∧ Dt K H v (dL ls)
  snd : ∀ p ls, F p = some ls → ∃ v, (Sum.inr p, v) ∈ kvs
theorem DF.tx {H H' : Hp} {kvs : List (Key × V)} {F : Files} (t : TX H H') (d : DF K H kvs F) : DF K H' kvs F :=
  ⟨d.nd, fun k v h => by
    obtain ⟨p, ls, e, f, g⟩ := d.fst k v h
    exact ⟨p, ls, e, f, g.tx t⟩, d.snd⟩
theorem valV_of_mem {κ : Type} [DecidableEq κ] : ∀ {kvs : List (κ × V)} {k : κ} {v : V}, (kvs.map (·.1)).Nodup → (k, v) ∈ kvs → valV kvs k = some v
  | [], _, _, _, h => absurd h (by simp)
  | (j, w) :: r, k, v, nd, h => by
    rw [List.map_cons] at nd
    obtain ⟨n1, n2⟩ := List.nodup_cons.mp nd
    rcases List.mem_cons.mp h with e | h
    · cases e
      exact valV_pos rfl
    · have : ¬ j = k := fun e => n1 (by rw [e]; exact List.mem_map.mpr ⟨(k, v), h, rfl⟩)
      rw [valV_neg this]
      exact valV_of_mem n2 h
theorem mem_of_valV {κ : Type} [DecidableEq κ] : ∀ {kvs : List (κ × V)} {k : κ} {v : V}, valV kvs k = some v → (k, v) ∈ kvs
  | [], _, _, h => by cases h
  | (j, w) :: r, k, v, h => by
    by_cases e : j = k
    · rw [valV_pos (p := (j, w)) e] at h
      cases h
      rw [e]
      exact List.mem_cons_self
    · rw [valV_neg (p := (j, w)) e] at h
      exact List.mem_cons_of_mem _ (mem_of_valV h)
theorem DF.look {H : Hp} {kvs : List (Key × V)} {F : Files} (d : DF K H kvs F) (p : Str) : (F p = none ∧ valV kvs (Sum.inr p) = none) ∨ ∃ v ls, F p = some ls ∧ valV kvs (Sum.inr p) = some v ∧ Dt K H v (dL ls) := by
  cases e : F p with
  | none =>
    refine .inl ⟨rfl, ?_⟩
    cases q : valV kvs (Sum.inr p) with
    | none => rfl
    | some v =>
      obtain ⟨p', ls, e1, e2, _⟩ := d.fst _ _ (mem_of_valV q)
      cases e1
      rw [e] at e2
      cases e2
  | some ls =>
    obtain ⟨v, hv⟩ := d.snd p ls e
    obtain ⟨p', ls', e1, e2, e3⟩ := d.fst _ _ hv
    cases e1
    rw [e] at e2
    cases e2
    exact .inr ⟨v, ls, rfl, valV_of_mem d.nd hv, e3⟩
/-- the keys' texts -/
theorem DF.keysEx {H : Hp} {kvs : List (Key × V)} {F : Files} (d : DF K H kvs F) : ∃ ks : List Str, kvs.map (·.1) = ks.map Sum.inr ∧ ks.Nodup ∧ ∀ x, x ∈ ks ↔ (F x).isSome = true := by
  have h : ∀ l : List (Key × V), (∀ k v, (k, v) ∈ l → ∃ p, k = Sum.inr p) → ∃ ks : List Str, l.map (·.1) = ks.map Sum.inr := by
    intro l
    induction l with
    | nil => intro _; exact ⟨[], rfl⟩
    | cons x r ih =>
      intro h
      obtain ⟨ks, e⟩ := ih fun k v hk => h k v (List.mem_cons_of_mem _ hk)
      obtain ⟨k, v⟩ := x
      obtain ⟨p, rfl⟩ := h k v List.mem_cons_self
      exact ⟨p :: ks, by rw [List.map_cons, List.map_cons, e]⟩
  obtain ⟨ks, e⟩ := h kvs fun k v hk => by
    obtain ⟨p, _, e, _⟩ := d.fst k v hk
    exact ⟨p, e⟩
  refine ⟨ks, e, ?_, fun x => ?_⟩
  · have := d.nd
    rw [e] at this
    exact (List.pairwise_map.mp this).imp fun h q => h (by rw [q])
  · have m : x ∈ ks ↔ (Sum.inr x : Key) ∈ kvs.map (·.1) := by
      rw [e, List.mem_map]
      constructor
      · exact fun h => ⟨x, h, rfl⟩
      · rintro ⟨y, h, q⟩
        cases q
        exact h
    rw [m, List.mem_map]
    constructor
    · rintro ⟨⟨k, v⟩, h, rfl⟩
      obtain ⟨p, ls, e1, e2, _⟩ := d.fst _ _ h
      cases e1
      rw [e2]
      rfl
    · intro h
      obtain ⟨ls, e⟩ := Option.isSome_iff_exists.mp h
      obtain ⟨v, hv⟩ := d.snd x ls e
      exact ⟨_, hv, rfl⟩
theorem DF.len {H : Hp} {kvs : List (Key × V)} {F : Files} (d : DF K H kvs F) (g : GoodF F) : kvs.length ≤ 10 := by
  obtain ⟨ks, e, nd, hm⟩ := d.keysEx
  have h1 : kvs.length = ks.length := by
    have := congrArg List.length e
    simpa using this
  have h2 : ks.Perm (keys F) := (List.perm_ext_iff_of_nodup nd (keys_nodup F)).mpr fun x => by rw [hm, goodF_mem g]
  rw [h1, h2.length_eq]
  exact keys_len F
/-- a table of the law: a dict that is not in D -/
def TabAt (K : PySem.W.Frag) (D : List Addr) (H : Hp) (v : V) (F : Files) : Prop := ∃ d kvs, v = .ref d ∧ H d = some (.dK kvs) ∧ d ∉ D ∧ DF K H kvs F
/-- a tree: an instance of the class at C -/
def TrAt (K : PySem.W.Frag) (C : Addr) (D : List Addr) (H : Hp) (v : V) (F : Files) : Prop := ∃ a dx d kvs, v = .ref a ∧ H a = some (.ins C dx [("_files", .ref d)]) ∧ H d = some (.dK kvs) ∧ d ∉ D ∧ DF K H kvs F
/-- trees and tables stay: tuples, the class's instances, dicts out of D -/
structure Ev (C : Addr) (D : List Addr) (H H' : Hp) : Prop where
  t : TX H H'
  i : ∀ a dx fs, H a = some (.ins C dx fs) → H' a = some (.ins C dx fs)
  d : ∀ a kvs, a ∉ D → H a = some (.dK kvs) → H' a = some (.dK kvs)
theorem Ev.refl (C : Addr) (D : List Addr) (H : Hp) : Ev C D H H := ⟨TX.refl H, fun _ _ _ h => h, fun _ _ _ h => h⟩
theorem Ev.trans {C : Addr} {D : List Addr} {H H1 H2 : Hp} (a : Ev C D H H1) (b : Ev C D H1 H2) : Ev C D H H2 := ⟨a.t.trans b.t, fun x dx fs h => b.i x dx fs (a.i x dx fs h), fun x kvs n h => b.d x kvs n (a.d x kvs n h)⟩
theorem ev_same {C : Addr} {D : List Addr} {H H' : Hp} (s : Same H H') : Ev C D H H' := ⟨tx_same s, fun a _ _ h => s a _ h, fun a _ _ h => s a _ h⟩
/-- what may be written so that trees stay -/
def evB (C : Addr) (b : Bool) : Option HO → Bool
  | none => true
  | some (.lst _) => true
  | some (.ins C' _ _) => decide (C' ≠ C)
  | some (.dK _) => b
  | _ => false
theorem ev_upd {C : Addr} {D : List Addr} {H : Hp} {p : Addr} {o : HO} (h : evB C (decide (p ∈ D)) (H p) = true) : Ev C D H (upd H p o) := by
  refine ⟨tx_upd ?_, fun a dx fs e => ?_, fun a kvs n e => ?_⟩
  · cases q : H p with
    | none => rfl
    | some u =>
      rw [q] at h
      cases u <;> first | rfl | cases h
  · have : a ≠ p := fun z => by
      rw [← z, e] at h
      simp [evB] at h
    rw [upd_ne this]
    exact e
  · have : a ≠ p := fun z => by
      rw [← z, e] at h
      exact n (of_decide_eq_true h)
    rw [upd_ne this]
    exact e
theorem TabAt.ev {C : Addr} {D : List Addr} {H H' : Hp} {v : V} {F : Files} (e : Ev C D H H') (t : TabAt K D H v F) : TabAt K D H' v F := by
  obtain ⟨d, kvs, rfl, h, n, f⟩ := t
  exact ⟨d, kvs, rfl, e.d d kvs n h, n, f.tx e.t⟩
theorem TrAt.ev {C : Addr} {D : List Addr} {H H' : Hp} {v : V} {F : Files} (e : Ev C D H H') (t : TrAt K C D H v F) : TrAt K C D H' v F := by
  obtain ⟨a, dx, d, kvs, rfl, h1, h, n, f⟩ := t
  exact ⟨a, dx, d, kvs, rfl, e.i a dx _ h1, e.d d kvs n h, n, f.tx e.t⟩
theorem TrAt.same {C : Addr} {D : List Addr} {H H' : Hp} {v : V} {F : Files} (e : Same H H') (t : TrAt K C D H v F) : TrAt K C D H' v F := t.ev (ev_same e)
theorem TabAt.same {D : List Addr} {H H' : Hp} {v : V} {F : Files} (e : Same H H') (t : TabAt K D H v F) : TabAt K D H' v F := t.ev (C := 0) (ev_same e)
/-- D is known to H: what is new is not in it -/
def Dok (D : List Addr) (H : Hp) : Prop := ∀ x ∈ D, ∃ o, H x = some o
theorem Dok.out {D : List Addr} {H : Hp} (h : Dok D H) {p : Addr} (n : H p = none) : p ∉ D := fun z => by
  obtain ⟨o, e⟩ := h p z
  rw [n] at e
  cases e
theorem Dok.same {D : List Addr} {H H' : Hp} (h : Dok D H) (s : Same H H') : Dok D H' := fun x hx => by
  obtain ⟨o, e⟩ := h x hx
  exact ⟨o, s x o e⟩
theorem dok_upd {D : List Addr} {H : Hp} {p : Addr} {o : HO} (h : Dok D H) : Dok D (upd H p o) := fun x hx => by
  by_cases e : x = p
  · rw [e]
    exact ⟨o, upd_same⟩
  · rw [upd_ne e]
    exact h x hx
end
end Sa
/-! text SetS -/
/-! len(set(xs)) of a list of different texts: as many as the list has. -/
namespace SetD
open PySem PySem.Spec PyProof.Rows
/-- item i of different texts is none of the first i -/
theorem new_at {xs : List Str} (nd : xs.Nodup) {i : Nat} (h : i < xs.length) : (xs.take i).any (· == xs.getD i Str.empty) = false := by
  have e : xs.getD i Str.empty = xs[i] := by
    rw [List.getD_eq_getElem?_getD, List.getElem?_eq_getElem h]
    rfl
  rw [e]
  cases q : (xs.take i).any (· == xs[i]) with
  | false => rfl
  | true =>
    obtain ⟨y, hy, ey⟩ := List.any_eq_true.mp q
    have ey : y = xs[i] := eq_of_beq ey
    rw [ey] at hy
    obtain ⟨j, hj, ej⟩ := List.mem_take_iff_getElem.mp hy
    have hj1 : j < i := by omega
    exact absurd ej (List.pairwise_iff_getElem.mp nd j i (by omega) h hj1)
theorem any_next {xs : List Str} {i : Nat} (h : i < xs.length) (k : Str) : ((xs.take i).any (· == k) || decide (k = xs.getD i Str.empty)) = (xs.take (i + 1)).any (· == k) := by
  have e : xs.getD i Str.empty = xs[i] := by
    rw [List.getD_eq_getElem?_getD, List.getElem?_eq_getElem h]
    rfl
  rw [e, List.take_succ_eq_append_getElem h, List.any_append, List.any_cons, List.any_nil, Bool.or_false]
  congr 1
  by_cases q : k = xs[i]
  · rw [decide_eq_true q, q]
    exact (beq_self_eq_true _).symm
  · rw [decide_eq_false q]
    exact (beq_eq_false_iff_ne.mpr fun z => q z.symm).symm
section
variable {prog : Program} {w : World} {A : Around} {R : Result → Shared → Prop} {I : Addr} {fp wr : List Addr} {G : Array GenState → Array GenState → Prop} {P : Nat → Value → Prop} {St : Nat → Shared → Prop} {xs : List Str}
theorem fill (W : WalksS prog w A.in1 I fp wr G xs.length P St) (S : Addr) (out : S ∉ fp) (nd : xs.Nodup) (few : xs.length ≤ 60)
    (val : ∀ i v, P i v → ∃ t, v = .str (xs.getD i Str.empty) t) : ∀ (left i : Nat) (s : Shared), left + i = xs.length → St i s → s.heap.SetOf (PySem.strKind prog w) S (fun k => (xs.take i).any (· == k)) i →
      (∀ s', Moved (S :: wr) G s s' → s'.heap.SetOf (PySem.strKind prog w) S (fun k => xs.any (· == k)) xs.length → R (.ok (.ret .none)) s') → codeAny (model prog w) A (.builtin "set.update.loop" ⟨[.ref S, .ref I], []⟩) R s := by
  have nw : S ∉ wr := fun h => out (W.sub _ h)
  have up : ∀ b ∈ wr, b ∈ S :: wr := fun b hb => List.mem_cons_of_mem _ hb
  have stays : ∀ {s s' : Shared} {f : Str → Bool} {n : Nat}, Moved wr G s s' → s.heap.SetOf (PySem.strKind prog w) S f n → s'.heap.SetOf (PySem.strKind prog w) S f n := fun m ⟨o, es, ep, t, ho, r⟩ => ⟨o, es, ep, t, m.heap S _ nw ho, r⟩
  intro left
  induction left with
  | zero =>
    intro i s hi hst hS fin
    obtain rfl : i = xs.length := by omega
    rw [List.take_length] at hS
    refine codeAny_builtin F.entry_set_update_loop ?_
    rw [Around.under_plainId F.plain_set_update_loop _]
    refine wpAny_bind (m := pyNext (.ref I)) (W.done s _ _ hst fun s' hm => ?_)
    exact wpAny_pure (fin s' (hm.mono up) (stays hm hS))
  | succ left ih =>
    intro i s hi hst hS fin
    have lt : i < xs.length := by omega
    refine codeAny_builtin F.entry_set_update_loop ?_
    rw [Around.under_plainId F.plain_set_update_loop _]
    refine wpAny_bind (m := pyNext (.ref I)) (W.item i s _ _ lt hst fun v s' hP hst' hm => ?_)
    obtain ⟨t, rfl⟩ := val i v hP
    have hS1 := stays hm hS
    refine wpAny_bind (m := holding [Value.str (xs.getD i Str.empty) t] (setAdd S (.str (xs.getD i Str.empty) t))) (wpAny_holding ?_)
    unfold setAdd
    refine wpAny_holding (wpAny_bind ((PySem.strKind prog w).pyHash (k := xs.getD i Str.empty) (strKind_is _ _ _ _) ?_))
    refine wpAny_setAddHashed_of (knd := PySem.strKind prog w) (s := { s' with toks := s'.toks + 1 }) (strKind_is _ _ _ _) rfl hS1 (by unfold scanBound; omega) fun h' but hS2 => ?_
    have hS3 : h'.SetOf (PySem.strKind prog w) S (fun k => (xs.take (i + 1)).any (· == k)) (i + 1) := SetOf_congr hS2 (any_next lt) (by rw [new_at nd lt]; rfl)
    refine wpAny_pure ⟨plainId_quiet F.plain_set_update_loop _, ih (i + 1) _ (by omega) (W.frame _ s' _ _ hst' (Nat.le_succ _) fun b hb o e => ?_) hS3 fun s2 hm2 hS4 => ?_⟩
    · rw [but.2 b fun z => out (z ▸ hb)]
      exact e
    · refine fin s2 (Moved.trans W.gtrans ((hm.mono up).then_heap (Nat.le_succ _) fun b o hb e => ?_) hm2) hS4
      rw [but.2 b fun z => hb (z ▸ List.mem_cons_self)]
      exact e
end
section
variable {prog : Program} {w : World} {A : Around} {E : Value → Shared → Prop} {s : Shared}
/-- what the set's making leaves -/
def After (prog : Program) (w : World) (s : Shared) (xs : List Str) (s2 : Shared) : Prop := ∃ h' tk, s2 = { s with heap := h', toks := tk } ∧ h'.SetOf (PySem.strKind prog w) s.heap.objs.size (fun k => xs.any (· == k)) xs.length ∧
  ∀ b o, b < s.heap.objs.size → s.heap.get? b = some o → h'.get? b = some o
theorem make {l : Addr} {items : Array Value} {xs : List Str} {Q : Value → Shared → Prop} (hh : A.handled = none) (hl : s.heap.IsList l items) (hi : StrsAre items.toList xs) (nd : xs.Nodup) (few : xs.length ≤ 60)
    (h : ∀ s2, After prog w s xs s2 → Q (.ref s.heap.objs.size) s2) : wpAny (model prog w) A (call (.type "set") [.ref l]) Q E s := by
  obtain ⟨c, tl, hmro⟩ := PySem.F.called_set.mro
  have hmade := PySem.F.called_set.made
  have hsub := PySem.F.called_set.sub
  refine wpAny_call (codeAny_of_tree (show wpAny _ _ (callAny (.type "set") _) _ _ _ from ?_))
  refine wpAny_pure ⟨Code.quiet_builtin _ (by decide +kernel), codeAny_builtin PySem.F.entry_type_call ?_⟩
  rw [Around.under_plain (weight_type_call_type "set" [.ref l] []) rfl]
  have h1 := PySem.F.called_set.notType
  have h2 := PySem.F.called_set.canCreate
  have hct := PySem.F.typeCall_set_1 (.ref l)
  repeat (any_goals (first | assumption | wp_step))
  refine codeAny_mono (code_set_new_1 (.ref l) (E := E) (Q₁ := fun obj s1 => ∃ led : Bool, obj = .ref s.heap.objs.size ∧ s1 = { s with heap := s.heap.push { cls := .type "set", dict := none, data := .set #[] 0 (.fresh 0 0 led) } }) fun led => ⟨led, rfl, rfl⟩) fun r s1 hr => ?_
  cases r with
  | error e => exact hr
  | ok fl =>
    cases fl with
    | next => exact hr.elim
    | brk => exact hr.elim
    | cont => exact hr.elim
    | ret obj =>
      obtain ⟨led, rfl, rfl⟩ := hr
      have hS : (s.heap.push { cls := .type "set", dict := none, data := .set #[] 0 (.fresh 0 0 led) }).get? s.heap.objs.size = some { cls := .type "set", dict := none, data := .set #[] 0 (.fresh 0 0 led) } := Heap.get?_push_size _ rfl
      have hT : Shared.TypeIs { s with heap := s.heap.push { cls := .type "set", dict := none, data := .set #[] 0 (.fresh 0 0 led) } } (.ref s.heap.objs.size) "set" := ⟨_, hS, rfl⟩
      have hli := PySem.F.called_set.init.lookup
      have hbi := PySem.F.called_set.init.bind (.ref s.heap.objs.size)
      repeat (any_goals (first | assumption | wp_step))
      refine codeAny_mono (codeAny_call_builtin (R := wants (fun r s2 => r = .none ∧ After prog w s xs s2) E) PySem.F.called_set.init.plain PySem.F.entry_set_init (check_set_init_1 hT ?_)) fun r2 s2 hr2 => ?_
      · obtain ⟨⟨ocls, odict, odata, oslots⟩, hol, hcl, nl, hdl⟩ := hl
        simp only at hcl hdl
        subst hcl
        subst hdl
        have hol1 : (s.heap.push { cls := .type "set", dict := none, data := .set #[] 0 (.fresh 0 0 led) }).get? l = some { cls := .type "list", dict := odict, data := .seq items nl, slots := oslots } := Heap.get?_push_of_some _ hol
        have hsls := PySem.F.sub_list_set
        have hslf := PySem.F.sub_list_frozenset
        have hne : (Value.type "list" == Value.type "dict") = false := by decide
        have hl1 : (s.heap.push { cls := .type "set", dict := none, data := .set #[] 0 (.fresh 0 0 led) }).IsList l items := ⟨_, hol1, rfl, nl, rfl⟩
        have low : l < s.heap.objs.size := Heap.lt_size hol
        have n1 : l ≠ (s.heap.push { cls := .type "set", dict := none, data := .set #[] 0 (.fresh 0 0 led) }).objs.size := by
          rw [Heap.size_push]
          exact Nat.ne_of_lt (Nat.lt_succ_of_lt low)
        have n2 : s.heap.objs.size ∉ [(s.heap.push { cls := .type "set", dict := none, data := .set #[] 0 (.fresh 0 0 led) }).objs.size, l] := by
          rw [Heap.size_push]
          simp only [List.mem_cons, List.mem_singleton, List.not_mem_nil, or_false, not_or]
          exact ⟨Nat.ne_of_lt (Nat.lt_succ_self _), Nat.ne_of_gt low⟩
        have many : xs.length = items.size := by rw [← StrsAre.len_eq hi, Array.length_toList]
        have hd3 : A.in1.in1.in1.handled = none := by simp [hh]
        have walk := (Walks.list (prog := prog) (w := w) hd3 _ l n1 items).toS
        rw [← many] at walk
        unfold Builtin.«set.__init__» noKeywords Builtin.Frozenset.updateFrom
        generalize hPI : pyIter = PI
        wp_walk
        subst hPI
        refine wpAny_pyIter_list hl1 (wpAny_bind (wpAny_runValue ?_))
        refine fill walk s.heap.objs.size n2 nd few (fun i v hv => SS.strs_at hi i v (by rw [Array.getElem?_toList]; exact hv)) xs.length 0 _ rfl ⟨⟨_, Heap.get?_push_size _ rfl, rfl, rfl⟩, (hl1.push _)⟩ ?hS0 ?hR
        case hS0 =>
          have g := Heap.get?_push_of_some { cls := .type "list_iterator", data := .fields #[.ref l, .int 0 0] } hS
          exact SetOf_congr ((setObjOf_fresh (knd := PySem.strKind prog w) led).setOf g (by unfold scanBound; omega)) (fun _ => rfl) rfl
        case hR =>
          intro s3 hm hS3
          obtain ⟨h', g', d', tk', os'⟩ := s3
          have eg : g' = s.gens := hm.gens
          have ed : d' = s.drawn := hm.drawn
          have eo : os' = s.os := hm.os
          subst eg
          subst ed
          subst eo
          refine wpAny_pure (show wpAny _ _ (ret Value.none) _ _ _ from wpAny_pure ⟨rfl, h', tk', rfl, hS3, fun b o hb e => ?_⟩)
          have m1 : b ≠ s.heap.objs.size := Nat.ne_of_lt hb
          have m2 : b ≠ (s.heap.push { cls := .type "set", dict := none, data := .set #[] 0 (.fresh 0 0 led) }).objs.size := by
            rw [Heap.size_push]
            exact Nat.ne_of_lt (Nat.lt_succ_of_lt hb)
          exact hm.heap b o (by simp only [List.mem_cons, List.mem_singleton, List.not_mem_nil, or_false, not_or]; exact ⟨m1, m2⟩) (Heap.get?_push_of_some _ (Heap.get?_push_of_some _ e))
      · cases r2 with
        | error e => exact hr2
        | ok fl2 =>
          cases fl2 with
          | next => exact hr2.elim
          | brk => exact hr2.elim
          | cont => exact hr2.elim
          | ret r =>
            obtain ⟨rfl, a⟩ := hr2
            obtain ⟨h', tk, rfl, r1, r2⟩ := a
            repeat (any_goals (first | assumption | wp_step))
            exact h _ ⟨h', tk, rfl, r1, r2⟩
end
end SetD
namespace L2
open PySem PySem.Spec PyProof.Rows
section
variable {X : Cx}
/-- len(set(xs)), xs a list of different texts -/
def tLenSetS (K : PySem.W.Frag) (ta : TE) : TE := fun σ H Q => ta σ H fun x H1 => ∃ (l : Addr) (xs : List Str), x = .ref l ∧ SqL K H1 l (xs.map V.str) ∧ xs.Nodup ∧ xs.length ≤ 60 ∧ Q (.int (xs.length : Nat)) H1
theorem pe_lenSetS {a : Expr} {ta : TE} {p p2 q pos : Pos} (hc : X.calm = true) (hg : Gl X "len") (hm : X.mg "len" = none) (hg2 : Gl X "set") (hm2 : X.mg "set" = none) (ha : PE X a ta)
    (na : starEach [a] X.env = (false, eval a X.env) :: starEach [] X.env := by rfl) : PE X (.Call (.Name "len" p) [.Call (.Name "set" p2) [a] [] q] [] pos) (tLenSetS X.K ta) := by
  refine ⟨fun pins s σ H Q I h => ?_⟩
  refine Call_ (ld_blt I hg hm boot_len (callWith_builtin1 (args_cons (Call_ (ld_blt I hg2 hm2 boot_set ?_)) rfl) rfl rfl))
  refine callWith_type1 (args_cons (thn (ha.run pins s σ H _ I h) fun v s1 hv => args_nil ?_) na) na rfl
  obtain ⟨x, H1, I1, r1, l, xs, rfl, hq, nd, few, q1⟩ := hv
  cases r1
  obtain ⟨its, r, pl, hz⟩ := I1.list hq
  refine SetD.make (I1.ok.hd hc) pl.isList (by simpa using strsAre_of r) nd few fun s2 h2 => args_nil ?_
  obtain ⟨h', tk, rfl, hS, hk⟩ := h2
  obtain ⟨o, es, ep, t, ho, hex, hd, _, _, _, hf, hn⟩ := hS
  have I2 : Inv X pins σ H1 { s1 with heap := h', toks := tk } := I1.kept fun b o e => hk b o (Heap.lt_size e) e
  exact call_len_set ho hex hd hf (by rw [hn]; omega) ⟨.int xs.length, H1, I2.tok _, ⟨_, by rw [hn]⟩, q1⟩
end
end L2
/-! text D1 -/
/-! paths.py -/
namespace Sa
open PySem PySem.Spec L2 PyProof.Rows
section
theorem iteP {p A B : Prop} [Decidable p] (h : p) (a : A) : if decide p = true then A else B := by
  rw [if_pos (decide_eq_true h)]
  exact a
theorem iteN {p A B : Prop} [Decidable p] (h : ¬ p) (b : B) : if decide p = true then A else B := by
  rw [if_neg (by rw [decide_eq_false h]; decide)]
  exact b
theorem iteE {b : Bool} {A B : Prop} (e : b = true) (a : A) : if b = true then A else B := by
  rw [if_pos e]
  exact a
theorem iteEn {b : Bool} {A B : Prop} (e : b = false) (h : B) : if b = true then A else B := by
  rw [if_neg (by rw [e]; decide)]
  exact h
theorem t_yes {s : L2.St} {H : Hp} {A B : Hp → Prop} (h : A H) : tYes s H fun b H3 => if b = true then A H3 else B H3 := by
  show (if true = true then A H else B H)
  rw [if_pos rfl]
  exact h
theorem lt1 {c d : Nat} : (([c] : List Nat) < [d]) ↔ c < d := by
  constructor
  · intro h
    rcases List.cons_lt_cons_iff.mp h with h | ⟨_, h⟩
    · exact h
    · exact absurd h (List.not_lt_nil _)
  · intro h
    exact List.cons_lt_cons_iff.mpr (.inl h)
theorem small {n m : Nat} (h : n ≤ m) (hm : m ≤ 100000 := by decide) : n ≤ sizeLine := Nat.le_trans h (Nat.le_trans hm (by decide))
theorem smallt {n m : Nat} (h : n ≤ m) (hm : m ≤ 100000 := by decide) : n < sizeLine := Nat.lt_of_le_of_lt h (Nat.lt_of_le_of_lt hm (by decide))
def trues (n : Nat) : List V := (List.replicate n true).map V.bl
theorem trues_succ (n : Nat) : trues (n + 1) = trues n ++ [V.bl true] := by
  unfold trues
  rw [List.replicate_succ', List.map_append]
  rfl
theorem trues_all (n : Nat) : (List.replicate n true).all id = true := by
  rw [List.all_eq_true]
  intro x hx
  rw [List.eq_of_mem_replicate hx]
  rfl
theorem trues_len (n : Nat) : (trues n).length = n := by
  unfold trues
  rw [List.length_map, List.length_replicate]
variable {P : Program} {w : World} {K : PySem.W.Frag} {mg : Str → Option Value} {base : Heap}
/-! ### the texts that are met -/
def NMS : List Str := ["a", "b", "c", "d", "e", "x", "y", "z", "q", "s", "c0", "c1"]
def LETTERS : Str := "abcdefghijklmnopqrstuvwxyz0123456789"
theorem nms_ok : ∀ x ∈ NMS, 1 ≤ x.length ∧ x.length ≤ 8 ∧ ∀ c ∈ x.cps.toList, inLine ⟨#[c]⟩ LETTERS = true := by decide +kernel
theorem p10_ok : ∀ p ∈ P10, (Txt.split p "/").length ≤ 3 ∧ p.length ≤ 5 ∧ ∀ x ∈ Txt.split p "/", x ∈ NMS := by decide +kernel
theorem l5_ok : ∀ x ∈ L5, x.length ≤ 3 ∧ ∀ c ∈ x.cps.toList, ¬ c < 32 ∧ ¬ 126 < c ∧ c ≠ 34 ∧ c ≠ 37 := by decide +kernel
theorem w4_l5 : ∀ x ∈ W4, x ∈ L5 ∧ 1 ≤ x.length := by decide +kernel
theorem p11_p10 : ∀ p ∈ P11, p ≠ "" → p ∈ P10 := by decide +kernel
theorem cps_at {z : Str} {i c : Nat} (h : z.cps[i]? = some c) : c ∈ z.cps.toList := by
  rw [← Array.getElem?_toList] at h
  exact List.mem_of_getElem? h
/-! ### the promises -/
def spIsName : Sp := fun vs H Q _ => ∃ x : Str, vs = [.str x] ∧ x ∈ NMS ∧ ∀ H', Same H H' → Q (.bl true) H'
def spIsPath : Sp := fun vs H Q _ => ∃ x : Str, vs = [.str x] ∧ x ∈ P10 ∧ ∀ H', Same H H' → Q (.bl true) H'
def spIsPlace : Sp := fun vs H Q _ => ∃ x : Str, vs = [.str x] ∧ x ∈ P11 ∧ ∀ H', Same H H' → Q (.bl true) H'
def spIsPlain : Sp := fun vs H Q _ => ∃ x : Str, vs = [.str x] ∧ x ∈ L5 ∧ ∀ H', Same H H' → Q (.bl true) H'
def spIsWord : Sp := fun vs H Q _ => ∃ x : Str, vs = [.str x] ∧ x ∈ W4 ∧ ∀ H', Same H H' → Q (.bl true) H'
def spIsLines (K : PySem.W.Frag) : Sp := fun vs H Q _ => ∃ (v : V) (ls : List Str), vs = [v] ∧ Dt K H v (dL ls) ∧ GoodLs ls ∧ ∀ H', Same H H' → Q (.bl true) H'
def spIsInside : Sp := fun vs H Q _ => ∃ p q : Str, vs = [.str p, .str q] ∧ q.length ≤ 100 ∧ ∀ H', Same H H' → Q (.bl (isInB p q)) H'
theorem sc_is_name : FnScope ["text", "sign"] ["text"] (defScope s_is_name) := ⟨rfl, rfl, rfl, by decide +kernel, rfl, by decide +kernel, by decide +kernel⟩
theorem cal_is_name (T : Tx K mg) : Cal P w K mg base 1 "is_name" spIsName := by
  refine T.cal 0 0 (f_at (x := "is_name") rfl) (g_at rfl) (N := ["text", "sign"]) (ps := ["text"]) (fun _ _ _ _ _ _ us hl => match us, hl with | [_], _ => rfl) sc_is_name (fun vs H Q E h => ?_) (fun f cdv A outer s H vs Q E hr h => ?_)
  · obtain ⟨x, rfl, _⟩ := h
    rfl
  · obtain ⟨x, rfl, hx, k⟩ := h
    obtain ⟨h1, h2, h3⟩ := nms_ok x hx
    refine ⟨_, pss_one (ps_ret (pe_and (pe_chain op_le op_le (pe_int) (pe_callB call_len_str (by rfl) (T.free 85) bv_len (pa_cons (pv 0) pa_nil)) (pe_gc rfl (T.gint 59))) (pe_one (pe_callB (cr_all rfl) (by rfl) (T.free 86) bv_all (pa_cons (pe_lc (own := [("sign", 1)]) (g := gName 1) (tt := tYes) rfl sc_is_name.nd (pi_str (pv 0)) (blkOk_by (own := [("sign", 1)]) (N := ["text", "sign"]) (sc := defScope s_is_name) (by decide +kernel)) (fun _ _ _ _ _ => pg_name (i := 1) sc_is_name.nd rfl (by first | exact Or.inl rfl | exact Or.inr rfl)) (fun _ _ _ _ _ => pts_nil) (fun _ _ _ _ _ => pe_cmpR op_in_str (pv 1) (pe_gc rfl (T.gstr 64)) (by rfl))) pa_nil))))), ?_⟩
    refine ⟨_, rfl, _, rfl, small h2, _, _, rfl, rfl, _, rfl, iteP (by omega) ⟨_, _, rfl, rfl, _, rfl, iteP (by omega) ?_⟩⟩
    refine ⟨_, rfl, _, rfl, fun D hD => lc_it walk_str (fun i H' => Same H H' ∧ H' D = some (.lst (trues i))) ⟨same_new hD, upd_same⟩ (fun _ _ _ _ => trivial) ?_ ?_⟩
    · rintro i y H1 H2 hi ⟨s1, hl⟩ ⟨rfl, c, hc, rfl⟩
      refine ⟨rfl, t_yes ?_⟩
      refine ⟨_, rfl, _, _, rfl, rfl, _, hl, smallt (m := 8) (by rw [trues_len]; have : x.cps.size = x.length := rfl; omega), same_mut s1 hD, ?_⟩
      rw [trues_succ, upd_same]
      have e := h3 c (cps_at hc)
      unfold inLine LETTERS at e
      rw [e]
    · rintro H1 ⟨s1, hl⟩
      refine ⟨_, List.replicate _ true, rfl, .inl (.inl hl), ?_⟩
      rw [trues_all]
      exact k H1 s1
theorem sc_is_path : FnScope ["text", "names", "name"] ["text"] (defScope s_is_path) := ⟨rfl, rfl, rfl, by decide +kernel, rfl, by decide +kernel, by decide +kernel⟩
theorem cal_is_path (T : Tx K mg) : Cal P w K mg base 2 "is_path" spIsPath := by
  refine T.cal 1 1 (f_at (x := "is_path") rfl) (g_at rfl) (N := ["text", "names", "name"]) (ps := ["text"]) (fun _ _ _ _ _ _ us hl => match us, hl with | [_], _ => rfl) sc_is_path (fun vs H Q E h => ?_) (fun f cdv A outer s H vs Q E hr h => ?_)
  · obtain ⟨x, rfl, _⟩ := h
    rfl
  · obtain ⟨x, rfl, hx, k⟩ := h
    obtain ⟨h1, h2, h3⟩ := p10_ok x hx
    refine ⟨_, pss_cons (ps_set (i := 1) sc_is_path.nd rfl (by first | exact Or.inl rfl | exact Or.inr rfl) (pe_split (pv 0) (pe_str))) (pss_one (ps_ret (pe_and (pe_cmpR op_le (pe_callB call_len_seq (by rfl) (T.free 85) bv_len (pa_cons (pv 1) pa_nil)) (pe_gc rfl (T.gint 60)) (nomark _)) (pe_one (pe_callB (cr_all rfl) (by rfl) (T.free 86) bv_all (pa_cons (pe_lc (own := [("name", 2)]) (g := gName 2) (tt := tYes) rfl sc_is_path.nd (pi_list (pv 1)) (blkOk_by (own := [("name", 2)]) (N := ["text", "names", "name"]) (sc := defScope s_is_path) (by decide +kernel)) (fun _ _ _ _ _ => pg_name (i := 2) sc_is_path.nd rfl (by first | exact Or.inl rfl | exact Or.inr rfl)) (fun _ _ _ _ _ => pts_nil) (fun _ _ _ _ _ => pe_c (cal_is_name T) hr (by decide) rfl (pa_cons (pv 2) pa_nil))) pa_nil)))))), ?_⟩
    refine ⟨_, rfl, ⟨_, rfl⟩, _, _, rfl, rfl, rfl, small (m := 7) (by omega), fun l hl => ?_⟩
    refine ⟨_, rfl, _, _, rfl, .inl (.inl (.inl upd_same)), _, _, rfl, rfl, _, rfl, ?_⟩
    refine iteP (by rw [List.length_map]; omega) ?_
    refine ⟨_, rfl, _, rfl, ⟨_, .inl (.inl upd_same)⟩, fun D hD => lc_list (xs := (Txt.split x "/").map V.str) (fun i H' => Same (upd H l (.lst ((Txt.split x "/").map V.str))) H' ∧ H' D = some (.lst (trues i))) ⟨same_new hD, upd_same⟩ (fun i H' _ q => .inl (.inl (q.1 _ _ upd_same))) ?_ ?_⟩
    · rintro i y H1 hi ⟨s1, hd⟩
      obtain ⟨z, hz, rfl⟩ := List.mem_map.mp (List.mem_of_getElem? hi)
      have hil : i < 3 := by
        have := (List.getElem?_eq_some_iff.mp hi).1
        rw [List.length_map] at this
        omega
      refine ⟨rfl, t_yes ?_⟩
      refine ⟨_, rfl, z, rfl, h3 z hz, fun H2 s2 => ?_⟩
      refine ⟨_, s2 _ _ hd, smallt (m := 8) (by rw [trues_len]; omega), same_mut (s1.trans s2) hD, ?_⟩
      rw [trues_succ, upd_same]
    · rintro H1 ⟨s1, hd⟩
      refine ⟨_, List.replicate _ true, rfl, .inl (.inl hd), ?_⟩
      rw [trues_all]
      exact k H1 ((same_new hl).trans s1)
theorem sc_is_place : FnScope ["text"] ["text"] (defScope s_is_place) := ⟨rfl, rfl, rfl, by decide +kernel, rfl, by decide +kernel, by decide +kernel⟩
theorem cal_is_place (T : Tx K mg) : Cal P w K mg base 3 "is_place" spIsPlace := by
  refine T.cal 2 2 (f_at (x := "is_place") rfl) (g_at rfl) (N := ["text"]) (ps := ["text"]) (fun _ _ _ _ _ _ us hl => match us, hl with | [_], _ => rfl) sc_is_place (fun vs H Q E h => ?_) (fun f cdv A outer s H vs Q E hr h => ?_)
  · obtain ⟨x, rfl, _⟩ := h
    rfl
  · obtain ⟨x, rfl, hx, k⟩ := h
    refine ⟨_, pss_one (ps_ret (pe_or (pe_cmpR op_eq (pv 0) (pe_str) (nomark _)) (pe_one (pe_c (cal_is_path T) hr (by decide) rfl (pa_cons (pv 0) pa_nil))))), ?_⟩
    refine ⟨_, rfl, rfl, _, rfl, ?_⟩
    by_cases e : V.str x = V.str ""
    · exact iteP e (k H (Same.refl H))
    · refine iteN e ⟨_, rfl, x, rfl, p11_p10 x hx (fun z => e (by rw [z])), k⟩
theorem sc_is_plain : FnScope ["text", "sign"] ["text"] (defScope s_is_plain) := ⟨rfl, rfl, rfl, by decide +kernel, rfl, by decide +kernel, by decide +kernel⟩
theorem cal_is_plain (T : Tx K mg) : Cal P w K mg base 1 "_is_plain" spIsPlain := by
  refine T.cal 3 3 (f_at (x := "_is_plain") rfl) (g_at rfl) (N := ["text", "sign"]) (ps := ["text"]) (fun _ _ _ _ _ _ us hl => match us, hl with | [_], _ => rfl) sc_is_plain (fun vs H Q E h => ?_) (fun f cdv A outer s H vs Q E hr h => ?_)
  · obtain ⟨x, rfl, _⟩ := h
    rfl
  · obtain ⟨x, rfl, hx, k⟩ := h
    obtain ⟨h1, h2⟩ := l5_ok x hx
    refine ⟨_, pss_cons (ps_for PassesOwn.never rfl (pi_str (pv 0)) (pg_name (i := 1) sc_is_plain.nd rfl (by first | exact Or.inl rfl | exact Or.inr rfl)) (pss_one (ps_if (PW.pt (pw_or (pt_not (pt_chain op_le_str op_le_str (pe_str) (pv 1) (pe_str))) (pw_or (pt_cmpR op_eq (pv 1) (pe_str) (nomark _)) (pw_or1 (pt_cmpR op_eq (pe_callB call_ord (by rfl) (T.free 94) bv_ord (pa_cons (pv 1) pa_nil)) (pe_gc rfl (T.gint 65)) (nomark _)))))) (pss_one (ps_ret (pe_bl))) (pss_nil)))) (pss_one (ps_ret (pe_bl))), ?_⟩
    refine ⟨_, rfl, _, rfl, for_it walk_str (fun i σ H' => ∃ v, σ = [some (.str x), v] ∧ H' = H) ⟨_, rfl, rfl⟩ (fun _ _ _ _ _ => trivial) ?_ ?_⟩
    · rintro i y σ H1 H2 hi ⟨v, rfl, rfl⟩ ⟨rfl, c, hc, rfl⟩
      obtain ⟨g1, g2, g3, g4⟩ := h2 c (cps_at hc)
      refine ⟨_, rfl, _, _, rfl, rfl, _, rfl, iteE ?_ ⟨_, _, rfl, rfl, _, rfl, iteEn ?_ ⟨_, rfl, rfl, _, rfl, iteN ?_ ⟨_, rfl, _, rfl, rfl, rfl, _, rfl, iteN ?_ ⟨_, rfl, rfl⟩⟩⟩⟩⟩
      · show (!decide (([c] : List Nat) < [32])) = true
        rw [decide_eq_false (fun z => g1 (lt1.mp z))]
        rfl
      · show (!(!decide (([126] : List Nat) < [c]))) = false
        rw [decide_eq_false (fun z => g2 (lt1.mp z))]
        rfl
      · intro z
        have z2 := congrArg (fun v : V => match v with | .str s => s.cps.toList | _ => []) z
        exact g3 (List.cons.inj (show ([c] : List Nat) = [34] from z2)).1
      · intro z
        have z2 : ((c : Nat) : Int) = 37 := V.int.inj z
        exact g4 (by omega)
    · rintro σ H1 ⟨v, rfl, rfl⟩
      exact k _ (Same.refl _)
def spIsLine : Sp := spIsPlain
theorem sc_is_line : FnScope ["text"] ["text"] (defScope s_is_line) := ⟨rfl, rfl, rfl, by decide +kernel, rfl, by decide +kernel, by decide +kernel⟩
theorem cal_is_line (T : Tx K mg) : Cal P w K mg base 2 "is_line" spIsLine := by
  refine T.cal 4 4 (f_at (x := "is_line") rfl) (g_at rfl) (N := ["text"]) (ps := ["text"]) (fun _ _ _ _ _ _ us hl => match us, hl with | [_], _ => rfl) sc_is_line (fun vs H Q E h => ?_) (fun f cdv A outer s H vs Q E hr h => ?_)
  · obtain ⟨x, rfl, _⟩ := h
    rfl
  · obtain ⟨x, rfl, hx, k⟩ := h
    obtain ⟨h1, h2⟩ := l5_ok x hx
    refine ⟨_, pss_one (ps_ret (pe_and (pe_cmpR op_le (pe_callB call_len_str (by rfl) (T.free 85) bv_len (pa_cons (pv 0) pa_nil)) (pe_gc rfl (T.gint 61)) (nomark _)) (pe_one (pe_c (cal_is_plain T) hr (by decide) rfl (pa_cons (pv 0) pa_nil))))), ?_⟩
    exact ⟨_, rfl, _, rfl, small h1, _, _, rfl, rfl, _, rfl, iteP (by omega) ⟨_, rfl, x, rfl, hx, k⟩⟩
theorem sc_is_word : FnScope ["text"] ["text"] (defScope s_is_word) := ⟨rfl, rfl, rfl, by decide +kernel, rfl, by decide +kernel, by decide +kernel⟩
theorem cal_is_word (T : Tx K mg) : Cal P w K mg base 2 "is_word" spIsWord := by
  refine T.cal 5 5 (f_at (x := "is_word") rfl) (g_at rfl) (N := ["text"]) (ps := ["text"]) (fun _ _ _ _ _ _ us hl => match us, hl with | [_], _ => rfl) sc_is_word (fun vs H Q E h => ?_) (fun f cdv A outer s H vs Q E hr h => ?_)
  · obtain ⟨x, rfl, _⟩ := h
    rfl
  · obtain ⟨x, rfl, hx, k⟩ := h
    obtain ⟨h0, h3⟩ := w4_l5 x hx
    obtain ⟨h1, h2⟩ := l5_ok x h0
    refine ⟨_, pss_one (ps_ret (pe_and (pe_chain op_le op_le (pe_int) (pe_callB call_len_str (by rfl) (T.free 85) bv_len (pa_cons (pv 0) pa_nil)) (pe_gc rfl (T.gint 63))) (pe_one (pe_c (cal_is_plain T) hr (by decide) rfl (pa_cons (pv 0) pa_nil))))), ?_⟩
    exact ⟨_, rfl, _, rfl, small h1, _, _, rfl, rfl, _, rfl, iteP (by omega) ⟨_, _, rfl, rfl, _, rfl, iteP (by omega) ⟨_, rfl, x, rfl, h0, k⟩⟩⟩
theorem sc_is_lines : FnScope ["lines", "line"] ["lines"] (defScope s_is_lines) := ⟨rfl, rfl, rfl, by decide +kernel, rfl, by decide +kernel, by decide +kernel⟩
theorem cal_is_lines (T : Tx K mg) : Cal P w K mg base 3 "is_lines" (spIsLines K) := by
  refine T.cal 6 6 (f_at (x := "is_lines") rfl) (g_at rfl) (N := ["lines", "line"]) (ps := ["lines"]) (fun _ _ _ _ _ _ us hl => match us, hl with | [_], _ => rfl) sc_is_lines (fun vs H Q E h => ?_) (fun f cdv A outer s H vs Q E hr h => ?_)
  · obtain ⟨v, ls, rfl, _⟩ := h
    rfl
  · obtain ⟨v, ls, rfl, hd, hg, k⟩ := h
    obtain ⟨a, rfl, hs⟩ := Dt.linesI hd
    refine ⟨_, pss_one (ps_ret (pe_and (pe_cmpR op_le (pe_callB call_len_seq (by rfl) (T.free 85) bv_len (pa_cons (pv 0) pa_nil)) (pe_gc rfl (T.gint 62)) (nomark _)) (pe_one (pe_callB (cr_all rfl) (by rfl) (T.free 86) bv_all (pa_cons (pe_lc (own := [("line", 1)]) (g := gName 1) (tt := tYes) rfl sc_is_lines.nd (pi_tup (pv 0)) (blkOk_by (own := [("line", 1)]) (N := ["lines", "line"]) (sc := defScope s_is_lines) (by decide +kernel)) (fun _ _ _ _ _ => pg_name (i := 1) sc_is_lines.nd rfl (by first | exact Or.inl rfl | exact Or.inr rfl)) (fun _ _ _ _ _ => pts_nil) (fun _ _ _ _ _ => pe_c (cal_is_line T) hr (by decide) rfl (pa_cons (pv 1) pa_nil))) pa_nil))))), ?_⟩
    refine ⟨_, rfl, _, _, rfl, .inr hs.sq, _, _, rfl, rfl, _, rfl, iteP (by rw [List.length_map]; have := hg.1; omega) ?_⟩
    refine ⟨_, rfl, _, rfl, ⟨_, hs.sq⟩, fun D hD => lc_tup (xs := ls.map V.str) (fun i H' => Same H H' ∧ H' D = some (.lst (trues i))) ⟨same_new hD, upd_same⟩ (fun i H' _ q => (hs.tx (tx_same q.1)).sq) ?_ ?_⟩
    · rintro i y H1 hi ⟨s1, hd⟩
      obtain ⟨z, hz, rfl⟩ := List.mem_map.mp (List.mem_of_getElem? hi)
      have hil : i < 12 := by
        have := (List.getElem?_eq_some_iff.mp hi).1
        rw [List.length_map] at this
        have := hg.1
        omega
      refine ⟨rfl, t_yes ?_⟩
      refine ⟨_, rfl, z, rfl, hg.2 z hz, fun H2 s2 => ?_⟩
      refine ⟨_, s2 _ _ hd, smallt (m := 12) (by rw [trues_len]; omega), same_mut (s1.trans s2) hD, ?_⟩
      rw [trues_succ, upd_same]
    · rintro H1 ⟨s1, hd⟩
      refine ⟨_, List.replicate _ true, rfl, .inl (.inl hd), ?_⟩
      rw [trues_all]
      exact k H1 s1
theorem sc_is_inside : FnScope ["path", "place"] ["path", "place"] (defScope s_is_inside) := ⟨rfl, rfl, rfl, by decide +kernel, rfl, by decide +kernel, by decide +kernel⟩
theorem cal_is_inside (T : Tx K mg) : Cal P w K mg base 1 "is_inside" spIsInside := by
  refine T.cal 7 7 (f_at (x := "is_inside") rfl) (g_at rfl) (N := ["path", "place"]) (ps := ["path", "place"]) (fun _ _ _ _ _ _ us hl => match us, hl with | [_, _], _ => rfl) sc_is_inside (fun vs H Q E h => ?_) (fun f cdv A outer s H vs Q E hr h => ?_)
  · obtain ⟨x, y, rfl, _⟩ := h
    rfl
  · obtain ⟨p, q, rfl, hq, k⟩ := h
    refine ⟨_, pss_one (ps_ret (pe_or (pe_cmpR op_eq (pv 1) (pe_str) (nomark _)) (pe_one (pe_m1 F.slot_str_startswith F.type_str_startswith mt_startswith (pv 0) (pe_op op_add_str (pv 1) (pe_str)))))), ?_⟩
    refine ⟨_, rfl, rfl, _, rfl, ?_⟩
    by_cases e : q = ""
    · refine iteP (by rw [e]) ?_
      have q2 := k H (Same.refl H)
      unfold isInB at q2
      rw [decide_eq_true e, Bool.true_or] at q2
      exact q2
    · refine iteN (fun z => e (by cases z; rfl)) ?_
      refine ⟨_, rfl, ⟨_, rfl⟩, _, rfl, _, _, rfl, rfl, small (m := 200) (by show q.length + 1 ≤ 200; omega), _, _, rfl, rfl, ?_⟩
      have q2 := k H (Same.refl H)
      unfold isInB at q2
      rw [decide_eq_false e, Bool.false_or] at q2
      exact q2
end
end Sa
/-! text D2 -/
/-! trees.py, its making -/
namespace Sa
open PySem PySem.Spec L2 PyProof.Rows
section
variable {P : Program} {w : World} {K : PySem.W.Frag} {mg : Str → Option Value} {base : Heap}
abbrev CT (K : PySem.W.Frag) : Addr := He.ga K "Tree"
/-! ### what is walked: a list or a tuple -/
def SqA (K : PySem.W.Frag) (H : Hp) (a : Addr) (xs : List V) : Prop := SqL K H a xs ∨ St1 K H a xs
theorem PI.or {X : Cx} {tg e : Expr} {w1 w2 : TI} (h1 : PI X tg e w1) (h2 : PI X tg e w2) : PI X tg e (fun σ H R => w1 σ H R ∨ w2 σ H R) :=
  ⟨fun pins s σ H R I h => h.elim (h1.run pins s σ H R I) (h2.run pins s σ H R I)⟩
def iSeq (K : PySem.W.Frag) (te : TE) : TI := fun σ H R => iList K te σ H R ∨ iTup K te σ H R
theorem pi_seq {X : Cx} {tg e : Expr} {te : TE} (h : PE X e te) : PI X tg e (iSeq X.K te) := PI.or (pi_list h) (pi_tup h)
theorem iSeq_var {i : Nat} {a : Addr} {xs : List V} {σ : L2.St} {H : Hp} {R : It → Hp → Prop} (hv : σ[i]? = some (some (.ref a))) (hS : SqA K H a xs)
    (k : ∀ (J : It) (G : Hp → Prop), Walk J xs.length G (YAt xs) → (∀ H', Same H H' → G H') → R J H) : iSeq K (tVar i) σ H R := by
  rcases hS with h | h
  · exact .inl ⟨_, hv, a, rfl, ⟨_, h⟩, k _ _ walk_list fun H' s => s.seq h⟩
  · exact .inr ⟨_, hv, a, rfl, ⟨_, h.sq⟩, k _ _ walk_tup fun H' s => (h.tx (tx_same s)).sq⟩
/-! ### files as a list -/
def dFile (f : Str × List Str) : PyData := .tuple [.str f.1, dL f.2]
structure FsOf (fs : List (Str × List Str)) (F : Files) : Prop where
  nd : (fs.map Prod.fst).Nodup
  iff : ∀ q ls, F q = some ls ↔ (q, ls) ∈ fs
theorem FsOf.len {fs : List (Str × List Str)} {F : Files} (o : FsOf fs F) (g : GoodF F) : fs.length ≤ 10 := by
  have h2 : (fs.map Prod.fst).Perm (keys F) := (List.perm_ext_iff_of_nodup o.nd (keys_nodup F)).mpr fun x => by
    rw [goodF_mem g, List.mem_map]
    constructor
    · rintro ⟨⟨p, ls⟩, h, rfl⟩
      rw [(o.iff p ls).mpr h]
      rfl
    · intro h
      obtain ⟨ls, e⟩ := Option.isSome_iff_exists.mp h
      exact ⟨(x, ls), (o.iff x ls).mp e, rfl⟩
  have := h2.length_eq
  rw [List.length_map] at this
  rw [this]
  exact keys_len F
/-- item i of the value: a tuple of a path and lines -/
theorem file_at {H : Hp} {xs : List V} {fs : List (Str × List Str)} {i : Nat} {x : V} (h : DtAll K H xs (fs.map dFile)) (e : xs[i]? = some x) :
    ∃ p ls t y, fs[i]? = some (p, ls) ∧ x = .ref t ∧ St1 K H t [.str p, y] ∧ Dt K H y (dL ls) := by
  obtain ⟨d, h1, h2⟩ := h.get e
  rw [List.getElem?_map] at h1
  obtain ⟨⟨p, ls⟩, h3, rfl⟩ := Option.map_eq_some_iff.mp h1
  obtain ⟨t, a, y, rfl, h4, h5, h6⟩ := Dt.twoI h2
  rw [Dt.strI h5] at h4
  exact ⟨p, ls, t, y, h3, rfl, h4, h6⟩
theorem file_st {H H' : Hp} {t : Addr} {p : Str} {y : V} {ls : List Str} (s : Same H H') (h : St1 K H t [.str p, y]) : SqT K H' t [.str p, y] := (h.tx (tx_same s)).sq
def falses (n : Nat) : List V := (List.replicate n false).map V.bl
theorem falses_succ (n : Nat) : falses (n + 1) = falses n ++ [V.bl false] := by
  unfold falses
  rw [List.replicate_succ', List.map_append]
  rfl
theorem falses_any (n : Nat) : (List.replicate n false).any id = false := by
  rw [List.any_eq_false]
  intro x hx
  rw [List.eq_of_mem_replicate hx]
  decide
theorem falses_len (n : Nat) : (falses n).length = n := by
  unfold falses
  rw [List.length_map, List.length_replicate]
def spAreFiles (K : PySem.W.Frag) : Sp := fun vs H Q _ => ∃ (a : Addr) (xs : List V) (fs : List (Str × List Str)) (F : Files), vs = [.ref a] ∧ SqA K H a xs ∧ DtAll K H xs (fs.map dFile) ∧ FsOf fs F ∧ GoodF F ∧ ∀ H', Same H H' → Q (.bl true) H'
theorem sc_are_files : FnScope ["files", "paths", "path", "_", "lines", "other"] ["files"] (defScope s_are_files) := ⟨rfl, rfl, rfl, by decide +kernel, rfl, by decide +kernel, by decide +kernel⟩
theorem cal_are_files (T : Tx K mg) : Cal P w K mg base 4 "_are_files" (spAreFiles K) := by
  refine T.cal 8 8 (f_at (x := "_are_files") rfl) (g_at rfl) (N := ["files", "paths", "path", "_", "lines", "other"]) (ps := ["files"]) (fun _ _ _ _ _ _ us hl => match us, hl with | [_], _ => rfl) sc_are_files (fun vs H Q E h => ?_) (fun f cdv A outer s H vs Q E hr h => ?_)
  · obtain ⟨a, xs, fs, F, rfl, _⟩ := h
    rfl
  · obtain ⟨a, xs, fs, F, rfl, hS, hd, o, g, k⟩ := h
    have hu := hu_of hr
    have hlen := o.len g
    have hxl : xs.length = fs.length := by rw [hd.length, List.length_map]
    refine ⟨_, pss_cons (ps_setLc (i := 1) (y := "paths") (own := [("path", 2), ("_", 3)]) (g := gTup _ 2 (gCons (gName 2) (gCons (gName 3) (gNil)))) (tt := tYes) rfl sc_are_files.nd rfl rfl (sw_true rfl rfl rfl (by decide +kernel)) (pi_seq (pv 0)) (blkOk_by (own := [("path", 2), ("_", 3)]) (N := ["files", "paths", "path", "_", "lines", "other"]) (sc := defScope s_are_files) (by decide +kernel)) (fun _ _ _ _ _ => pg_tup rfl (pgs_cons (pg_name (i := 2) sc_are_files.nd rfl (by first | exact Or.inl rfl | exact Or.inr rfl)) (pgs_cons (pg_name (i := 3) sc_are_files.nd rfl (by first | exact Or.inl rfl | exact Or.inr rfl)) (pgs_nil)))) (fun _ _ _ _ _ => pts_nil) (fun _ _ _ _ _ => pv 2)) (pss_cons (ps_if (PW.pt (pw_or (pt_cmpR op_gt (pe_callB call_len_seq (by rfl) (T.free 85) bv_len (pa_cons (pv 1) pa_nil)) (pe_gc rfl (T.gint 66)) (nomark _)) (pw_or1 (pt_cmpR op_lt (pe_lenSetS rfl rfl (T.free 85) rfl (T.free 88) (pv 1)) (pe_callB call_len_seq (by rfl) (T.free 85) bv_len (pa_cons (pv 1) pa_nil)) (nomark _))))) (pss_one (ps_ret (pe_bl))) (pss_nil)) (pss_cons (ps_for PassesOwn.never rfl (pi_seq (pv 0)) (pg_tup rfl (pgs_cons (pg_name (i := 2) sc_are_files.nd rfl (by first | exact Or.inl rfl | exact Or.inr rfl)) (pgs_cons (pg_name (i := 4) sc_are_files.nd rfl (by first | exact Or.inl rfl | exact Or.inr rfl)) (pgs_nil)))) (pss_one (ps_if (PW.pt (pw_or (pt_not (pt_val (pe_c (cal_is_path T) hr (by decide) rfl (pa_cons (pv 2) pa_nil)))) (pw_or (pt_not (pt_val (pe_c (cal_is_lines T) hr (by decide) rfl (pa_cons (pv 4) pa_nil)))) (pw_or1 (pt_val (pe_callB (cr_any rfl) (by rfl) (T.free 87) bv_any (pa_cons (pe_lc (own := [("other", 5)]) (g := gName 5) (tt := tYes) rfl sc_are_files.nd (pi_list (pv 1)) (blkOk_by (own := [("other", 5)]) (N := ["files", "paths", "path", "_", "lines", "other"]) (sc := defScope s_are_files) (by decide +kernel)) (fun _ _ _ _ _ => pg_name (i := 5) sc_are_files.nd rfl (by first | exact Or.inl rfl | exact Or.inr rfl)) (fun _ _ _ _ _ => pts_nil) (fun _ _ _ _ _ => pe_c (cal_is_inside T) hr (by decide) rfl (pa_cons (pv 2) (pa_cons (pv 5) pa_nil)))) pa_nil))))))) (pss_one (ps_ret (pe_bl))) (pss_nil)))) (pss_one (ps_ret (pe_bl))))), ?_⟩
    -- paths = [path for path, _ in files]
    refine iSeq_var rfl hS fun J G W st D hD => lc_it W (fun i H' => Same H H' ∧ H' D = some (.lst (((fs.map Prod.fst).take i).map V.str))) ⟨same_new hD, upd_same⟩ (fun i H' _ q => st H' q.1) ?_ ?_
    · rintro i x H1 H2 hi ⟨s1, hl⟩ ⟨rfl, hx⟩
      obtain ⟨p, ls, t, y, h1, rfl, h2, h3⟩ := file_at hd hx
      refine ⟨t, _, rfl, file_st (ls := ls) s1 h2, rfl, _, _, rfl, _, _, rfl, rfl, rfl, t_yes ⟨_, rfl, _, hl, smallt (m := 10) ?_, same_mut s1 hD, ?_⟩⟩
      · rw [List.length_map, List.length_take, List.length_map]
        omega
      · rw [upd_same]
        have e : (fs.map Prod.fst)[i]? = some p := by rw [List.getElem?_map, h1]; rfl
        rw [List.take_succ, e, List.map_append]
        rfl
    rintro H1 ⟨s1, hl⟩
    rw [hxl, List.take_of_length_le (by rw [List.length_map]; exact Nat.le_refl _)] at hl
    have hL : SqL K H1 D ((fs.map Prod.fst).map V.str) := .inl (.inl hl)
    -- if len(paths) > FILES_MOST or len(set(paths)) < len(paths)
    refine ⟨_, rfl, D, _, rfl, .inl hL, _, _, rfl, rfl, _, rfl, iteN (by rw [List.length_map, List.length_map]; omega) ⟨_, rfl, D, _, rfl, hL, o.nd, by rw [List.length_map]; omega, _, rfl, D, _, rfl, .inl hL, _, _, rfl, rfl, _, rfl, iteN (by rw [List.length_map, List.length_map, List.length_map]; omega) ?_⟩⟩
    -- for path, lines in files
    have hS1 : SqA K H1 a xs := hS.elim (fun h => .inl (s1.seq h)) fun h => .inr (h.tx (tx_same s1))
    refine iSeq_var rfl hS1 fun J G W st => for_it W (fun i σ H' => ∃ v4 v5 v6 v7, σ = [some (.ref a), some (.ref D), v4, v5, v6, v7] ∧ Same H1 H') ⟨_, _, _, _, rfl, Same.refl H1⟩ (fun i σ H' _ ⟨_, _, _, _, _, q⟩ => st H' q) ?_ ?_
    · rintro i x σ H2 H3 hi ⟨v4, v5, v6, v7, rfl, s2⟩ ⟨rfl, hx⟩
      obtain ⟨p, ls, t, y, h1, rfl, h2, h3⟩ := file_at hd hx
      have hm : F p = some ls := (o.iff p ls).mpr (List.mem_of_getElem? h1)
      obtain ⟨gp, gl⟩ := g.one p ls hm
      refine ⟨t, _, rfl, file_st (ls := ls) (s1.trans s2) h2, rfl, _, _, rfl, _, _, rfl, rfl, ?_⟩
      refine ⟨_, rfl, p, rfl, gp, fun H4 s4 => ⟨_, rfl, iteEn rfl ⟨_, rfl, y, ls, rfl, h3.same ((s1.trans s2).trans s4), gl, fun H5 s5 => ⟨_, rfl, iteEn rfl ?_⟩⟩⟩⟩
      have hL5 : SqL K H5 D ((fs.map Prod.fst).map V.str) := .inl (.inl (s5 _ _ (s4 _ _ (s2 _ _ hl))))
      refine ⟨_, rfl, D, rfl, ⟨_, hL5⟩, fun D2 hD2 => lc_list (xs := (fs.map Prod.fst).map V.str) (fun i H' => Same H5 H' ∧ H' D2 = some (.lst (falses i))) ⟨same_new hD2, upd_same⟩ (fun i H' _ q => q.1.seq hL5) ?_ ?_⟩
      · rintro j z H6 hj ⟨s6, hl6⟩
        obtain ⟨q, hq, rfl⟩ := List.mem_map.mp (List.mem_of_getElem? hj)
        obtain ⟨⟨q', ms⟩, hq2, rfl⟩ := List.mem_map.mp hq
        have hjl : j < 10 := by
          have := (List.getElem?_eq_some_iff.mp hj).1
          rw [List.length_map, List.length_map] at this
          omega
        have hmq : F q' = some ms := (o.iff q' ms).mpr hq2
        have gq := (g.one q' ms hmq).1
        refine ⟨rfl, t_yes ⟨_, rfl, _, rfl, p, q', rfl, ?_, fun H7 s7 => ⟨_, s7 _ _ hl6, smallt (m := 10) (by rw [falses_len]; omega), same_mut (s6.trans s7) hD2, ?_⟩⟩⟩
        · have := (p10_ok q' gq).2.1
          omega
        · rw [upd_same, g.two p q' ls ms hm hmq, falses_succ]
      · rintro H6 ⟨s6, hl6⟩
        refine ⟨D2, List.replicate _ false, rfl, .inl (.inl hl6), ?_⟩
        rw [falses_any]
        exact ⟨_, rfl, iteEn rfl ⟨_, _, _, _, rfl, ((s2.trans s4).trans s5).trans s6⟩⟩
    · rintro σ H2 ⟨v4, v5, v6, v7, rfl, s2⟩
      exact k H2 (s1.trans s2)
end
end Sa
/-! text Kx -/
/-! The rules whose reading names the fragment, with the fragment given from outside (within comprehensions the context's own does not unify). -/
namespace Sa
open PySem PySem.Spec L2 PyProof.Rows
section
variable {X : Cx} {K : PySem.W.Frag}
def rTupleOf (K : PySem.W.Frag) (xs : List V) (H : Hp) (Q : VK) : Prop := ∃ p ys, xs = [.ref p] ∧ ((SqL K H p ys ∧ ∀ l, H l = none → Q (.ref l) (upd H l (.tup ys))) ∨ (SqT K H p ys ∧ Q (.ref p) H))
theorem call_tuple_ofK (K : PySem.W.Frag) (h : X.K = K) : CallR X (.type "tuple") (rTupleOf K) := h ▸ call_tuple_of
def rLenSeq (K : PySem.W.Frag) (xs : List V) (H : Hp) (Q : VK) : Prop := ∃ p ys, xs = [.ref p] ∧ (SqL K H p ys ∨ SqT K H p ys) ∧ Q (.int ys.length) H
theorem call_len_seqK (K : PySem.W.Frag) (h : X.K = K) : CallR X (.builtin "len") (rLenSeq K) := h ▸ call_len_seq
theorem ix_listK (K : PySem.W.Frag) (h : X.K = K) : IxR X (rIxL K) := h ▸ ix_list
theorem ix_tupK (K : PySem.W.Frag) (h : X.K = K) : IxR X (rIxT K) := h ▸ ix_tup
theorem op_in_seqK (K : PySem.W.Frag) (h : X.K = K) : OpR X (compareOp .In) (rIn K false) := h ▸ op_in_seq
theorem op_notIn_seqK (K : PySem.W.Frag) (h : X.K = K) : OpR X (compareOp .NotIn) (rIn K true) := h ▸ op_notIn_seq
theorem op_eqDK (K : PySem.W.Frag) (h : X.K = K) (hu : X.A.units + 64 < cLine) : OpR X (compareOp .Eq) (rEqD K) := h ▸ op_eqD hu
theorem op_neDK (K : PySem.W.Frag) (h : X.K = K) (hu : X.A.units + 64 < cLine) : OpR X (compareOp .NotEq) (rNeD K) := h ▸ op_neD hu
theorem op_inDK (K : PySem.W.Frag) (h : X.K = K) (hu : X.A.units + 65 < cLine) : OpR X (compareOp .In) (rInD K) := h ▸ op_inD hu
theorem op_notInDK (K : PySem.W.Frag) (h : X.K = K) (hu : X.A.units + 65 < cLine) : OpR X (compareOp .NotIn) (rNotInD K) := h ▸ op_notInD hu
theorem sl_listK (K : PySem.W.Frag) (h : X.K = K) : SlR X (rSlL K) := h ▸ sl_list
theorem sl_tupAK (K : PySem.W.Frag) (h : X.K = K) : SlR X (rSlA K) := h ▸ sl_tupA
variable {e : Expr} {f : Str} {pos : Pos} {ta : TE}
theorem pe_fldK (K : PySem.W.Frag) (h : X.K = K) (he : PE X e ta) (hb : attributeBase e f X.env (eval e X.env) = eval e X.env) : PE X (.Attribute e f pos) (tFld K ta f) := h ▸ pe_fld he hb
theorem u1 {k : Nat} {A : Around} (r : Room k A) : A.units + 1 < cLine := by have := r.un; omega
theorem u65 {k : Nat} {A : Around} (r : Room k A) : A.units + 65 < cLine := by have := r.un; omega
end
end Sa
/-! text D3 -/
/-! trees.py -/
namespace Sa
open PySem PySem.Spec L2 PyProof.Rows
section
variable {P : Program} {w : World} {K : PySem.W.Frag} {mg : Str → Option Value} {base : Heap}
theorem clT (T : Tx K mg) : Cls K (CT K) := T.cls 98 rfl
theorem nT_files (T : Tx K mg) : NoAttr K (CT K) "_files" := T.noat 100 rfl
/-- a dict comprehension over a walk: Pv by the turn and the heap -/
theorem dc_it {J : It} {n : Nat} {G : Hp → Prop} {Y : Nat → Hp → V → Hp → Prop} (w : Walk J n G Y) {g : TG} {tt : TT} {tk tv : TE} {vs : List Nat} {σ : L2.St} {H1 : Hp} {D : Addr} {Qd : Hp → Prop} (Pv : Nat → Hp → Prop)
    (h0 : Pv 0 (upd H1 D (.dK []))) (hG : ∀ i H, i ≤ n → Pv i H → G H)
    (hs : ∀ i x H H', i < n → Pv i H → Y i H x H' → g x (wipe σ vs) H' fun σ2 H2 => wipe σ2 vs = wipe σ vs ∧ tt σ2 H2 fun b H3 =>
      if b = true then tk σ2 H3 fun y H4 => tv σ2 H4 fun z H5 => ∃ kvs k, y = kV k ∧ H5 D = some (.dK kvs) ∧ kvs.length < sizeLine ∧ Pv (i + 1) (upd H5 D (.dK (putK kvs k z))) else Pv (i + 1) H3) (hd : ∀ H, Pv n H → Qd H) :
    ∃ W : Nat → Nat → Hp → Prop, (∃ m, W 0 m (upd H1 D (.dK []))) ∧ ∀ i m H, W i m H →
      (J.stop i H ∧ Qd H) ∨ (J.go i H ∧ ∃ Nx : Hp → Prop, (∀ H', Nx H' → ∃ m', m' < m ∧ W (i + 1) m' H') ∧ ∀ x H', J.yld i H x H' → g x (wipe σ vs) H' fun σ2 H2 => wipe σ2 vs = wipe σ vs ∧ tt σ2 H2 fun b H3 =>
        if b = true then tk σ2 H3 fun y H4 => tv σ2 H4 fun z H5 => ∃ kvs k, y = kV k ∧ H5 D = some (.dK kvs) ∧ kvs.length < sizeLine ∧ Nx (upd H5 D (.dK (putK kvs k z))) else Nx H3) := by
  refine ⟨fun i m H => m + i = n ∧ Pv i H, ⟨n, by omega, h0⟩, fun i m H hw => ?_⟩
  obtain ⟨e, p⟩ := hw
  have q := hG i H (by omega) p
  by_cases hlt : i < n
  · exact .inr ⟨w.goes i H hlt q, Pv (i + 1), fun H' p' => ⟨m - 1, by omega, by omega, p'⟩, fun x H' y => hs i x H H' hlt p (w.yields i H x H' hlt q y)⟩
  · obtain rfl : i = n := by omega
    exact .inl ⟨w.stops H q, hd H p⟩
/-- pairs and files, one by one -/
abbrev DPs (K : PySem.W.Frag) (H : Hp) : List (Key × V) → List (Str × List Str) → Prop := Paired fun kv f => kv.1 = Sum.inr f.1 ∧ Dt K H kv.2 (dL f.2)
theorem DPs.tx {H H' : Hp} (t : TX H H') : ∀ {kvs : List (Key × V)} {fs : List (Str × List Str)}, DPs K H kvs fs → DPs K H' kvs fs
  | _, _, .nil => .nil
  | _, _, .cons h r => .cons ⟨h.1, h.2.tx t⟩ (DPs.tx t r)
theorem DPs.snoc {H : Hp} {k : Key × V} {f : Str × List Str} (h : k.1 = Sum.inr f.1 ∧ Dt K H k.2 (dL f.2)) : ∀ {kvs : List (Key × V)} {fs : List (Str × List Str)}, DPs K H kvs fs → DPs K H (kvs ++ [k]) (fs ++ [f])
  | _, _, .nil => .cons h .nil
  | _, _, .cons a r => .cons a (DPs.snoc h r)
theorem DPs.keys {H : Hp} : ∀ {kvs : List (Key × V)} {fs : List (Str × List Str)}, DPs K H kvs fs → kvs.map (·.1) = (fs.map Prod.fst).map Sum.inr
  | _, _, .nil => rfl
  | _, _, .cons a r => by
    rw [List.map_cons, List.map_cons, List.map_cons, a.1, DPs.keys r]
theorem DPs.mem {H : Hp} {k : Key} {v : V} : ∀ {kvs : List (Key × V)} {fs : List (Str × List Str)}, DPs K H kvs fs → (k, v) ∈ kvs → ∃ f ∈ fs, k = Sum.inr f.1 ∧ Dt K H v (dL f.2)
  | _, _, .nil, h => absurd h (by simp)
  | _, _, .cons a r, h => by
    rcases List.mem_cons.mp h with e | h
    · cases e
      exact ⟨_, List.mem_cons_self, a⟩
    · obtain ⟨f, hf, e⟩ := DPs.mem r h
      exact ⟨f, List.mem_cons_of_mem _ hf, e⟩
theorem DPs.mem2 {H : Hp} {f : Str × List Str} : ∀ {kvs : List (Key × V)} {fs : List (Str × List Str)}, DPs K H kvs fs → f ∈ fs → ∃ v, (Sum.inr f.1, v) ∈ kvs
  | _, _, .nil, h => absurd h (by simp)
  | _, _, .cons (a := kv) a r, h => by
    rcases List.mem_cons.mp h with e | h
    · cases e
      refine ⟨kv.2, ?_⟩
      rw [← a.1]
      exact List.mem_cons_self
    · obtain ⟨v, e⟩ := DPs.mem2 r h
      exact ⟨v, List.mem_cons_of_mem _ e⟩
theorem DPs.df {H : Hp} {kvs : List (Key × V)} {fs : List (Str × List Str)} {F : Files} (d : DPs K H kvs fs) (o : FsOf fs F) : DF K H kvs F := by
  refine ⟨?_, fun k v h => ?_, fun p ls h => ?_⟩
  · rw [d.keys]
    exact List.pairwise_map.mpr (o.nd.imp fun h e => h (Sum.inr.inj e))
  · obtain ⟨f, hf, e1, e2⟩ := d.mem h
    exact ⟨f.1, f.2, e1, (o.iff _ _).mpr hf, e2⟩
  · exact d.mem2 ((o.iff p ls).mp h)
theorem DPs.none {H : Hp} {kvs : List (Key × V)} {fs : List (Str × List Str)} {p : Str} (d : DPs K H kvs fs) (h : p ∉ fs.map Prod.fst) : valV kvs (Sum.inr p) = Option.none := by
  cases q : valV kvs (Sum.inr p) with
  | none => rfl
  | some v =>
    obtain ⟨f, hf, e1, _⟩ := d.mem (mem_of_valV q)
    cases e1
    exact absurd (List.mem_map.mpr ⟨f, hf, rfl⟩) h
/-- Tree(files): at p -/
def spTreeInit (K : PySem.W.Frag) : Sp := fun vs H Q _ => ∃ (p dx a : Addr) (xs : List V) (fs : List (Str × List Str)) (F : Files), vs = [.ref p, .ref a] ∧ H p = some (.ins (CT K) dx []) ∧ SqA K H a xs ∧ DtAll K H xs (fs.map dFile) ∧ FsOf fs F ∧ GoodF F ∧
  ∀ H' d kvs, H d = none → (∀ b o, H b = some o → b ≠ p → H' b = some o) → H' p = some (.ins (CT K) dx [("_files", .ref d)]) → H' d = some (.dK kvs) → DF K H' kvs F → Q .non H'
theorem sc_Tree_init : FnScope ["self", "files", "path", "lines"] ["self", "files"] (defScope m_Tree_init) := ⟨rfl, rfl, rfl, by decide +kernel, rfl, by decide +kernel, by decide +kernel⟩
theorem mak_Tree (T : Tx K mg) : Mak P w K mg base 5 "Tree" (CT K) (spTreeInit K) := by
  have hI : ∃ (fd : FuncData) (d : Addr), FunD K "__init__" "Tree.__init__" (defArgs m_Tree_init) (defBody m_Tree_init) (defScope m_Tree_init) [.ref d] [] (He.fAd K ("Tree", some "__init__")) fd := T.funD 9 rfl
  obtain ⟨fd, d0, F0⟩ := hI
  have b : Binds K fd ["self", "files"] [] := by
    obtain ⟨ds, hv, hb⟩ := FunD.binds1 (ps := ["self", "files"]) F0 2 1 (by simp) rfl fun T kV doc pm an cdv ct us its hl hi => match us, hl, its, hi with | [_, _], _, [_], _ => ⟨_, rfl, rfl⟩
    cases hv
    exact hb
  refine ⟨_, fd, ["self", "files"], T.mkr 99 rfl, ?_, T.glo 55 rfl, b⟩
  refine F0.ok (CX := CX0) sc_Tree_init (fun vs H Q E h => ?_) (fun cdv A outer s H vs Q E hr h => ?_)
  · obtain ⟨p, dx, a, xs, fs, F, rfl, _⟩ := h
    rfl
  · obtain ⟨p, dx, a, xs, fs, F, rfl, hp, hS, hd, o, g, k⟩ := h
    have hlen := o.len g
    have hxl : xs.length = fs.length := by rw [hd.length, List.length_map]
    refine ⟨_, PSs.nox (pss_cons (ps_if (pt_not (pt_val (pe_c (cal_are_files T) hr (by decide) rfl (pa_cons (pv 1) pa_nil)))) (pss_one (ps_never)) (pss_nil)) (pss_one (ps_fld (pv 0) (pe_dc (own := [("path", 2), ("lines", 3)]) (g := gTup _ 2 (gCons (gName 2) (gCons (gName 3) (gNil)))) (tt := tYes) rfl sc_Tree_init.nd (pi_seq (pv 1)) (blkOk_by (own := [("path", 2), ("lines", 3)]) (N := ["self", "files", "path", "lines"]) (sc := defScope m_Tree_init) (by decide +kernel)) (fun _ _ _ _ _ => pg_tup rfl (pgs_cons (pg_name (i := 2) sc_Tree_init.nd rfl (by first | exact Or.inl rfl | exact Or.inr rfl)) (pgs_cons (pg_name (i := 3) sc_Tree_init.nd rfl (by first | exact Or.inl rfl | exact Or.inr rfl)) (pgs_nil)))) (fun _ _ _ _ _ => pts_nil) (fun _ _ _ _ _ => pv 2) (fun _ _ _ _ _ => pe_callTy (call_tuple_ofK K rfl) (by rfl) (T.free 89) bv_tuple (pa_cons (pv 3) pa_nil))) rfl))), ?_⟩
    refine ⟨_, rfl, a, xs, fs, F, rfl, hS, hd, o, g, fun H1 s1 => ⟨_, rfl, iteEn rfl ?_⟩⟩
    have hS1 : SqA K H1 a xs := hS.elim (fun h => .inl (s1.seq h)) fun h => .inr (h.tx (tx_same s1))
    refine iSeq_var rfl hS1 fun J G W st D hD => dc_it W (fun i H' => Same H1 H' ∧ ∃ kvs, H' D = some (.dK kvs) ∧ DPs K H' kvs (fs.take i)) ⟨same_new hD, [], upd_same, .nil⟩ (fun i H' _ q => st H' q.1) ?_ ?_
    · rintro i x H2 H3 hi ⟨s2, kvs, hl, hk⟩ ⟨rfl, hx⟩
      obtain ⟨q, ls, t, y, h1, rfl, h2, h3⟩ := file_at hd hx
      obtain ⟨u, rfl, h5⟩ := Dt.linesI h3
      have hn : q ∉ (fs.take i).map Prod.fst := fun z => by
        obtain ⟨f, hf, e⟩ := List.mem_map.mp z
        obtain ⟨j, hj, ej⟩ := List.mem_take_iff_getElem.mp hf
        have hi' : i < fs.length := by omega
        have e2 : fs[i] = (q, ls) := (List.getElem?_eq_some_iff.mp h1).2
        have nd := List.pairwise_iff_getElem.mp o.nd j i (by rw [List.length_map]; omega) (by rw [List.length_map]; omega) (by omega)
        rw [List.getElem_map, List.getElem_map, e2, ej] at nd
        exact nd e
      refine ⟨t, _, rfl, file_st (ls := ls) (s1.trans s2) h2, rfl, _, _, rfl, _, _, rfl, rfl, rfl, t_yes ⟨_, rfl, _, rfl, u, _, rfl, .inr ⟨(h5.tx (tx_same (s1.trans s2))).sq, kvs, Sum.inr q, rfl, hl, ?_, same_mut s2 hD, _, upd_same, ?_⟩⟩⟩
      · have := congrArg List.length hk.keys
        rw [List.length_map, List.length_map, List.length_map, List.length_take] at this
        exact smallt (m := 10) (by omega)
      · rw [putK_new _ (hk.none hn), List.take_succ, h1]
        have tx : TX H3 (upd H3 D (.dK (kvs ++ [(Sum.inr q, V.ref u)]))) := tx_upd (by rw [hl]; rfl)
        exact DPs.snoc ⟨rfl, (h3.same (s1.trans s2)).tx tx⟩ (hk.tx tx)
    · rintro H2 ⟨s2, kvs, hl, hk⟩
      rw [hxl, List.take_length] at hk
      have hp2 : H2 p = some (.ins (CT K) dx []) := s2 _ _ (s1 _ _ hp)
      have hne : D ≠ p := ne_of hl hp2 (by intro z; cases z)
      refine ⟨_, rfl, p, CT K, dx, [], rfl, hp2, clT T, nT_files T, (by decide), ?_⟩
      refine k _ D kvs (s1.free hD) (fun b o e hb => ?_) upd_same (by rw [upd_ne hne]; exact hl) ((hk.df o).tx (tx_upd (by rw [hp2]; rfl)))
      rw [upd_ne hb]
      exact s2 _ _ (s1 _ _ e)
end
end Sa
/-! text D4 -/
/-! trees.py, what is read -/
namespace Sa
open PySem PySem.Spec L2 PyProof.Rows
theorem take_filter {α : Type} {xs : List α} {i : Nat} {p : α} (f : α → Bool) (h : xs[i]? = some p) : (xs.take (i + 1)).filter f = (xs.take i).filter f ++ (if f p = true then [p] else []) := by
  rw [List.take_succ, h, List.filter_append]
  rw [show (some p).toList = [p] from rfl, List.filter_cons, List.filter_nil]
theorem take_map {α β : Type} {xs : List α} {i : Nat} {p : α} (f : α → β) (h : xs[i]? = some p) : (xs.take (i + 1)).map f = (xs.take i).map f ++ [f p] := by
  rw [List.take_succ, h, List.map_append]
  rfl
theorem filter_le {α : Type} {xs : List α} {f : α → Bool} {i n : Nat} (h : xs.length ≤ n) : ((xs.take i).filter f).length ≤ n := by
  refine Nat.le_trans (List.length_filter_le _ _) ?_
  rw [List.length_take]
  omega
section
variable {P : Program} {w : World} {K : PySem.W.Frag} {mg : Str → Option Value} {base : Heap}
theorem DF.sorted {H : Hp} {kvs : List (Key × V)} {F : Files} (d : DF K H kvs F) (g : GoodF F) : ∃ ks : List Str, kvs.map (·.1) = ks.map Sum.inr ∧ ks.length < 64 ∧ ∀ ys, ys.Perm ks → sortedS ys = true → ys = keys F := by
  obtain ⟨ks, e, nd, hm⟩ := d.keysEx
  refine ⟨ks, e, ?_, fun ys hp so => keys_canon g hp so nd hm⟩
  have := congrArg List.length e
  rw [List.length_map, List.length_map] at this
  have := d.len g
  omega
def spFiles (K : PySem.W.Frag) : Sp := fun vs H Q _ => ∃ (v : V) (D : List Addr) (F : Files), vs = [v] ∧ TrAt K (CT K) D H v F ∧ GoodF F ∧ ∀ H' a xs, Same H H' → H' a = some (.tup xs) → DtAll K H' xs ((keys F).map (dFl F)) → Q (.ref a) H'
theorem sc_Tree_files : FnScope ["self", "path"] ["self"] (defScope m_Tree_files) := ⟨rfl, rfl, rfl, by decide +kernel, rfl, by decide +kernel, by decide +kernel⟩
theorem met_Tree_files (T : Tx K mg) : Met P w K mg base 1 (CT K) "files" (spFiles K) := by
  refine T.met 10 124 98 rfl rfl rfl (N := ["self", "path"]) (ps := ["self"]) (fun _ _ _ _ _ _ us hl => match us, hl with | [_], _ => rfl) sc_Tree_files (fun vs H Q E h => ?_) (fun f cdv A outer s H vs Q E hr h => ?_)
  · obtain ⟨v, D, F, rfl, _⟩ := h
    rfl
  · obtain ⟨v, D, F, rfl, ⟨a, dx, d, kvs, rfl, h1, h2, n, f⟩, g, k⟩ := h
    obtain ⟨ks, e1, e2, e3⟩ := f.sorted g
    refine ⟨_, pss_one (ps_ret (pe_callTy call_tuple_of (by rfl) (T.free 89) bv_tuple (pa_cons (pe_lc (own := [("path", 1)]) (g := gName 1) (tt := tYes) rfl sc_Tree_files.nd (pi_list (pe_callB (call_sortedD rfl) (by rfl) (T.free 90) bv_sorted (pa_cons (pe_fld (pv 0) rfl) pa_nil))) (blkOk_by (own := [("path", 1)]) (N := ["self", "path"]) (sc := defScope m_Tree_files) (by decide +kernel)) (fun _ _ _ _ _ => pg_name (i := 1) sc_Tree_files.nd rfl (by first | exact Or.inl rfl | exact Or.inr rfl)) (fun _ _ _ _ _ => pts_nil) (fun _ _ _ _ _ => pe_tup (pa_cons (pv 1) (pa_cons (pe_dget (u1 hr) (pe_fldK K rfl (pv 0) rfl) (pv 1) (fun _ _ => rfl)) pa_nil)))) pa_nil))), ?_⟩
    refine ⟨_, rfl, a, CT K, dx, _, _, rfl, h1, clT T, nT_files T, rfl, d, kvs, ks, rfl, .inl h2, e1, e2, fun ys p hp so hq' => ?_⟩
    cases e3 ys hp so
    have hl0 := keys_len F
    refine ⟨_, rfl, ⟨_, .inl (.inl upd_same)⟩, fun B hB => lc_list (xs := (keys F).map V.str) (fun i H' => Same (upd H p (.lst ((keys F).map V.str))) H' ∧ ∃ xs, H' B = some (.lst xs) ∧ DtAll K H' xs (((keys F).take i).map (dFl F))) ⟨same_new hB, [], upd_same, .nil⟩ (fun i H' _ q => .inl (.inl (q.1 _ _ upd_same))) ?_ ?_⟩
    · rintro i y H1 hi ⟨s1, xs, hl, hd⟩
      rw [List.getElem?_map] at hi
      obtain ⟨q, hq, rfl⟩ := Option.map_eq_some_iff.mp hi
      obtain ⟨ls, hF⟩ := keys_get (List.mem_of_getElem? hq)
      have sH : Same H H1 := (same_new hq').trans s1
      obtain ⟨z, ls', hF', hv, hz⟩ : ∃ v ls, F q = some ls ∧ valV kvs (Sum.inr q) = some v ∧ Dt K H v (dL ls) := by
        rcases f.look q with ⟨e, _⟩ | h
        · rw [hF] at e
          cases e
        · exact h
      have e2 : dFl F q = .tuple [.str q, dL ls'] := by
        unfold dFl
        rw [hF']
        rfl
      refine ⟨rfl, t_yes ⟨_, rfl, _, rfl, a, CT K, dx, _, _, rfl, sH _ _ h1, clT T, nT_files T, rfl, _, rfl, d, z, rfl, .inl ⟨kvs, Sum.inr q, .inl (sH _ _ h2), rfl, hv.symm⟩, small (m := 2) (Nat.le_refl 2), fun t ht => ?_⟩⟩
      refine ⟨xs, ?_, ?_, ?_, _, upd_same, ?_⟩
      · rw [upd_ne (ne_of_none hl ht)]
        exact hl
      · refine smallt (m := 20) ?_
        rw [hd.length, List.length_map, List.length_take]
        omega
      · exact same_mut (s1.trans (same_new ht)) hB
      · rw [take_map _ hq, e2]
        have s2 : Same H1 (upd H1 t (.tup [.str q, z])) := same_new ht
        have t2 : TX (upd H1 t (.tup [.str q, z])) (upd (upd H1 t (.tup [.str q, z])) B (.lst (xs ++ [.ref t]))) := tx_upd (by rw [upd_ne (ne_of_none hl ht), hl]; rfl)
        refine DtAll.snoc ((hd.same s2).tx t2) ?_
        exact (Dt.two upd_same (.str q) ((hz.same sH).same s2)).tx t2
    · rintro H1 ⟨s1, xs, hl, hd⟩
      have hk : (keys F).take (keys F).length = keys F := List.take_length
      rw [List.length_map, hk] at hd
      refine ⟨B, xs, rfl, .inl ⟨.inl (.inl hl), fun l hl' => ?_⟩⟩
      have s2 : Same H1 (upd H1 l (.tup xs)) := same_new hl'
      exact k _ l xs (((same_new hq').trans s1).trans s2) upd_same (hd.same s2)
def spLines (K : PySem.W.Frag) : Sp := fun vs H Q _ => ∃ (v : V) (D : List Addr) (F : Files) (p : Str), vs = [v, .str p] ∧ TrAt K (CT K) D H v F ∧ (F p = none → Q .non H) ∧ ∀ ls x, F p = some ls → Dt K H x (dL ls) → Q x H
theorem sc_Tree_lines : FnScope ["self", "path"] ["self", "path"] (defScope m_Tree_lines) := ⟨rfl, rfl, rfl, by decide +kernel, rfl, by decide +kernel, by decide +kernel⟩
theorem met_Tree_lines (T : Tx K mg) : Met P w K mg base 1 (CT K) "lines" (spLines K) := by
  refine T.met 11 125 98 rfl rfl rfl (N := ["self", "path"]) (ps := ["self", "path"]) (fun _ _ _ _ _ _ us hl => match us, hl with | [_, _], _ => rfl) sc_Tree_lines (fun vs H Q E h => ?_) (fun f cdv A outer s H vs Q E hr h => ?_)
  · obtain ⟨v, D, F, p, rfl, _⟩ := h
    rfl
  · obtain ⟨v, D, F, p, rfl, ⟨a, dx, d, kvs, rfl, h1, h2, n, f⟩, k1, k2⟩ := h
    refine ⟨_, pss_one (ps_ret (pe_dget1 (u1 hr) (pe_fld (pv 0) rfl) (pv 1) ⟨rfl, rfl, rfl, rfl⟩)), ?_⟩
    refine ⟨_, rfl, a, CT K, dx, _, _, rfl, h1, clT T, nT_files T, rfl, d, rfl, .inl ⟨kvs, .inl h2⟩, _, rfl, _, .inl ⟨kvs, Sum.inr p, .inl h2, rfl, rfl⟩, ?_⟩
    rcases f.look p with ⟨e, h⟩ | ⟨x, ls, e, h, hx⟩
    · rw [h]
      exact k1 e
    · rw [h]
      exact k2 ls x e hx
def spPaths (K : PySem.W.Frag) : Sp := fun vs H Q _ => ∃ (v : V) (D : List Addr) (F : Files) (q : Str), vs = [v, .str q] ∧ TrAt K (CT K) D H v F ∧ GoodF F ∧ q.length ≤ 100 ∧ ∀ H' a, Same H H' → H' a = some (.tup ((inside F q).map .str)) → Q (.ref a) H'
theorem sc_Tree_paths : FnScope ["self", "place", "path"] ["self", "place"] (defScope m_Tree_paths) := ⟨rfl, rfl, rfl, by decide +kernel, rfl, by decide +kernel, by decide +kernel⟩
theorem met_Tree_paths (T : Tx K mg) : Met P w K mg base 2 (CT K) "paths" (spPaths K) := by
  refine T.met 12 126 98 rfl rfl rfl (N := ["self", "place", "path"]) (ps := ["self", "place"]) (fun _ _ _ _ _ _ us hl => match us, hl with | [_, _], _ => rfl) sc_Tree_paths (fun vs H Q E h => ?_) (fun f cdv A outer s H vs Q E hr h => ?_)
  · obtain ⟨v, D, F, q, rfl, _⟩ := h
    rfl
  · obtain ⟨v, D, F, q, rfl, ⟨a, dx, d, kvs, rfl, h1, h2, n, f⟩, g, hq, k⟩ := h
    obtain ⟨ks, e1, e2, e3⟩ := f.sorted g
    have hl0 := keys_len F
    refine ⟨_, pss_one (ps_ret (pe_callTy call_tuple_of (by rfl) (T.free 89) bv_tuple (pa_cons (pe_lc (own := [("path", 2)]) (g := gName 2) rfl sc_Tree_paths.nd (pi_list (pe_callB (call_sortedD rfl) (by rfl) (T.free 90) bv_sorted (pa_cons (pe_fld (pv 0) rfl) pa_nil))) (blkOk_by (own := [("path", 2)]) (N := ["self", "place", "path"]) (sc := defScope m_Tree_paths) (by decide +kernel)) (fun _ _ _ _ _ => pg_name (i := 2) sc_Tree_paths.nd rfl (by first | exact Or.inl rfl | exact Or.inr rfl)) (fun _ _ _ _ _ => pts_one (pt_val (pe_c (cal_is_inside T) hr (by decide) rfl (pa_cons (pv 2) (pa_cons (pv 1) pa_nil))))) (fun _ _ _ _ _ => pv 2)) pa_nil))), ?_⟩
    refine ⟨_, rfl, a, CT K, dx, _, _, rfl, h1, clT T, nT_files T, rfl, d, kvs, ks, rfl, .inl h2, e1, e2, fun ys p hp so hq' => ?_⟩
    cases e3 ys hp so
    refine ⟨_, rfl, ⟨_, .inl (.inl upd_same)⟩, fun B hB => lc_list (xs := (keys F).map V.str) (fun i H' => Same (upd H p (.lst ((keys F).map V.str))) H' ∧ H' B = some (.lst ((((keys F).take i).filter fun p => isInB p q).map V.str))) ⟨same_new hB, upd_same⟩ (fun i H' _ q => .inl (.inl (q.1 _ _ upd_same))) ?_ ?_⟩
    · rintro i y H1 hi ⟨s1, hl⟩
      rw [List.getElem?_map] at hi
      obtain ⟨z, hz, rfl⟩ := Option.map_eq_some_iff.mp hi
      refine ⟨rfl, _, rfl, _, rfl, z, q, rfl, hq, fun H2 s2 => ?_⟩
      have tf := take_filter (fun p => isInB p q) hz
      cases e : isInB z q with
      | true =>
        rw [e] at tf
        refine ⟨_, rfl, iteE rfl ⟨_, rfl, _, s2 _ _ hl, smallt (m := 20) ?_, same_mut (s1.trans s2) hB, ?_⟩⟩
        · rw [List.length_map]
          exact Nat.le_trans (filter_le hl0) (by decide)
        · rw [upd_same, tf, List.map_append]
          rfl
      | false =>
        rw [e] at tf
        refine ⟨_, rfl, iteEn rfl ⟨s1.trans s2, ?_⟩⟩
        rw [tf]
        exact (s2 _ _ hl).trans (by rw [if_neg (by decide), List.append_nil])
    · rintro H1 ⟨s1, hl⟩
      have hk : (keys F).take (keys F).length = keys F := List.take_length
      rw [List.length_map, hk] at hl
      refine ⟨B, _, rfl, .inl ⟨.inl (.inl hl), fun l hl' => ?_⟩⟩
      exact k _ l (((same_new hq').trans s1).trans (same_new hl')) upd_same
def spAbove (K : PySem.W.Frag) : Sp := fun vs H Q _ => ∃ (v : V) (D : List Addr) (F : Files) (q : Str), vs = [v, .str q] ∧ TrAt K (CT K) D H v F ∧ GoodF F ∧ ∀ H' a, Same H H' → H' a = some (.tup ((above F q).map .str)) → Q (.ref a) H'
theorem sc_Tree_above : FnScope ["self", "path", "other"] ["self", "path"] (defScope m_Tree_above) := ⟨rfl, rfl, rfl, by decide +kernel, rfl, by decide +kernel, by decide +kernel⟩
theorem met_Tree_above (T : Tx K mg) : Met P w K mg base 2 (CT K) "above" (spAbove K) := by
  refine T.met 13 127 98 rfl rfl rfl (N := ["self", "path", "other"]) (ps := ["self", "path"]) (fun _ _ _ _ _ _ us hl => match us, hl with | [_, _], _ => rfl) sc_Tree_above (fun vs H Q E h => ?_) (fun f cdv A outer s H vs Q E hr h => ?_)
  · obtain ⟨v, D, F, q, rfl, _⟩ := h
    rfl
  · obtain ⟨v, D, F, q, rfl, ⟨a, dx, d, kvs, rfl, h1, h2, n, f⟩, g, k⟩ := h
    obtain ⟨ks, e1, e2, e3⟩ := f.sorted g
    have hl0 := keys_len F
    refine ⟨_, pss_one (ps_ret (pe_callTy call_tuple_of (by rfl) (T.free 89) bv_tuple (pa_cons (pe_lc (own := [("other", 2)]) (g := gName 2) rfl sc_Tree_above.nd (pi_list (pe_callB (call_sortedD rfl) (by rfl) (T.free 90) bv_sorted (pa_cons (pe_fld (pv 0) rfl) pa_nil))) (blkOk_by (own := [("other", 2)]) (N := ["self", "path", "other"]) (sc := defScope m_Tree_above) (by decide +kernel)) (fun _ _ _ _ _ => pg_name (i := 2) sc_Tree_above.nd rfl (by first | exact Or.inl rfl | exact Or.inr rfl)) (fun _ _ _ _ _ => pts_one (pt_val (pe_c (cal_is_inside T) hr (by decide) rfl (pa_cons (pv 1) (pa_cons (pv 2) pa_nil))))) (fun _ _ _ _ _ => pv 2)) pa_nil))), ?_⟩
    refine ⟨_, rfl, a, CT K, dx, _, _, rfl, h1, clT T, nT_files T, rfl, d, kvs, ks, rfl, .inl h2, e1, e2, fun ys p hp so hq' => ?_⟩
    cases e3 ys hp so
    refine ⟨_, rfl, ⟨_, .inl (.inl upd_same)⟩, fun B hB => lc_list (xs := (keys F).map V.str) (fun i H' => Same (upd H p (.lst ((keys F).map V.str))) H' ∧ H' B = some (.lst ((((keys F).take i).filter fun o => isInB q o).map V.str))) ⟨same_new hB, upd_same⟩ (fun i H' _ q => .inl (.inl (q.1 _ _ upd_same))) ?_ ?_⟩
    · rintro i y H1 hi ⟨s1, hl⟩
      rw [List.getElem?_map] at hi
      obtain ⟨z, hz, rfl⟩ := Option.map_eq_some_iff.mp hi
      have hz10 := (p10_ok z (keys_p10 (List.mem_of_getElem? hz))).2.1
      refine ⟨rfl, _, rfl, _, rfl, q, z, rfl, by omega, fun H2 s2 => ?_⟩
      have tf := take_filter (fun o => isInB q o) hz
      cases e : isInB q z with
      | true =>
        rw [e] at tf
        refine ⟨_, rfl, iteE rfl ⟨_, rfl, _, s2 _ _ hl, smallt (m := 20) ?_, same_mut (s1.trans s2) hB, ?_⟩⟩
        · rw [List.length_map]
          exact Nat.le_trans (filter_le hl0) (by decide)
        · rw [upd_same, tf, List.map_append]
          rfl
      | false =>
        rw [e] at tf
        refine ⟨_, rfl, iteEn rfl ⟨s1.trans s2, ?_⟩⟩
        rw [tf]
        exact (s2 _ _ hl).trans (by rw [if_neg (by decide), List.append_nil])
    · rintro H1 ⟨s1, hl⟩
      have hk : (keys F).take (keys F).length = keys F := List.take_length
      rw [List.length_map, hk] at hl
      refine ⟨B, _, rfl, .inl ⟨.inl (.inl hl), fun l hl' => ?_⟩⟩
      exact k _ l (((same_new hq').trans s1).trans (same_new hl')) upd_same
def spIsFolder (K : PySem.W.Frag) : Sp := fun vs H Q _ => ∃ (v : V) (D : List Addr) (F : Files) (q : Str), vs = [v, .str q] ∧ TrAt K (CT K) D H v F ∧ GoodF F ∧ q.length ≤ 100 ∧ ∀ H', Same H H' → Q (.bl (folderB F q)) H'
theorem sc_Tree_is_folder : FnScope ["self", "place"] ["self", "place"] (defScope m_Tree_is_folder) := ⟨rfl, rfl, rfl, by decide +kernel, rfl, by decide +kernel, by decide +kernel⟩
theorem met_Tree_is_folder (T : Tx K mg) : Met P w K mg base 3 (CT K) "is_folder" (spIsFolder K) := by
  refine T.met 14 128 98 rfl rfl rfl (N := ["self", "place"]) (ps := ["self", "place"]) (fun _ _ _ _ _ _ us hl => match us, hl with | [_, _], _ => rfl) sc_Tree_is_folder (fun vs H Q E h => ?_) (fun f cdv A outer s H vs Q E hr h => ?_)
  · obtain ⟨v, D, F, q, rfl, _⟩ := h
    rfl
  · obtain ⟨v, D, F, q, rfl, tr, g, hq, k⟩ := h
    obtain ⟨a, dx, d, kvs, ev, h1, h2, n, f⟩ := id tr
    refine ⟨_, pss_one (ps_ret (pe_or (pe_cmpR op_eq (pv 1) (pe_str) (nomark _)) (pe_one (pe_cmpR op_gt (pe_callB call_len_seq (by rfl) (T.free 85) bv_len (pa_cons (pe_mt (met_Tree_paths T) hr (by decide) (pv 0) (pa_cons (pv 1) pa_nil)) pa_nil)) (pe_int) (nomark _))))), ?_⟩
    refine ⟨_, rfl, rfl, _, rfl, ?_⟩
    by_cases e : q = ""
    · refine iteP (by rw [e]) ?_
      have q2 := k H (Same.refl H)
      unfold folderB at q2
      rw [decide_eq_true e, Bool.true_or] at q2
      exact q2
    · refine iteN (fun z => e (by cases z; rfl)) ?_
      refine ⟨_, rfl, a, dx, _, ev, h1, rfl, _, rfl, v, D, F, q, rfl, tr, g, hq, fun H1 b s1 hb => ?_⟩
      refine ⟨b, _, rfl, .inr (.inl (.inl hb)), _, _, rfl, rfl, ?_⟩
      have q2 := k H1 s1
      unfold folderB at q2
      rw [decide_eq_false e, Bool.false_or] at q2
      rw [List.length_map]
      have e3 : decide (((inside F q).length : Int) > 0) = decide (0 < (inside F q).length) := by
        by_cases h : 0 < (inside F q).length
        · rw [decide_eq_true h, decide_eq_true (by omega)]
        · rw [decide_eq_false h, decide_eq_false (by omega)]
      refine Eq.mp (congrArg (fun b => Q (.bl b) H1) e3.symm) q2
end
end Sa
/-! text D5 -/
/-! trees.py, what makes a new tree -/
namespace Sa
open PySem PySem.Spec L2 PyProof.Rows
def fileOf (F : Files) (q : Str) : Str × List Str := (q, (F q).getD [])
theorem dFl_file (F : Files) (q : Str) : dFl F q = dFile (fileOf F q) := rfl
theorem map_fst_file (F : Files) : ∀ ks : List Str, (ks.map (fileOf F)).map Prod.fst = ks
  | [] => rfl
  | k :: ks => by
    rw [List.map_cons, List.map_cons, map_fst_file F ks]
    rfl
theorem fs_all {F : Files} (g : GoodF F) : FsOf ((keys F).map (fileOf F)) F := by
  refine ⟨by rw [map_fst_file]; exact keys_nodup F, fun q ls => ?_⟩
  rw [List.mem_map]
  constructor
  · intro h
    refine ⟨q, goodF_key g h, ?_⟩
    unfold fileOf
    rw [h]
    rfl
  · rintro ⟨r, h, e⟩
    obtain ⟨ms, hm⟩ := keys_get h
    unfold fileOf at e
    rw [hm] at e
    cases e
    exact hm
theorem fs_del {F : Files} {p : Str} (g : GoodF F) : FsOf (((keys F).filter fun q => !decide (q = p)).map (fileOf F)) (del F p) := by
  refine ⟨by rw [map_fst_file]; exact (keys_nodup F).sublist List.filter_sublist, fun q ls => ?_⟩
  rw [List.mem_map]
  constructor
  · intro h
    by_cases e : q = p
    · rw [e, del_same] at h
      cases h
    · rw [del_ne e] at h
      refine ⟨q, List.mem_filter.mpr ⟨goodF_key g h, by rw [decide_eq_false e]; rfl⟩, ?_⟩
      unfold fileOf
      rw [h]
      rfl
  · rintro ⟨r, h, e⟩
    obtain ⟨h1, h2⟩ := List.mem_filter.mp h
    have ne : r ≠ p := fun z => by
      rw [decide_eq_true z] at h2
      cases h2
    obtain ⟨ms, hm⟩ := keys_get h1
    unfold fileOf at e
    rw [hm] at e
    cases e
    rw [del_ne ne]
    exact hm
theorem fs_put {F : Files} {p : Str} {ls : List Str} (g : GoodF F) : FsOf (((keys F).filter fun q => !decide (q = p)).map (fileOf F) ++ [(p, ls)]) (put F p ls) := by
  have d := fs_del (p := p) g
  refine ⟨?_, fun q ms => ?_⟩
  · rw [List.map_append, map_fst_file]
    refine List.nodup_append.mpr ⟨(keys_nodup F).sublist List.filter_sublist, by simp, fun a ha b hb => ?_⟩
    rw [List.map_cons, List.map_nil, List.mem_singleton] at hb
    rw [hb]
    intro z
    have := (List.mem_filter.mp ha).2
    rw [decide_eq_true z] at this
    cases this
  · rw [List.mem_append, List.mem_singleton, ← d.iff]
    by_cases e : q = p
    · rw [e, put_same, del_same]
      constructor
      · intro h
        cases h
        exact .inr rfl
      · rintro (h | h)
        · cases h
        · cases h
          rfl
    · rw [put_ne e, del_ne e]
      constructor
      · exact .inl
      · rintro (h | h)
        · exact h
        · cases h
          exact absurd rfl e
section
variable {P : Program} {w : World} {K : PySem.W.Frag} {mg : Str → Option Value} {base : Heap}
/-- a new tree from a list of files -/
theorem make_tree {H H1 : Hp} {D : List Addr} {a : Addr} {xs : List V} {fs : List (Str × List Str)} {G : Files} {Q : VK} {E : XK} (s1 : Same H H1) (ok : Dok D H) (hS : SqA K H1 a xs) (hd : DtAll K H1 xs (fs.map dFile)) (o : FsOf fs G) (g : GoodF G)
    (k : ∀ H' b, Same H H' → TrAt K (CT K) D H' (.ref b) G → Q (.ref b) H') (x dx : Addr) (hx : H1 x = none) (hdx : H1 dx = none) (hne : dx ≠ x) :
    spTreeInit K [.ref x, .ref a] (upd (upd H1 dx (.own x)) x (.ins (CT K) dx [])) (fun v H2 => v = .non ∧ Q (.ref x) H2) E := by
  have s2 : Same H1 (upd (upd H1 dx (.own x)) x (.ins (CT K) dx [])) := same_mut (same_new hdx) hx
  refine ⟨x, dx, a, xs, fs, G, rfl, upd_same, hS.elim (fun h => .inl (s2.seq h)) fun h => .inr (h.tx (tx_same s2)), hd.same s2, o, g, fun H' d kvs h0 h1 h2 h3 h4 => ⟨rfl, ?_⟩⟩
  have s3 : Same H H' := fun b u e => by
    have e2 := s1 b u e
    exact h1 b u (s2 b u e2) (ne_of_none e2 hx)
  refine k H' x s3 ⟨x, dx, d, kvs, rfl, h2, h3, fun z => ?_, h4⟩
  obtain ⟨o, e⟩ := ok d z
  rw [s2 d o (s1 d o e)] at h0
  cases h0
/-- item i of files: a path and lines -/
theorem fl_at {H : Hp} {xs : List V} {F : Files} {i : Nat} {x : V} (h : DtAll K H xs ((keys F).map (dFl F))) (e : xs[i]? = some x) :
    ∃ q t y, (keys F)[i]? = some q ∧ x = .ref t ∧ St1 K H t [.str q, y] := by
  obtain ⟨d, h1, h2⟩ := h.get e
  rw [List.getElem?_map] at h1
  obtain ⟨q, h3, rfl⟩ := Option.map_eq_some_iff.mp h1
  obtain ⟨t, a, y, rfl, h4, h5, h6⟩ := Dt.twoI h2
  rw [Dt.strI h5] at h4
  exact ⟨q, t, y, h3, rfl, h4⟩
theorem file_stt {H H' : Hp} {t : Addr} {xs : List V} (s : Same H H') (h : St1 K H t xs) : SqT K H' t xs := (h.tx (tx_same s)).sq
theorem dtAll_at {H : Hp} {xs : List V} {F : Files} {i : Nat} {x : V} {q : Str} (h : DtAll K H xs ((keys F).map (dFl F))) (e : xs[i]? = some x) (e2 : (keys F)[i]? = some q) : Dt K H x (dFl F q) := by
  obtain ⟨d, h1, h2⟩ := h.get e
  rw [List.getElem?_map, e2] at h1
  cases h1
  exact h2
def spWithout (K : PySem.W.Frag) : Sp := fun vs H Q _ => ∃ (v : V) (D : List Addr) (F : Files) (p : Str), vs = [v, .str p] ∧ TrAt K (CT K) D H v F ∧ GoodF F ∧ Dok D H ∧ ∀ H' b, Same H H' → TrAt K (CT K) D H' (.ref b) (del F p) → Q (.ref b) H'
theorem sc_Tree_without : FnScope ["self", "path", "file"] ["self", "path"] (defScope m_Tree_without) := ⟨rfl, rfl, rfl, by decide +kernel, rfl, by decide +kernel, by decide +kernel⟩
theorem met_Tree_without (T : Tx K mg) : Met P w K mg base 7 (CT K) "without" (spWithout K) := by
  refine T.met 16 130 98 rfl rfl rfl (N := ["self", "path", "file"]) (ps := ["self", "path"]) (fun _ _ _ _ _ _ us hl => match us, hl with | [_, _], _ => rfl) sc_Tree_without (fun vs H Q E h => ?_) (fun f cdv A outer s H vs Q E hr h => ?_)
  · obtain ⟨v, D, F, q, rfl, _⟩ := h
    rfl
  · obtain ⟨v, D, F, p, rfl, tr, g, ok, k⟩ := h
    obtain ⟨a, dx, d, kvs, ev, h1, h2, n, f⟩ := id tr
    have hl0 := keys_len F
    refine ⟨_, pss_one (ps_ret (pe_mk (mak_Tree T) hr (by decide) rfl (pa_cons (pe_lc (own := [("file", 2)]) (g := gName 2) rfl sc_Tree_without.nd (pi_tup (pe_mt0 (met_Tree_files T) hr (by decide) (pv 0))) (blkOk_by (own := [("file", 2)]) (N := ["self", "path", "file"]) (sc := defScope m_Tree_without) (by decide +kernel)) (fun _ _ _ _ _ => pg_name (i := 2) sc_Tree_without.nd rfl (by first | exact Or.inl rfl | exact Or.inr rfl)) (fun _ _ _ _ _ => pts_one (pt_cmpR op_ne (pe_ix (ix_tupK K rfl) (pv 2) (pe_int) (fun _ _ => rfl)) (pv 1) (nomark _))) (fun _ _ _ _ _ => pv 2)) pa_nil))), ?_⟩
    refine ⟨_, rfl, a, dx, _, ev, h1, rfl, v, D, F, rfl, tr, g, fun H1 t xs s1 ht hd => ?_⟩
    have hxl : xs.length = (keys F).length := by rw [hd.length, List.length_map]
    refine ⟨_, rfl, ⟨_, .inl (.inl ht)⟩, fun B hB => lc_tup (xs := xs) (fun i H' => Same H1 H' ∧ ∃ ys, H' B = some (.lst ys) ∧ DtAll K H' ys ((((keys F).take i).filter fun q => !decide (q = p)).map (dFl F))) ⟨same_new hB, [], upd_same, .nil⟩ (fun i H' _ q => .inl (.inl (q.1 _ _ ht))) ?_ ?_⟩
    · rintro i x H2 hi ⟨s2, ys, hl, hy⟩
      obtain ⟨q, t', y, hq, rfl, hs⟩ := fl_at hd hi
      have tf := take_filter (fun q => !decide (q = p)) hq
      have hlen : ys.length ≤ 20 := by
        rw [hy.length, List.length_map]
        exact Nat.le_trans (filter_le hl0) (by decide)
      refine ⟨rfl, _, rfl, t', _, 0, _, rfl, rfl, file_stt s2 hs, rfl, _, rfl, rfl, _, rfl, ?_⟩
      by_cases e : q = p
      · rw [decide_eq_true e] at tf
        refine iteEn (by rw [e]; simp) ⟨s2, ys, hl, ?_⟩
        rw [tf]
        exact (by simpa using hy)
      · rw [decide_eq_false e] at tf
        refine iteE (by rw [decide_eq_false (fun z => e (V.str.inj z))]; rfl) ⟨_, rfl, ys, hl, smallt hlen, same_mut s2 hB, _, upd_same, ?_⟩
        rw [tf, List.map_append]
        have t2 : TX H2 (upd H2 B (.lst (ys ++ [.ref t']))) := tx_upd (by rw [hl]; rfl)
        exact DtAll.snoc (hy.tx t2) (((dtAll_at hd hi hq).same s2).tx t2)
    · rintro H2 ⟨s2, ys, hl, hy⟩
      have hk : (keys F).take (keys F).length = keys F := List.take_length
      rw [hxl, hk] at hy
      have e : ((keys F).filter fun q => !decide (q = p)).map (dFl F) = (((keys F).filter fun q => !decide (q = p)).map (fileOf F)).map dFile := by
        rw [List.map_map]
        rfl
      rw [e] at hy
      exact make_tree (s1.trans s2) ok (.inl (.inl (.inl hl))) hy (fs_del g) (goodF_del g p) k
def spWith (K : PySem.W.Frag) : Sp := fun vs H Q _ => ∃ (v y : V) (D : List Addr) (F : Files) (p : Str) (ls : List Str), vs = [v, .str p, y] ∧ TrAt K (CT K) D H v F ∧ GoodF F ∧ Dok D H ∧ Dt K H y (dL ls) ∧ GoodF (put F p ls) ∧ ∀ H' b, Same H H' → TrAt K (CT K) D H' (.ref b) (put F p ls) → Q (.ref b) H'
theorem sc_Tree_with_file : FnScope ["self", "path", "lines", "file"] ["self", "path", "lines"] (defScope m_Tree_with_file) := ⟨rfl, rfl, rfl, by decide +kernel, rfl, by decide +kernel, by decide +kernel⟩
theorem met_Tree_with_file (T : Tx K mg) : Met P w K mg base 7 (CT K) "with_file" (spWith K) := by
  refine T.met 15 129 98 rfl rfl rfl (N := ["self", "path", "lines", "file"]) (ps := ["self", "path", "lines"]) (fun _ _ _ _ _ _ us hl => match us, hl with | [_, _, _], _ => rfl) sc_Tree_with_file (fun vs H Q E h => ?_) (fun f cdv A outer s H vs Q E hr h => ?_)
  · obtain ⟨v, y, D, F, p, ls, rfl, _⟩ := h
    rfl
  · obtain ⟨v, y0, D, F, p, ls, rfl, tr, g, ok, hy0, gp, k⟩ := h
    obtain ⟨a, dx, d, kvs, ev, h1, h2, n, f⟩ := id tr
    have hl0 := keys_len F
    refine ⟨_, pss_one (ps_ret (pe_mk (mak_Tree T) hr (by decide) rfl (pa_cons (pe_op op_cat (pe_lc (own := [("file", 3)]) (g := gName 3) rfl sc_Tree_with_file.nd (pi_tup (pe_mt0 (met_Tree_files T) hr (by decide) (pv 0))) (blkOk_by (own := [("file", 3)]) (N := ["self", "path", "lines", "file"]) (sc := defScope m_Tree_with_file) (by decide +kernel)) (fun _ _ _ _ _ => pg_name (i := 3) sc_Tree_with_file.nd rfl (by first | exact Or.inl rfl | exact Or.inr rfl)) (fun _ _ _ _ _ => pts_one (pt_cmpR op_ne (pe_ix (ix_tupK K rfl) (pv 3) (pe_int) (fun _ _ => rfl)) (pv 1) (nomark _))) (fun _ _ _ _ _ => pv 3)) (pe_lst (pa_cons (pe_tup (pa_cons (pv 1) (pa_cons (pv 2) pa_nil))) pa_nil))) pa_nil))), ?_⟩
    refine ⟨_, rfl, a, dx, _, ev, h1, rfl, v, D, F, rfl, tr, g, fun H1 t xs s1 ht hd => ?_⟩
    have hxl : xs.length = (keys F).length := by rw [hd.length, List.length_map]
    refine ⟨_, rfl, ⟨_, .inl (.inl ht)⟩, fun B hB => lc_tup (xs := xs) (fun i H' => Same H1 H' ∧ ∃ ys, H' B = some (.lst ys) ∧ DtAll K H' ys ((((keys F).take i).filter fun q => !decide (q = p)).map (dFl F))) ⟨same_new hB, [], upd_same, .nil⟩ (fun i H' _ q => .inl (.inl (q.1 _ _ ht))) ?_ ?_⟩
    · rintro i x H2 hi ⟨s2, ys, hl, hy⟩
      obtain ⟨q, t', y, hq, rfl, hs⟩ := fl_at hd hi
      have tf := take_filter (fun q => !decide (q = p)) hq
      have hlen : ys.length ≤ 20 := by
        rw [hy.length, List.length_map]
        exact Nat.le_trans (filter_le hl0) (by decide)
      refine ⟨rfl, _, rfl, t', _, 0, _, rfl, rfl, file_stt s2 hs, rfl, _, rfl, rfl, _, rfl, ?_⟩
      by_cases e : q = p
      · rw [decide_eq_true e] at tf
        refine iteEn (by rw [e]; simp) ⟨s2, ys, hl, ?_⟩
        rw [tf]
        exact (by simpa using hy)
      · rw [decide_eq_false e] at tf
        refine iteE (by rw [decide_eq_false (fun z => e (V.str.inj z))]; rfl) ⟨_, rfl, ys, hl, smallt hlen, same_mut s2 hB, _, upd_same, ?_⟩
        rw [tf, List.map_append]
        have t2 : TX H2 (upd H2 B (.lst (ys ++ [.ref t']))) := tx_upd (by rw [hl]; rfl)
        exact DtAll.snoc (hy.tx t2) (((dtAll_at hd hi hq).same s2).tx t2)
    · rintro H2 ⟨s2, ys, hl, hy⟩
      have hk : (keys F).take (keys F).length = keys F := List.take_length
      rw [hxl, hk] at hy
      have e : ((keys F).filter fun q => !decide (q = p)).map (dFl F) = (((keys F).filter fun q => !decide (q = p)).map (fileOf F)).map dFile := by
        rw [List.map_map]
        rfl
      have hlen : ys.length ≤ 20 := by
        rw [hy.length, List.length_map]
        exact Nat.le_trans (List.length_filter_le _ _) (by omega)
      rw [e] at hy
      refine ⟨_, rfl, _, rfl, small (m := 2) (Nat.le_refl 2), fun t1 ht1 => ⟨small (m := 1) (Nat.le_refl 1), fun t2 ht2 => ⟨B, t2, ys, _, rfl, rfl, ?_, upd_same, small (m := 30) (by show ys.length + 1 ≤ 30; omega), fun t3 ht3 => ?_⟩⟩⟩
      · exact (same_new ht2) _ _ ((same_new ht1) _ _ hl)
      · have s3 : Same H2 (upd H2 t1 (.tup [.str p, y0])) := same_new ht1
        have s4 := s3.trans ((same_new (o := .lst [.ref t1]) ht2).trans (same_new (o := .lst (ys ++ [.ref t1])) ht3))
        have s5 : Same (upd H2 t1 (.tup [.str p, y0])) _ := (same_new (o := .lst [.ref t1]) ht2).trans (same_new (o := .lst (ys ++ [.ref t1])) ht3)
        refine make_tree (xs := ys ++ [.ref t1]) (fs := ((keys F).filter fun q => !decide (q = p)).map (fileOf F) ++ [(p, ls)]) ((s1.trans s2).trans s4) ok (.inl (.inl (.inl upd_same))) ?_ (fs_put g) gp k
        rw [List.map_append]
        refine DtAll.snoc (hy.same s4) ?_
        exact (Dt.two upd_same (.str p) ((hy0.same (s1.trans s2)).same s3)).same s5
end
end Sa
/-! text EnumT -/
/-! enumerate(tuple) -/
namespace Sa
open PySem PySem.Spec L2 PyProof.Rows
open Sem (wp)
theorem meets_enumerate_newB1 {v : Value} {o : Obj} {H : Heap → Prop} (B : Begins v o H) :
    Meets (Builtin.«enumerate.__new__» ⟨[.type "enumerate", v], []⟩) (fun _ R s => H s.heap ∧
      R (.ok (.ret (.ref (s.heap.push o).objs.size))) { s with heap := (s.heap.push o).push { cls := .type "enumerate", data := .fields #[.none, .bool false, .ref s.heap.objs.size, rawInt 0, .none, .none] } }) :=
  .of_wp fun prog w A R s h => by
    obtain ⟨hp, g, d, tk, os⟩ := s; obtain ⟨h1, h⟩ := h
    have hsub := sub_enumerate
    have q1 : ∀ {A' : Around} {E : Value → Shared → Prop} {Q : Value → Shared → Prop}, Q (.ref hp.objs.size) ⟨hp.push o, g, d, tk, os⟩ → wpAny (model prog w) A' (pyIter v) Q E ⟨hp, g, d, tk, os⟩ :=
      fun q => B.iter prog w _ _ ⟨hp, g, d, tk, os⟩ _ h1 q
    wp_walk using q1
    refine wpAny_stack_any fun st => wpAny_pure ?_
    split
    · rename_i c _ _ _ _ _
      cases (c == Value.type "enumerate")
      · wp_walk using q1
        exact ⟨_, rfl, h⟩
      · wp_walk using q1
        exact ⟨_, rfl, h⟩
    · wp_walk using q1
      exact ⟨_, rfl, h⟩
section
variable {prog : Program} {w : World} {A : Around} {E : Value → Shared → Prop} {s : Shared}
theorem enum_begins1 {v : Value} {o : Obj} {H : Heap → Prop} {Q : Value → Shared → Prop} (B : Begins v o H) (h1 : H s.heap)
    (h : ∀ h', IsEnum h' (s.heap.objs.size + 1) s.heap.objs.size 0 .none → h'.get? s.heap.objs.size = some o → h'.objs.size = s.heap.objs.size + 2 →
      (∀ b o, s.heap.get? b = some o → h'.get? b = some o) → Q (.ref (s.heap.objs.size + 1)) { s with heap := h' }) :
    wpAny (model prog w) A (call (.type "enumerate") [v]) Q E s := by
  refine callType_new F.called_enumerate (by decide) (F.typeCall_enumerate_1 _) (F.newCall_enumerate_1 _) (fun obj => F.args_object_init_2 obj _) F.entry_enumerate_new
    (meets_enumerate_newB1 B) ⟨h1, ?_⟩
  have hz : (s.heap.push o).objs.size = s.heap.objs.size + 1 := Heap.size_push ..
  show _ ∧ _
  rw [hz]
  have he : IsEnum ((s.heap.push o).push { cls := .type "enumerate", data := .fields #[.none, .bool false, .ref s.heap.objs.size, rawInt 0, .none, .none] }) (s.heap.objs.size + 1) s.heap.objs.size 0 .none := by
    have := Heap.get?_push_size (s.heap.push o) (o := { cls := .type "enumerate", data := .fields #[.none, .bool false, .ref s.heap.objs.size, rawInt 0, .none, .none] }) rfl
    rw [hz] at this; exact this
  refine ⟨⟨_, he, rfl⟩, h _ he (Heap.get?_push_of_some _ (Heap.get?_push_size _ B.free)) (by rw [Heap.size_push, hz]) fun b o x => Heap.get?_push_of_some _ (Heap.get?_push_of_some _ x)⟩
end
/-- the tuple at a, each item in a new pair -/
def Iet (K : PySem.W.Frag) (a : Addr) : It :=
  ⟨fun i H => ∃ (xs : List V) (x : V), SqT K H a xs ∧ xs[i]? = some x, fun i H v H' => ∃ T x, v = .ref T ∧ H T = none ∧ H' = upd H T (.tup [.int (i : Nat), x]) ∧ ∀ xs, SqT K H a xs → xs[i]? = some x, fun i H => ∃ xs : List V, SqT K H a xs ∧ xs.length ≤ i⟩
theorem turn_enumT {P : Program} {w : World} {K : PySem.W.Frag} {elts : List Expr} {kk : Nat} {tpos : Pos} (a e it : Addr) :
    Turn P w K (.Tuple elts kk tpos) (Iet K a) [e, it] e (fun i h => (∃ old, IsEnum h e it ((i : Nat) : Int) old) ∧ h.IsTupleIter it a i ∧ e ≠ it ∧ a ≠ it ∧ a ≠ e) where
  mem := by simp
  obj := fun i h st b hb => by
    obtain ⟨⟨old, he⟩, ⟨o, ho, hc, hd⟩, _⟩ := st
    have e' : b = e ∨ b = it := by simpa using hb
    rcases e' with z | z
    · rw [z]; exact ⟨_, he, fun v q => nomatch q⟩
    · rw [z]; exact ⟨o, ho, fun v q => by rw [hd] at q; cases q⟩
  keep := fun i h h' st k => let ⟨⟨old, he⟩, hi, hne⟩ := st; ⟨⟨old, k e (by simp) _ he⟩, hi.at fun o q => k it (by simp) o q, hne⟩
  item := by
    intro X hP hw hK hc i pins s σ H E I hf st hg
    subst hP hw hK
    obtain ⟨⟨old, he⟩, hit, hne, ha1, ha2⟩ := st
    obtain ⟨xs, x, hq, hx⟩ := hg
    obtain ⟨its, rv, p, hz⟩ := I.tuple hq
    obtain ⟨u, hu, ru⟩ := rv.get hx
    have hel : e < s.heap.objs.size := Heap.lt_size he
    have hil : it < s.heap.objs.size := by obtain ⟨_, q, _⟩ := hit; exact Heap.lt_size q
    have hlt : i < its.toArray.size := by
      rw [List.size_toArray]
      exact (List.getElem?_eq_some_iff.mp hu).1
    refine wpAny_pyNext_enum_itemD (Draws.tuple (prog := X.prog) (w := X.w) (A := X.A.in1) (I.ok.hd hc) it a ha1 its.toArray) he ⟨hit, p⟩ hlt hne (by simp [hne, Ne.symm ha2]) fun x' h' tk hx' ho hit' hT hsz hk => ?_
    obtain rfl : u = x' := by
      rw [List.getElem?_toArray, hu] at hx'
      exact Option.some.inj hx'
    refine ⟨_, rfl, wpAny_letOwnedTupleGo_enum (s := { s with heap := h', toks := tk + 1 }) ho fun h'' he' sb => ?_⟩
    have hT2 : h''.get? s.heap.objs.size = some { cls := .type "tuple", data := .seq #[.int i tk, u] } := (sb.2 _ (Nat.ne_of_gt hel)).trans hT
    have new : ObjOk X.prog X.w (upd H s.heap.objs.size (.tup [.int (i : Nat), x])) h'' s.heap.objs.size (.tup [.int (i : Nat), x]) :=
      ⟨by show 2 ≤ sizeLine; decide, [.int i tk, u], .cons ⟨_, rfl⟩ (.cons ru .nil), ⟨_, hT2, rfl, _, rfl⟩⟩
    have I1 : Inv X pins σ (upd H s.heap.objs.size (.tup [.int (i : Nat), x])) { s with heap := h'', toks := tk + 1 } :=
      I.turnedNew (ch := [e, it]) (fun b ob hb q => (sb.2 b (fun z => hb (by simp [z]))).trans (hk b ob (fun z => hb (by simp [z])) (fun z => hb (by simp [z])) q)) hf (Nat.le_refl _) new
    refine ⟨.ref s.heap.objs.size, _, I1, rfl, ⟨_, x, rfl, I.hok.fresh (Nat.le_refl _), rfl, fun ys hy => by rw [I.tuple_inj hy hq]; exact hx⟩, ⟨⟨u, ?_⟩, hit'.1.at fun o q => (sb.2 it (Ne.symm hne)).trans q, hne, ha1, ha2⟩, fun b hb => ?_⟩
    · have e1 : ((i + 1 : Nat) : Int) = (i : Int) + 1 := by omega
      rw [e1]; exact he'
    · have hb' : b < s.heap.objs.size := by
        have e' : b = e ∨ b = it := by simpa using hb
        rcases e' with z | z
        · rw [z]; exact hel
        · rw [z]; exact hil
      rw [upd_ne (Nat.ne_of_lt hb')]
      exact (hf b hb).1
  done := by
    intro X hP hw hK hc i pins s σ H E I hf st hg
    subst hP hw hK
    obtain ⟨⟨old, he⟩, hit, hne, ha1, ha2⟩ := st
    obtain ⟨xs, hq, hx⟩ := hg
    obtain ⟨its, rv, p, hz⟩ := I.tuple hq
    obtain ⟨f0, f1, f2, f3, f4, f5⟩ := hf it (by simp)
    have hl := rv.length
    have hT : s.TypeIs (.ref e) "enumerate" := ⟨_, he, rfl⟩
    unfold pyNext
    refine wpAny_bind (wpAny_attempt (wpAny_callSpecial?_slot (name := Str.ofString "__next__") hT F.slot_enumerate_next
      (wpAny_call_entry F.slot_enumerate_next hT F.entry_enumerate_next ?_ (F.args_enumerate_next_1 _))))
    show wpAny _ _ (field (.ref e) 2 >>= _) _ _ _
    refine wpAny_bind (wpAny_field he rfl (x := .ref it) rfl ?_)
    refine wpAny_bind (wpAny_nextOf_tuple_end (I.ok.hd hc) hit p (by simp; omega) fun h' x he' hx' => ?_)
    obtain ⟨o, ho, hc⟩ := hx'
    refine wpAny_bind (wpAny_isInstance (T := "StopIteration") (b := true) ⟨o, ho, hc⟩ isSubtype_stop ?_)
    exact wpAny_pure ⟨rfl, I.turned (t' := s.toks) (fun b o hb q => he' b o hb q) f0 f1 f3 f4 f5⟩
  self := fun A i s Q E st h => let ⟨⟨_, he⟩, _⟩ := st; wpAny_pyIter_enum he h
def iEnumT (K : PySem.W.Frag) (ta : TA) : TI := fun σ H R => ta σ H fun vs H1 => ∃ a xs, vs = [.ref a] ∧ SqT K H1 a xs ∧ R (Iet K a) H1
theorem pi_enumT {X : Cx} {e : Expr} {ta : TA} {p pos tpos : Pos} {elts : List Expr} {kk : Nat} (hg : Gl X "enumerate") (hm : X.mg "enumerate" = none) (ha : PA X [e] ta) (hs : starEach [e] X.env = [(false, eval e X.env)] := by rfl) :
    PI X (.Tuple elts kk tpos) (.Call (.Name "enumerate" p) [e] [] pos) (iEnumT X.K ta) := by
  refine ⟨fun pins s σ H R I h => ?_⟩
  refine Call_ (ld_blt I hg hm boot_enumerate (PyProof.Rows.callWith_type1 (thn (ha.run pos pins s σ H _ I h) fun us s1 ⟨vs, H1, I1, r1, q1⟩ => ?_) hs rfl))
  obtain ⟨a, xs, ex, hq, q⟩ := q1
  subst ex
  cases r1 with
  | cons r rr =>
    cases rr
    cases r
    obtain ⟨its, rv, p', hz⟩ := I1.tuple hq
    have hal : a < s1.heap.objs.size := by obtain ⟨_, q, _⟩ := p'; exact Heap.lt_size q
    refine enum_begins1 (begins_tuple a its.toArray) p' fun h' he hit hsz hk => wpAny_pyIter_enum he ?_
    have I2 : Inv X pins σ H1 { s1 with heap := h' } := I1.kept (t' := s1.toks) hk
    refine ⟨s1.heap.objs.size + 1, [s1.heap.objs.size + 1, s1.heap.objs.size], _, _, H1, rfl, I2, turn_enumT a (s1.heap.objs.size + 1) s1.heap.objs.size, ⟨⟨.none, he⟩, ⟨_, hit, rfl, rfl⟩, Nat.succ_ne_self _, Nat.ne_of_lt hal, Nat.ne_of_lt (Nat.lt_succ_of_lt hal)⟩, fun b hb => ?_, q⟩
    have e' : b = s1.heap.objs.size + 1 ∨ b = s1.heap.objs.size := by simpa using hb
    have hle : s1.heap.objs.size ≤ b := by
      rcases e' with z | z
      · rw [z]; exact Nat.le_add_right _ _
      · rw [z]; exact Nat.le_refl _
    exact I1.fpOk hle (I1.hok.fresh hle)
theorem walk_enumT {K : PySem.W.Frag} {a : Addr} {xs : List V} : Walk (Iet K a) xs.length (fun H => SqT K H a xs) (YPair (fun i => some (.int (i : Nat))) (fun i => xs[i]?)) := by
  refine ⟨fun i _ hi q => ⟨xs, xs[i], q, by simp [hi]⟩, fun _ q => ⟨xs, q, Nat.le_refl _⟩, fun i H v H' _ q y => ?_⟩
  obtain ⟨T, x, h1, h2, h3, h4⟩ := y
  exact ⟨T, .int (i : Nat), x, h1, h2, h3, rfl, h4 xs q⟩
end Sa
/-! text D6 -/
/-! actions.py: what an action must be -/
namespace Sa
open PySem PySem.Spec L2 PyProof.Rows
def wordA : Act → Str
  | .read _ => "read"
  | .kind _ => "kind"
  | .list _ => "list"
  | .find _ _ => "find"
  | .count _ => "count"
  | .write _ _ => "write"
  | .remove _ => "remove"
  | .move _ _ => "move"
  | .splice _ _ _ => "splice"
section
variable {P : Program} {w : World} {K : PySem.W.Frag} {mg : Str → Option Value} {base : Heap}
theorem Dt.actI {H : Hp} {v : V} {a : Act} (h : Dt K H v (dA a)) : ∃ t xs, v = .ref t ∧ St1 K H t (.str (wordA a) :: xs) := by
  cases a <;> (obtain ⟨t, xs, rfl, h1, h2⟩ := Dt.tupI h; obtain ⟨x, r, rfl, h3, h4⟩ := DtAll.consI h2; rw [Dt.strI h3] at h1; exact ⟨t, r, rfl, h1⟩)
theorem bl1 {p : Prop} [Decidable p] {x : V} (h : p) : [V.bl (decide p), x] = [V.bl true, x] := by rw [decide_eq_true h]
theorem at0 {x : V} {xs : List V} : atI (x :: xs) 0 = some x := by
  unfold atI ixN
  simp
def spIsQuestion (K : PySem.W.Frag) : Sp := fun vs H Q _ => ∃ (v : V) (a : Act), vs = [v] ∧ Dt K H v (dA a) ∧ Q (.bl (isQ a)) H
theorem sc_is_question : FnScope ["action"] ["action"] (defScope s_is_question) := ⟨rfl, rfl, rfl, by decide +kernel, rfl, by decide +kernel, by decide +kernel⟩
theorem cal_is_question (T : Tx K mg) : Cal P w K mg base 1 "is_question" (spIsQuestion K) := by
  refine T.cal 17 9 (f_at (x := "is_question") rfl) (g_at rfl) (N := ["action"]) (ps := ["action"]) (fun _ _ _ _ _ _ us hl => match us, hl with | [_], _ => rfl) sc_is_question (fun vs H Q E h => ?_) (fun f cdv A outer s H vs Q E hr h => ?_)
  · obtain ⟨v, a, rfl, _⟩ := h
    rfl
  · obtain ⟨v, a, rfl, hd, k⟩ := h
    obtain ⟨t, xs, rfl, hs⟩ := hd.actI
    refine ⟨_, pss_one (ps_ret (pe_cmpR op_in_seq (pe_ix ix_tup (pv 0) (pe_int) (fun _ _ => rfl)) (pe_gc rfl (T.gref 67)) (by rfl))), ?_⟩
    refine ⟨_, rfl, t, _, 0, _, rfl, rfl, hs.sq, at0, _, _, rfl, .inr (T.tup 68 rfl _), rfl, by decide +kernel, ?_⟩
    have e : inV (.str (wordA a)) ([He.Dv.str "read", He.Dv.str "kind", He.Dv.str "list", He.Dv.str "find", He.Dv.str "count"].map (He.Dv.v [])) = isQ a := by cases a <;> simp only [wordA, isQ] <;> decide +kernel
    exact Eq.mp (congrArg (fun b => Q (.bl b) H) e.symm) k
def spCheck : Sp := fun vs H Q _ => ∃ x : V, vs = [.bl true, x] ∧ Q .non H
theorem sc_check : FnScope ["good", "name"] ["good", "name"] (defScope s_check) := ⟨rfl, rfl, rfl, by decide +kernel, rfl, by decide +kernel, by decide +kernel⟩
theorem cal_check (T : Tx K mg) : Cal P w K mg base 1 "_check" spCheck := by
  refine T.cal 18 10 (f_at (x := "_check") rfl) (g_at rfl) (N := ["good", "name"]) (ps := ["good", "name"]) (fun _ _ _ _ _ _ us hl => match us, hl with | [_, _], _ => rfl) sc_check (fun vs H Q E h => ?_) (fun f cdv A outer s H vs Q E hr h => ?_)
  · obtain ⟨x, rfl, _⟩ := h
    rfl
  · obtain ⟨x, rfl, k⟩ := h
    refine ⟨_, pss_one (ps_if (pt_not (pt_val (pv 0))) (pss_one (ps_never)) (pss_nil)), ?_⟩
    exact ⟨_, rfl, _, rfl, iteEn rfl k⟩
def spCheckAction (K : PySem.W.Frag) : Sp := fun vs H Q _ => ∃ (v : V) (a : Act), vs = [v] ∧ Dt K H v (dA a) ∧ GoodA a ∧ ∀ H', Same H H' → Q .non H'
theorem sc_check_action : FnScope ["action", "word"] ["action"] (defScope s_check_action) := ⟨rfl, rfl, rfl, by decide +kernel, rfl, by decide +kernel, by decide +kernel⟩
theorem cal_check_action (T : Tx K mg) : Cal P w K mg base 4 "check_action" (spCheckAction K) := by
  refine T.cal 19 11 (f_at (x := "check_action") rfl) (g_at rfl) (N := ["action", "word"]) (ps := ["action"]) (fun _ _ _ _ _ _ us hl => match us, hl with | [_], _ => rfl) sc_check_action (fun vs H Q E h => ?_) (fun f cdv A outer s H vs Q E hr h => ?_)
  · obtain ⟨v, a, rfl, _⟩ := h
    rfl
  · obtain ⟨v, a, rfl, hd, g, k⟩ := h
    refine ⟨_, pss_cons (ps_set (i := 1) sc_check_action.nd rfl (by first | exact Or.inl rfl | exact Or.inr rfl) (pe_ix ix_tup (pv 0) (pe_int) (fun _ _ => rfl))) (pss_cons (ps_if (PW.pt (pw_or (pt_cmpR op_eq (pv 1) (pe_str) (nomark _)) (pw_or (pt_cmpR op_eq (pv 1) (pe_str) (nomark _)) (pw_or (pt_cmpR op_eq (pv 1) (pe_str) (nomark _)) (pw_or1 (pt_cmpR op_eq (pv 1) (pe_str) (nomark _))))))) (pss_one (ps_expr (pe_c (cal_check T) hr (by decide) rfl (pa_cons (pe_c (cal_is_place T) hr (by decide) rfl (pa_cons (pe_ix ix_tup (pv 0) (pe_int) (fun _ _ => rfl)) pa_nil)) (pa_cons (pe_str) pa_nil))))) (pss_one (ps_expr (pe_c (cal_check T) hr (by decide) rfl (pa_cons (pe_c (cal_is_path T) hr (by decide) rfl (pa_cons (pe_ix ix_tup (pv 0) (pe_int) (fun _ _ => rfl)) pa_nil)) (pa_cons (pe_str) pa_nil)))))) (pss_one (ps_if (pt_cmpR op_eq (pv 1) (pe_str) (nomark _)) (pss_one (ps_expr (pe_c (cal_check T) hr (by decide) rfl (pa_cons (pe_c (cal_is_word T) hr (by decide) rfl (pa_cons (pe_ix ix_tup (pv 0) (pe_int) (fun _ _ => rfl)) pa_nil)) (pa_cons (pe_str) pa_nil))))) (pss_one (ps_if (pt_cmpR op_eq (pv 1) (pe_str) (nomark _)) (pss_one (ps_expr (pe_c (cal_check T) hr (by decide) rfl (pa_cons (pe_c (cal_is_lines T) hr (by decide) rfl (pa_cons (pe_ix ix_tup (pv 0) (pe_int) (fun _ _ => rfl)) pa_nil)) (pa_cons (pe_str) pa_nil))))) (pss_one (ps_if (pt_cmpR op_eq (pv 1) (pe_str) (nomark _)) (pss_one (ps_expr (pe_c (cal_check T) hr (by decide) rfl (pa_cons (pe_c (cal_is_path T) hr (by decide) rfl (pa_cons (pe_ix ix_tup (pv 0) (pe_int) (fun _ _ => rfl)) pa_nil)) (pa_cons (pe_str) pa_nil))))) (pss_one (ps_if (pt_cmpR op_eq (pv 1) (pe_str) (nomark _)) (pss_cons (ps_expr (pe_c (cal_check T) hr (by decide) rfl (pa_cons (pe_and (pe_c (cal_is_lines T) hr (by decide) rfl (pa_cons (pe_ix ix_tup (pv 0) (pe_int) (fun _ _ => rfl)) pa_nil)) (pe_one (pe_cmpR op_gt (pe_callB call_len_seq (by rfl) (T.free 85) bv_len (pa_cons (pe_ix ix_tup (pv 0) (pe_int) (fun _ _ => rfl)) pa_nil)) (pe_int) (nomark _)))) (pa_cons (pe_str) pa_nil)))) (pss_one (ps_expr (pe_c (cal_check T) hr (by decide) rfl (pa_cons (pe_c (cal_is_lines T) hr (by decide) rfl (pa_cons (pe_ix ix_tup (pv 0) (pe_int) (fun _ _ => rfl)) pa_nil)) (pa_cons (pe_str) pa_nil)))))) (pss_nil)))))))))), ?_⟩
    cases a with
    | read p =>
      obtain ⟨t, x, y, rfl, hs, e1, e2⟩ := hd.twoI
      cases e1.strI
      cases e2.strI
      refine ⟨_, rfl, t, _, 0, _, rfl, rfl, hs.sq, rfl, ?_⟩
      refine ⟨_, rfl, rfl, _, rfl, iteN (by decide +kernel) ⟨_, rfl, rfl, _, rfl, iteN (by decide +kernel) ⟨_, rfl, rfl, _, rfl, iteN (by decide +kernel) ⟨_, rfl, rfl, _, rfl, iteN (by decide +kernel) ⟨_, rfl, t, _, 1, _, rfl, rfl, hs.sq, rfl, p, rfl, g, fun H1 s1 => ⟨_, rfl, ?_⟩⟩⟩⟩⟩⟩
      refine ⟨_, rfl, rfl, _, rfl, iteN (by decide +kernel) ⟨_, rfl, rfl, _, rfl, iteN (by decide +kernel) ⟨_, rfl, rfl, _, rfl, iteN (by decide +kernel) ⟨_, rfl, rfl, _, rfl, iteN (by decide +kernel) (k H1 s1)⟩⟩⟩⟩
    | kind p =>
      obtain ⟨t, x, y, rfl, hs, e1, e2⟩ := hd.twoI
      cases e1.strI
      cases e2.strI
      refine ⟨_, rfl, t, _, 0, _, rfl, rfl, hs.sq, rfl, ?_⟩
      refine ⟨_, rfl, rfl, _, rfl, iteP (by decide +kernel) ⟨_, rfl, t, _, 1, _, rfl, rfl, hs.sq, rfl, p, rfl, g, fun H1 s1 => ⟨_, rfl, ?_⟩⟩⟩
      refine ⟨_, rfl, rfl, _, rfl, iteN (by decide +kernel) ⟨_, rfl, rfl, _, rfl, iteN (by decide +kernel) ⟨_, rfl, rfl, _, rfl, iteN (by decide +kernel) ⟨_, rfl, rfl, _, rfl, iteN (by decide +kernel) (k H1 s1)⟩⟩⟩⟩
    | list p =>
      obtain ⟨t, x, y, rfl, hs, e1, e2⟩ := hd.twoI
      cases e1.strI
      cases e2.strI
      refine ⟨_, rfl, t, _, 0, _, rfl, rfl, hs.sq, rfl, ?_⟩
      refine ⟨_, rfl, rfl, _, rfl, iteN (by decide +kernel) ⟨_, rfl, rfl, _, rfl, iteP (by decide +kernel) ⟨_, rfl, t, _, 1, _, rfl, rfl, hs.sq, rfl, p, rfl, g, fun H1 s1 => ⟨_, rfl, ?_⟩⟩⟩⟩
      refine ⟨_, rfl, rfl, _, rfl, iteN (by decide +kernel) ⟨_, rfl, rfl, _, rfl, iteN (by decide +kernel) ⟨_, rfl, rfl, _, rfl, iteN (by decide +kernel) ⟨_, rfl, rfl, _, rfl, iteN (by decide +kernel) (k H1 s1)⟩⟩⟩⟩
    | count p =>
      obtain ⟨t, x, y, rfl, hs, e1, e2⟩ := hd.twoI
      cases e1.strI
      cases e2.strI
      refine ⟨_, rfl, t, _, 0, _, rfl, rfl, hs.sq, rfl, ?_⟩
      refine ⟨_, rfl, rfl, _, rfl, iteN (by decide +kernel) ⟨_, rfl, rfl, _, rfl, iteN (by decide +kernel) ⟨_, rfl, rfl, _, rfl, iteP (by decide +kernel) ⟨_, rfl, t, _, 1, _, rfl, rfl, hs.sq, rfl, p, rfl, g, fun H1 s1 => ⟨_, rfl, ?_⟩⟩⟩⟩⟩
      refine ⟨_, rfl, rfl, _, rfl, iteN (by decide +kernel) ⟨_, rfl, rfl, _, rfl, iteN (by decide +kernel) ⟨_, rfl, rfl, _, rfl, iteN (by decide +kernel) ⟨_, rfl, rfl, _, rfl, iteN (by decide +kernel) (k H1 s1)⟩⟩⟩⟩
    | find p q =>
      obtain ⟨t, x, y, z, rfl, hs, e1, e2, e3⟩ := hd.threeI
      cases e1.strI
      cases e2.strI
      cases e3.strI
      refine ⟨_, rfl, t, _, 0, _, rfl, rfl, hs.sq, rfl, ?_⟩
      refine ⟨_, rfl, rfl, _, rfl, iteN (by decide +kernel) ⟨_, rfl, rfl, _, rfl, iteN (by decide +kernel) ⟨_, rfl, rfl, _, rfl, iteN (by decide +kernel) ⟨_, rfl, rfl, _, rfl, iteP (by decide +kernel) ⟨_, rfl, t, _, 1, _, rfl, rfl, hs.sq, rfl, p, rfl, g.1, fun H1 s1 => ⟨_, rfl, ?_⟩⟩⟩⟩⟩⟩
      refine ⟨_, rfl, rfl, _, rfl, iteP (by decide +kernel) ⟨_, rfl, t, _, 2, _, rfl, rfl, file_stt s1 hs, rfl, q, rfl, g.2, fun H2 s2 => ⟨_, rfl, k H2 (s1.trans s2)⟩⟩⟩
    | write p ls =>
      obtain ⟨t, x, y, z, rfl, hs, e1, e2, e3⟩ := hd.threeI
      cases e1.strI
      cases e2.strI
      refine ⟨_, rfl, t, _, 0, _, rfl, rfl, hs.sq, rfl, ?_⟩
      refine ⟨_, rfl, rfl, _, rfl, iteN (by decide +kernel) ⟨_, rfl, rfl, _, rfl, iteN (by decide +kernel) ⟨_, rfl, rfl, _, rfl, iteN (by decide +kernel) ⟨_, rfl, rfl, _, rfl, iteN (by decide +kernel) ⟨_, rfl, t, _, 1, _, rfl, rfl, hs.sq, rfl, p, rfl, g.1, fun H1 s1 => ⟨_, rfl, ?_⟩⟩⟩⟩⟩⟩
      refine ⟨_, rfl, rfl, _, rfl, iteN (by decide +kernel) ⟨_, rfl, rfl, _, rfl, iteP (by decide +kernel) ⟨_, rfl, t, _, 2, _, rfl, rfl, file_stt s1 hs, rfl, z, ls, rfl, e3.same s1, g.2, fun H2 s2 => ⟨_, rfl, k H2 (s1.trans s2)⟩⟩⟩⟩
    | remove p =>
      obtain ⟨t, x, y, rfl, hs, e1, e2⟩ := hd.twoI
      cases e1.strI
      cases e2.strI
      refine ⟨_, rfl, t, _, 0, _, rfl, rfl, hs.sq, rfl, ?_⟩
      refine ⟨_, rfl, rfl, _, rfl, iteN (by decide +kernel) ⟨_, rfl, rfl, _, rfl, iteN (by decide +kernel) ⟨_, rfl, rfl, _, rfl, iteN (by decide +kernel) ⟨_, rfl, rfl, _, rfl, iteN (by decide +kernel) ⟨_, rfl, t, _, 1, _, rfl, rfl, hs.sq, rfl, p, rfl, g, fun H1 s1 => ⟨_, rfl, ?_⟩⟩⟩⟩⟩⟩
      refine ⟨_, rfl, rfl, _, rfl, iteN (by decide +kernel) ⟨_, rfl, rfl, _, rfl, iteN (by decide +kernel) ⟨_, rfl, rfl, _, rfl, iteN (by decide +kernel) ⟨_, rfl, rfl, _, rfl, iteN (by decide +kernel) (k H1 s1)⟩⟩⟩⟩
    | move p q =>
      obtain ⟨t, x, y, z, rfl, hs, e1, e2, e3⟩ := hd.threeI
      cases e1.strI
      cases e2.strI
      cases e3.strI
      refine ⟨_, rfl, t, _, 0, _, rfl, rfl, hs.sq, rfl, ?_⟩
      refine ⟨_, rfl, rfl, _, rfl, iteN (by decide +kernel) ⟨_, rfl, rfl, _, rfl, iteN (by decide +kernel) ⟨_, rfl, rfl, _, rfl, iteN (by decide +kernel) ⟨_, rfl, rfl, _, rfl, iteN (by decide +kernel) ⟨_, rfl, t, _, 1, _, rfl, rfl, hs.sq, rfl, p, rfl, g.1, fun H1 s1 => ⟨_, rfl, ?_⟩⟩⟩⟩⟩⟩
      refine ⟨_, rfl, rfl, _, rfl, iteN (by decide +kernel) ⟨_, rfl, rfl, _, rfl, iteN (by decide +kernel) ⟨_, rfl, rfl, _, rfl, iteP (by decide +kernel) ⟨_, rfl, t, _, 2, _, rfl, rfl, file_stt s1 hs, rfl, q, rfl, g.2, fun H2 s2 => ⟨_, rfl, k H2 (s1.trans s2)⟩⟩⟩⟩⟩
    | splice p o n =>
      obtain ⟨t, x, y, z, u, rfl, hs, e1, e2, e3, e4⟩ := hd.fourI
      cases e1.strI
      cases e2.strI
      refine ⟨_, rfl, t, _, 0, _, rfl, rfl, hs.sq, rfl, ?_⟩
      refine ⟨_, rfl, rfl, _, rfl, iteN (by decide +kernel) ⟨_, rfl, rfl, _, rfl, iteN (by decide +kernel) ⟨_, rfl, rfl, _, rfl, iteN (by decide +kernel) ⟨_, rfl, rfl, _, rfl, iteN (by decide +kernel) ⟨_, rfl, t, _, 1, _, rfl, rfl, hs.sq, rfl, p, rfl, g.1, fun H1 s1 => ⟨_, rfl, ?_⟩⟩⟩⟩⟩⟩
      refine ⟨_, rfl, rfl, _, rfl, iteN (by decide +kernel) ⟨_, rfl, rfl, _, rfl, iteN (by decide +kernel) ⟨_, rfl, rfl, _, rfl, iteN (by decide +kernel) ⟨_, rfl, rfl, _, rfl, iteP (by decide +kernel) ?_⟩⟩⟩⟩
      refine ⟨_, rfl, t, _, 2, _, rfl, rfl, file_stt s1 hs, rfl, z, o, rfl, e3.same s1, g.2.1, fun H2 s2 => ⟨_, rfl, iteE rfl ?_⟩⟩
      obtain ⟨b, rfl, h3⟩ := Dt.linesI (e3.same (s1.trans s2))
      have hpos : 0 < o.length := List.length_pos_iff.mpr g.2.2.1
      refine ⟨_, rfl, t, _, 2, _, rfl, rfl, file_stt (s1.trans s2) hs, rfl, b, _, rfl, .inr h3.sq, _, _, rfl, rfl, ?_⟩
      refine ⟨_, bl1 (p := (0 : Int) < ((o.map V.str).length : Int)) (by rw [List.length_map]; omega), ?_⟩
      refine ⟨_, rfl, t, _, 3, _, rfl, rfl, file_stt (s1.trans s2) hs, rfl, u, n, rfl, e4.same (s1.trans s2), g.2.2.2, fun H3 s3 => ⟨_, rfl, k H3 ((s1.trans s2).trans s3)⟩⟩
end
end Sa
/-! text D7 -/
/-! actions.py: helpers -/
namespace Sa
open PySem PySem.Spec L2 PyProof.Rows
section
variable {P : Program} {w : World} {K : PySem.W.Frag} {mg : Str → Option Value} {base : Heap}
theorem TrAt.ins {H : Hp} {D : List Addr} {v : V} {F : Files} (t : TrAt K (CT K) D H v F) : ∃ a dx fs, v = .ref a ∧ H a = some (.ins (CT K) dx fs) ∧ ∀ m, (("_files" : Str) == m) = false → fs.lookup m = none := by
  obtain ⟨a, dx, d, kvs, ev, h1, h2, n, f⟩ := t
  refine ⟨a, dx, _, ev, h1, fun m hm => ?_⟩
  have hm' : (m == ("_files" : Str)) = false := by
    cases e : m == ("_files" : Str) with
    | false => rfl
    | true =>
      rw [beq_iff_eq.mp e] at hm
      simp at hm
  simp [List.lookup, hm']
theorem p10_p11 {p : Str} (h : p ∈ P10) : p ∈ P11 := List.mem_cons_of_mem _ h
theorem p11_len {p : Str} (h : p ∈ P11) : p.length ≤ 100 := Nat.le_trans (len10 p h) (by decide)
theorem pos_dec {α : Type} {f : Str → α} {l : List Str} : decide (((l.map f).length : Int) > 0) = decide (0 < l.length) := by
  rw [List.length_map]
  by_cases h : 0 < l.length
  · rw [decide_eq_true h, decide_eq_true (by omega)]
  · rw [decide_eq_false h, decide_eq_false (by omega)]
def spIsBlocked (K : PySem.W.Frag) : Sp := fun vs H Q _ => ∃ (v : V) (D : List Addr) (F : Files) (p : Str), vs = [v, .str p] ∧ TrAt K (CT K) D H v F ∧ GoodF F ∧ p ∈ P10 ∧ ∀ H', Same H H' → Q (.bl (blockedB F p)) H'
theorem sc_is_blocked : FnScope ["tree", "path"] ["tree", "path"] (defScope s_is_blocked) := ⟨rfl, rfl, rfl, by decide +kernel, rfl, by decide +kernel, by decide +kernel⟩
theorem cal_is_blocked (T : Tx K mg) : Cal P w K mg base 3 "_is_blocked" (spIsBlocked K) := by
  refine T.cal 24 16 (f_at (x := "_is_blocked") rfl) (g_at rfl) (N := ["tree", "path"]) (ps := ["tree", "path"]) (fun _ _ _ _ _ _ us hl => match us, hl with | [_, _], _ => rfl) sc_is_blocked (fun vs H Q E h => ?_) (fun f cdv A outer s H vs Q E hr h => ?_)
  · obtain ⟨v, D, F, p, rfl, _⟩ := h
    rfl
  · obtain ⟨v, D, F, p, rfl, tr, g, hp, k⟩ := h
    obtain ⟨a, dx, fs, ev, h1, hfs⟩ := tr.ins
    refine ⟨_, pss_one (ps_ret (pe_or (pe_cmpR op_gt (pe_callB call_len_seq (by rfl) (T.free 85) bv_len (pa_cons (pe_mt (met_Tree_paths T) hr (by decide) (pv 0) (pa_cons (pv 1) pa_nil)) pa_nil)) (pe_int) (nomark _)) (pe_one (pe_cmpR op_gt (pe_callB call_len_seq (by rfl) (T.free 85) bv_len (pa_cons (pe_mt (met_Tree_above T) hr (by decide) (pv 0) (pa_cons (pv 1) pa_nil)) pa_nil)) (pe_int) (nomark _))))), ?_⟩
    refine ⟨_, rfl, a, dx, _, ev, h1, hfs _ (by decide +kernel), _, rfl, v, D, F, p, rfl, tr, g, p11_len (p10_p11 hp), fun H1 b s1 hb => ⟨b, _, rfl, .inr (.inl (.inl hb)), _, _, rfl, rfl, _, rfl, ?_⟩⟩
    by_cases e : 0 < (inside F p).length
    · refine iteP (by rw [List.length_map]; omega) ?_
      have q2 := k H1 s1
      unfold blockedB at q2
      rw [decide_eq_true e, Bool.true_or] at q2
      exact q2
    · refine iteN (by rw [List.length_map]; omega) ?_
      refine ⟨_, rfl, a, dx, _, ev, s1 _ _ h1, hfs _ (by decide +kernel), _, rfl, v, D, F, p, rfl, tr.same s1, g, fun H2 b2 s2 hb2 => ⟨b2, _, rfl, .inr (.inl (.inl hb2)), _, _, rfl, rfl, ?_⟩⟩
      have q2 := k H2 (s1.trans s2)
      unfold blockedB at q2
      rw [decide_eq_false e, Bool.false_or] at q2
      refine Eq.mp (congrArg (fun b => Q (.bl b) H2) pos_dec.symm) q2
theorem cut_mid {ls : List Str} {k m : Nat} (h : k + m ≤ ls.length) : cutV (ls.map V.str) (some (k : Int)) (some ((k : Int) + (m : Int))) = ((ls.drop k).take m).map V.str := by
  have e : (k : Int) + (m : Int) = ((k + m : Nat) : Int) := by omega
  unfold cutV
  rw [e, HT.sIx_nat, HT.sIx_nat, List.length_map, Nat.min_eq_left h, Nat.min_eq_left (show k ≤ ls.length by omega), Nat.add_sub_cancel_left, ← List.map_drop, ← List.map_take]
theorem slA_dt {H : Hp} {a : Addr} {ls : List Str} {i m : Nat} {x y : Int} {Q : VK} (ha : St1 K H a (ls.map .str)) (h : i + m ≤ ls.length) (hx : x = (i : Int)) (hy : y = (i : Int) + (m : Int))
    (k : ∀ c H', Same H H' → St1 K H' c (((ls.drop i).take m).map .str) → Q (.ref c) H') : rSlA K (.ref a) (some x) (some y) H Q := by
  subst hx hy
  refine ⟨a, _, rfl, ha.sq, fun hw => ?_, fun hw p hp => ?_⟩
  · refine k a H (Same.refl H) ?_
    have e : (i : Int) + (m : Int) = ((i + m : Nat) : Int) := by omega
    rw [e, HT.sIx_nat, HT.sIx_nat, List.length_map] at hw
    obtain ⟨h1, h2⟩ := hw
    have e1 : i = 0 := by omega
    subst e1
    have e2 : m = ls.length := by omega
    rw [e2, List.drop_zero, List.take_length]
    exact ha
  · refine k p _ (same_new hp) ?_
    rw [cut_mid h]
    exact .inl upd_same
def spPlacesOf (K : PySem.W.Frag) : Sp := fun vs H Q _ => ∃ (a b : Addr) (ls part : List Str), vs = [.ref a, .ref b] ∧ St1 K H a (ls.map .str) ∧ St1 K H b (part.map .str) ∧ GoodLs ls ∧ GoodLs part ∧
  ∀ H' l, Same H H' → H' l = some (.lst ((places ls part).map fun k : Nat => V.int (k : Int))) → Q (.ref l) H'
theorem sc_places_of : FnScope ["lines", "part", "many", "at"] ["lines", "part"] (defScope s_places_of) := ⟨rfl, rfl, rfl, by decide +kernel, rfl, by decide +kernel, by decide +kernel⟩
theorem cal_places_of (T : Tx K mg) : Cal P w K mg base 1 "places_of" (spPlacesOf K) := by
  refine T.cal 20 12 (f_at (x := "places_of") rfl) (g_at rfl) (N := ["lines", "part", "many", "at"]) (ps := ["lines", "part"]) (fun _ _ _ _ _ _ us hl => match us, hl with | [_, _], _ => rfl) sc_places_of (fun vs H Q E h => ?_) (fun f cdv A outer s H vs Q E hr h => ?_)
  · obtain ⟨a, b, ls, part, rfl, _⟩ := h
    rfl
  · obtain ⟨a, b, ls, part, rfl, ha, hb, ga, gb, k⟩ := h
    refine ⟨_, pss_cons (ps_set (i := 2) sc_places_of.nd rfl (by first | exact Or.inl rfl | exact Or.inr rfl) (pe_callB call_len_seq (by rfl) (T.free 85) bv_len (pa_cons (pv 1) pa_nil))) (pss_one (ps_ret (pe_lc (own := [("at", 3)]) (g := gName 3) rfl sc_places_of.nd (pi_range1 rfl (T.free 92) (pa_cons (pe_op op_add (pe_op op_sub (pe_callB call_len_seq (by rfl) (T.free 85) bv_len (pa_cons (pv 0) pa_nil)) (pv 2)) (pe_int)) pa_nil)) (blkOk_by (own := [("at", 3)]) (N := ["lines", "part", "many", "at"]) (sc := defScope s_places_of) (by decide +kernel)) (fun _ _ _ _ _ => pg_name (i := 3) sc_places_of.nd rfl (by first | exact Or.inl rfl | exact Or.inr rfl)) (fun _ _ _ _ _ => pts_one (pt_cmpR (op_eqDK K rfl hr.units) (pe_callTy (call_tuple_ofK K rfl) (by rfl) (T.free 89) bv_tuple (pa_cons (pe_slice (sl_tupAK K rfl) (pv 0) (po_some (pv 3)) (po_some (pe_op op_add (pv 3) (pv 2)))) pa_nil)) (pe_callTy (call_tuple_ofK K rfl) (by rfl) (T.free 89) bv_tuple (pa_cons (pv 1) pa_nil)) (nomark _))) (fun _ _ _ _ _ => pv 3)))), ?_⟩
    refine ⟨_, rfl, b, _, rfl, .inr hb.sq, ?_⟩
    have l1 : (ls.map V.str).length = ls.length := List.length_map ..
    have l2 : (part.map V.str).length = part.length := List.length_map ..
    have g1 := ga.1
    have g2 := gb.1
    refine ⟨_, rfl, a, _, rfl, .inr ha.sq, _, rfl, _, _, rfl, rfl, _, _, rfl, rfl, _, rfl, by rw [l1, l2]; omega, by rw [l1, l2]; omega, ?_⟩
    have en : ((((ls.map V.str).length : Int) - ((part.map V.str).length : Int) + 1)).toNat = ls.length + 1 - part.length := by
      rw [l1, l2]
      omega
    refine fun D hD => lc_it walk_range (fun i H' => Same H H' ∧ H' D = some (.lst ((((List.range (ls.length + 1 - part.length)).take i).filter fun k => decide ((ls.drop k).take part.length = part)).map fun k : Nat => V.int (k : Int)))) ⟨same_new hD, upd_same⟩ (fun _ _ _ _ => trivial) ?_ ?_
    · rintro i y H1 H2 hi ⟨s1, hl⟩ ⟨rfl, rfl⟩
      have hi2 : i < ls.length + 1 - part.length := by
        rw [← en]
        exact hi
      have hr' : (List.range (ls.length + 1 - part.length))[i]? = some i := List.getElem?_range hi2
      have tf := take_filter (fun k => decide ((ls.drop k).take part.length = part)) hr'
      have gc : GoodLs ((ls.drop i).take part.length) := ⟨Nat.le_trans (List.length_take_le' _ _) (by rw [List.length_drop]; omega), fun l hl => ga.2 l (List.mem_of_mem_drop (List.mem_of_mem_take hl))⟩
      refine ⟨rfl, _, rfl, _, rfl, _, rfl, _, rfl, _, rfl, _, _, rfl, rfl, _, rfl, ?_⟩
      refine slA_dt (ls := ls) (i := i) (m := part.length) (ha.tx (tx_same s1)) (by omega) (by omega) (by rw [l2]; omega) fun c H3 s3 hc => ⟨c, _, rfl, .inr ⟨hc.sq, _, rfl, b, _, rfl, .inr ⟨file_stt (s1.trans s3) hb, ?_⟩⟩⟩
      refine eqL_of (a := (ls.drop i).take part.length) (b := part) (Dt.linesS hc) (Dt.linesS (hb.tx (tx_same (s1.trans s3)))) gc gb ⟨_, rfl, ?_⟩
      by_cases e : (ls.drop i).take part.length = part
      · rw [decide_eq_true e] at tf
        refine iteP e ⟨_, rfl, _, s3 _ _ hl, smallt (m := 20) ?_, same_mut (s1.trans s3) hD, ?_⟩
        · rw [List.length_map]
          exact filter_le (by rw [List.length_range]; omega)
        · rw [upd_same, tf, List.map_append]
          show some (HO.lst (_ ++ [V.int (0 + (i : Int))])) = _
          rw [Int.zero_add]
          rfl
      · rw [decide_eq_false e] at tf
        refine iteN e ⟨s1.trans s3, ?_⟩
        rw [tf]
        exact (s3 _ _ hl).trans (by rw [if_neg (by decide), List.append_nil])
    · rintro H1 ⟨s1, hl⟩
      rw [List.take_of_length_le (by rw [List.length_range]; omega)] at hl
      exact k H1 D s1 hl
end
end Sa
/-! text D8 -/
/-! actions.py: names -/
namespace Sa
open PySem PySem.Spec L2 PyProof.Rows
theorem beh_len {p q : Str} (h : p ∈ P10) : (behind p q).length ≤ 100 := by
  refine Nat.le_trans (cutS_length _ _ _) ?_
  exact p11_len (p10_p11 h)
theorem inside_p10 {F : Files} {q p : Str} (h : p ∈ inside F q) : p ∈ P10 ∧ isInB p q = true := by
  obtain ⟨h1, h2⟩ := List.mem_filter.mp h
  exact ⟨keys_p10 h1, h2⟩
theorem inside_len (F : Files) (q : Str) : (inside F q).length ≤ 10 := Nat.le_trans (List.length_filter_le _ _) (keys_len F)
/-- the names found in the first i -/
structure NmOk (F : Files) (q : Str) (i : Nat) (ks : List Str) : Prop where
  nd : ks.Nodup
  mem : ∀ x, x ∈ ks ↔ ∃ p ∈ (inside F q).take i, nameOf p q = x
  len : ks.length ≤ i
theorem NmOk.names {F : Files} {q : Str} {ks ys : List Str} (h : NmOk F q (inside F q).length ks) (hq : q ∈ P11) (hp : ys.Perm ks) (so : sortedS ys = true) : ys = names F q := by
  refine canon rkNS ns_sorted ns_nodup hp so h.nd fun x => ?_
  rw [h.mem, List.take_length, List.any_eq_true]
  constructor
  · rintro ⟨p, hp, rfl⟩
    obtain ⟨h1, h2⟩ := inside_p10 hp
    exact ⟨name_in p h1 q hq h2, p, hp, decide_eq_true rfl⟩
  · rintro ⟨_, p, hp, e⟩
    exact ⟨p, hp, of_decide_eq_true e⟩
theorem NmOk.skip {F : Files} {q p : Str} {i : Nat} {ks : List Str} (h : NmOk F q i ks) (hp : (inside F q)[i]? = some p) (m : nameOf p q ∈ ks) : NmOk F q (i + 1) ks := by
  refine ⟨h.nd, fun x => ?_, Nat.le_succ_of_le h.len⟩
  rw [h.mem, List.take_succ, hp]
  constructor
  · rintro ⟨r, hr, e⟩
    exact ⟨r, List.mem_append_left _ hr, e⟩
  · rintro ⟨r, hr, e⟩
    rcases List.mem_append.mp hr with hr | hr
    · exact ⟨r, hr, e⟩
    · have : r = p := by simpa using hr
      rw [this] at e
      rw [e] at m
      exact (h.mem x).mp m
theorem NmOk.add {F : Files} {q p : Str} {i : Nat} {ks : List Str} (h : NmOk F q i ks) (hp : (inside F q)[i]? = some p) (m : nameOf p q ∉ ks) : NmOk F q (i + 1) (ks ++ [nameOf p q]) := by
  refine ⟨?_, fun x => ?_, ?_⟩
  · refine List.nodup_append.mpr ⟨h.nd, by simp, fun a ha b hb => ?_⟩
    rw [List.mem_singleton.mp hb]
    exact fun z => m (by rw [← z]; exact ha)
  · rw [List.mem_append, h.mem, List.take_succ, hp, List.mem_singleton]
    constructor
    · rintro (⟨r, hr, e⟩ | rfl)
      · exact ⟨r, List.mem_append_left _ hr, e⟩
      · exact ⟨p, List.mem_append_right _ (by simp), rfl⟩
    · rintro ⟨r, hr, e⟩
      rcases List.mem_append.mp hr with hr | hr
      · exact .inl ⟨r, hr, e⟩
      · have : r = p := by simpa using hr
        rw [this] at e
        exact .inr e.symm
  · rw [List.length_append]
    exact Nat.succ_le_succ h.len
theorem eqV_strs {x y : Str} : eqV (.str x) (.str y) = decide (x = y) := by
  unfold eqV
  by_cases h : x = y
  · simp [h]
  · simp [h]
theorem inV_strs {x : Str} : ∀ {ks : List Str}, inV (.str x) (ks.map V.str) = decide (x ∈ ks)
  | [] => by simp [inV]
  | k :: ks => by
    have ih := inV_strs (x := x) (ks := ks)
    unfold inV at ih ⊢
    rw [List.map_cons, List.any_cons, ih, eqV_strs]
    by_cases h : x = k
    · subst h
      simp
    · simp [h, Ne.symm h]
theorem part_fin : ∀ p ∈ P10, ∀ q ∈ P11, (Txt.partition (behind p q) "/").1.length + (Txt.partition (behind p q) "/").2.1.length ≤ 200 := by decide +kernel
theorem part_len {p q : Str} (h : p ∈ P10) (hq : q ∈ P11) : (Txt.partition (behind p q) "/").1.length + (Txt.partition (behind p q) "/").2.1.length ≤ 200 := part_fin p h q hq
theorem flat_strs (ks : List Str) : (ks.map V.str).all flatV = true := by
  rw [List.all_eq_true]
  intro x hx
  obtain ⟨k, _, rfl⟩ := List.mem_map.mp hx
  rfl
section
variable {P : Program} {w : World} {K : PySem.W.Frag} {mg : Str → Option Value} {base : Heap}
def spNames (K : PySem.W.Frag) : Sp := fun vs H Q _ => ∃ (v : V) (D : List Addr) (F : Files) (q : Str), vs = [v, .str q] ∧ TrAt K (CT K) D H v F ∧ GoodF F ∧ q ∈ P11 ∧ ∀ H' a, Same H H' → H' a = some (.tup ((names F q).map .str)) → Q (.ref a) H'
theorem sc_names : FnScope ["tree", "place", "start", "found", "path", "name", "gap", "_"] ["tree", "place"] (defScope s_names) := ⟨rfl, rfl, rfl, by decide +kernel, rfl, by decide +kernel, by decide +kernel⟩
theorem cal_names (T : Tx K mg) : Cal P w K mg base 3 "_names" (spNames K) := by
  refine T.cal 21 13 (f_at (x := "_names") rfl) (g_at rfl) (N := ["tree", "place", "start", "found", "path", "name", "gap", "_"]) (ps := ["tree", "place"]) (fun _ _ _ _ _ _ us hl => match us, hl with | [_, _], _ => rfl) sc_names (fun vs H Q E h => ?_) (fun f cdv A outer s H vs Q E hr h => ?_)
  · obtain ⟨v, D, F, q, rfl, _⟩ := h
    rfl
  · obtain ⟨v, D, F, q, rfl, tr, g, hq, k⟩ := h
    obtain ⟨a, dx, fs, ev, h1, hfs⟩ := tr.ins
    have l10 := inside_len F q
    refine ⟨_, pss_cons (ps_set (i := 2) sc_names.nd rfl (by first | exact Or.inl rfl | exact Or.inr rfl) (pe_ifExp (pt_cmpR op_eq (pv 1) (pe_str) (nomark _)) (pe_int) (pe_op op_add (pe_callB call_len_str (by rfl) (T.free 85) bv_len (pa_cons (pv 1) pa_nil)) (pe_int)))) (pss_cons (ps_set (i := 3) sc_names.nd rfl (by first | exact Or.inl rfl | exact Or.inr rfl) (pe_lst (pa_nil))) (pss_cons (ps_for PassesOwn.never rfl (pi_tup (pe_mt (met_Tree_paths T) hr (by decide) (pv 0) (pa_cons (pv 1) pa_nil))) (pg_name (i := 4) sc_names.nd rfl (by first | exact Or.inl rfl | exact Or.inr rfl)) (pss_cons (ps_asg (pe_partition (pe_slice sl_str (pv 4) (po_some (pv 2)) (po_none)) (pe_str)) (pg_tup rfl (pgs_cons (pg_name (i := 5) sc_names.nd rfl (by first | exact Or.inl rfl | exact Or.inr rfl)) (pgs_cons (pg_name (i := 6) sc_names.nd rfl (by first | exact Or.inl rfl | exact Or.inr rfl)) (pgs_cons (pg_name (i := 7) sc_names.nd rfl (by first | exact Or.inl rfl | exact Or.inr rfl)) (pgs_nil)))))) (pss_one (ps_if (pt_cmpR op_notIn_seq (pe_op op_add_str (pv 5) (pv 6)) (pv 3) (by rfl)) (pss_one (ps_expr (pe_bm PySem.F.plainAttrs_list PySem.F.slot_list_append PySem.F.type_list_append mt_append (pv 3) (pa_cons (pe_op op_add_str (pv 5) (pv 6)) pa_nil)))) (pss_nil))))) (pss_one (ps_ret (pe_callTy call_tuple_of (by rfl) (T.free 89) bv_tuple (pa_cons (pe_callB cr_sortedS (by rfl) (T.free 90) bv_sorted (pa_cons (pv 3) pa_nil)) pa_nil)))))), ?_⟩
    refine ⟨_, rfl, rfl, _, rfl, ?_⟩
    by_cases e : q = ""
    · refine iteP (by rw [e]) ?_
      refine ⟨small (m := 0) (Nat.le_refl 0), fun B hB => ?_⟩
      have s0 : Same H (upd H B (.lst [])) := same_new hB
      refine ⟨_, rfl, a, dx, _, ev, s0 _ _ h1, hfs _ (by decide +kernel), _, rfl, v, D, F, q, rfl, tr.same s0, g, p11_len hq, fun H1 b s1 hb => ⟨b, rfl, ⟨_, .inl (.inl hb)⟩, ?_⟩⟩
      have hbB : b ≠ B := ne_of hb (s1 _ _ upd_same) (by intro z; cases z)
      refine for_tup (xs := (inside F q).map V.str) (fun i σ H' => ∃ v4 v5 v6 v7 ks, σ = [some v, some (.str q), some (.int 0), some (.ref B), v4, v5, v6, v7] ∧ Same H H' ∧ H' B = some (.lst (ks.map V.str)) ∧ H' b = some (.tup ((inside F q).map V.str)) ∧ NmOk F q i ks) ⟨_, _, _, _, [], rfl, s0.trans s1, s1 _ _ upd_same, hb, ⟨List.nodup_nil, fun x => by simp, Nat.le_refl 0⟩⟩ (fun i σ H' _ ⟨_, _, _, _, _, _, _, _, q, _⟩ => .inl (.inl q)) ?_ ?_
      · rintro i y σ H2 hi ⟨v4, v5, v6, v7, ks, rfl, s2, hl, hb2, hk⟩
        rw [List.getElem?_map] at hi
        obtain ⟨p, hp, rfl⟩ := Option.map_eq_some_iff.mp hi
        obtain ⟨p10, pin⟩ := inside_p10 (List.mem_of_getElem? hp)
        have hi10 : i < 10 := by
          have := (List.getElem?_eq_some_iff.mp hp).1
          omega
        have hbe := beh_len (q := q) p10
        have hcut : cutS p (some 0) none = behind p q := by
          unfold behind
          rw [if_pos e]
        have hsp : (Txt.partition (behind p q) "/").1.length + (Txt.partition (behind p q) "/").2.1.length ≤ 200 := part_len p10 hq
        refine ⟨_, rfl, _, rfl, _, rfl, p, rfl, small (p11_len (p10_p11 p10)), ⟨_, rfl⟩, _, _, rfl, rfl, by decide +kernel, small (m := 100) (by rw [hcut]; exact hbe), fun t ht => ?_⟩
        rw [hcut]
        refine ⟨t, _, rfl, .inl (.inl upd_same), rfl, _, _, rfl, _, _, rfl, _, _, rfl, rfl, ?_⟩
        have s3 : Same H2 (upd H2 t (.tup [.str (Txt.partition (behind p q) "/").1, .str (Txt.partition (behind p q) "/").2.1, .str (Txt.partition (behind p q) "/").2.2])) := same_new ht
        refine ⟨_, rfl, _, rfl, _, _, rfl, rfl, small hsp, _, rfl, B, ks.map V.str, rfl, .inl (.inl (.inl (s3 _ _ hl))), rfl, flat_strs ks, _, rfl, ?_⟩
        have ein : inV (.str (nameOf p q)) (ks.map V.str) = decide (nameOf p q ∈ ks) := inV_strs
        by_cases m : nameOf p q ∈ ks
        · refine iteEn (by show (!inV (.str (nameOf p q)) (ks.map V.str)) = false; rw [ein, decide_eq_true m]; rfl) ?_
          exact ⟨_, _, _, _, ks, rfl, s2.trans s3, s3 _ _ hl, s3 _ _ hb2, hk.skip hp m⟩
        · refine iteE (by show (!inV (.str (nameOf p q)) (ks.map V.str)) = true; rw [ein, decide_eq_false m]; rfl) ?_
          refine ⟨_, rfl, .inl ⟨rfl, _, .inl (.inl (s3 _ _ hl))⟩, _, rfl, _, rfl, _, _, rfl, rfl, small hsp, B, _, _, rfl, rfl, s3 _ _ hl, smallt (m := 20) ?_, ?_⟩
          · rw [List.length_map]
            have := hk.len
            omega
          · refine ⟨_, _, _, _, ks ++ [nameOf p q], rfl, same_mut (s2.trans s3) hB, ?_, ?_, hk.add hp m⟩
            · rw [upd_same, List.map_append]
              rfl
            · rw [upd_ne hbB]
              exact s3 _ _ hb2
      · rintro σ H2 ⟨v4, v5, v6, v7, ks, rfl, s2, hl, hb2, hk⟩
        rw [List.length_map] at hk
        have hkl := hk.len
        refine ⟨_, rfl, B, ks, rfl, .inl (.inl hl), by omega, fun ys c hp so hc => ?_⟩
        cases hk.names hq hp so
        refine ⟨c, _, rfl, .inl ⟨.inl (.inl upd_same), fun l hl' => ?_⟩⟩
        exact k _ l (s2.trans ((same_new hc).trans (same_new hl'))) upd_same
    · refine iteN (fun z => e (by cases z; rfl)) ⟨_, rfl, q, rfl, small (p11_len hq), _, _, rfl, rfl, ?_⟩
      refine ⟨small (m := 0) (Nat.le_refl 0), fun B hB => ?_⟩
      have s0 : Same H (upd H B (.lst [])) := same_new hB
      refine ⟨_, rfl, a, dx, _, ev, s0 _ _ h1, hfs _ (by decide +kernel), _, rfl, v, D, F, q, rfl, tr.same s0, g, p11_len hq, fun H1 b s1 hb => ⟨b, rfl, ⟨_, .inl (.inl hb)⟩, ?_⟩⟩
      have hbB : b ≠ B := ne_of hb (s1 _ _ upd_same) (by intro z; cases z)
      refine for_tup (xs := (inside F q).map V.str) (fun i σ H' => ∃ v4 v5 v6 v7 ks, σ = [some v, some (.str q), some (.int ((q.length : Int) + 1)), some (.ref B), v4, v5, v6, v7] ∧ Same H H' ∧ H' B = some (.lst (ks.map V.str)) ∧ H' b = some (.tup ((inside F q).map V.str)) ∧ NmOk F q i ks) ⟨_, _, _, _, [], rfl, s0.trans s1, s1 _ _ upd_same, hb, ⟨List.nodup_nil, fun x => by simp, Nat.le_refl 0⟩⟩ (fun i σ H' _ ⟨_, _, _, _, _, _, _, _, q, _⟩ => .inl (.inl q)) ?_ ?_
      · rintro i y σ H2 hi ⟨v4, v5, v6, v7, ks, rfl, s2, hl, hb2, hk⟩
        rw [List.getElem?_map] at hi
        obtain ⟨p, hp, rfl⟩ := Option.map_eq_some_iff.mp hi
        obtain ⟨p10, pin⟩ := inside_p10 (List.mem_of_getElem? hp)
        have hi10 : i < 10 := by
          have := (List.getElem?_eq_some_iff.mp hp).1
          omega
        have hbe := beh_len (q := q) p10
        have hcut : cutS p (some ((q.length : Int) + 1)) none = behind p q := by
          unfold behind
          rw [if_neg e]
        have hsp : (Txt.partition (behind p q) "/").1.length + (Txt.partition (behind p q) "/").2.1.length ≤ 200 := part_len p10 hq
        refine ⟨_, rfl, _, rfl, _, rfl, p, rfl, small (p11_len (p10_p11 p10)), ⟨_, rfl⟩, _, _, rfl, rfl, by decide +kernel, small (m := 100) (by rw [hcut]; exact hbe), fun t ht => ?_⟩
        rw [hcut]
        refine ⟨t, _, rfl, .inl (.inl upd_same), rfl, _, _, rfl, _, _, rfl, _, _, rfl, rfl, ?_⟩
        have s3 : Same H2 (upd H2 t (.tup [.str (Txt.partition (behind p q) "/").1, .str (Txt.partition (behind p q) "/").2.1, .str (Txt.partition (behind p q) "/").2.2])) := same_new ht
        refine ⟨_, rfl, _, rfl, _, _, rfl, rfl, small hsp, _, rfl, B, ks.map V.str, rfl, .inl (.inl (.inl (s3 _ _ hl))), rfl, flat_strs ks, _, rfl, ?_⟩
        have ein : inV (.str (nameOf p q)) (ks.map V.str) = decide (nameOf p q ∈ ks) := inV_strs
        by_cases m : nameOf p q ∈ ks
        · refine iteEn (by show (!inV (.str (nameOf p q)) (ks.map V.str)) = false; rw [ein, decide_eq_true m]; rfl) ?_
          exact ⟨_, _, _, _, ks, rfl, s2.trans s3, s3 _ _ hl, s3 _ _ hb2, hk.skip hp m⟩
        · refine iteE (by show (!inV (.str (nameOf p q)) (ks.map V.str)) = true; rw [ein, decide_eq_false m]; rfl) ?_
          refine ⟨_, rfl, .inl ⟨rfl, _, .inl (.inl (s3 _ _ hl))⟩, _, rfl, _, rfl, _, _, rfl, rfl, small hsp, B, _, _, rfl, rfl, s3 _ _ hl, smallt (m := 20) ?_, ?_⟩
          · rw [List.length_map]
            have := hk.len
            omega
          · refine ⟨_, _, _, _, ks ++ [nameOf p q], rfl, same_mut (s2.trans s3) hB, ?_, ?_, hk.add hp m⟩
            · rw [upd_same, List.map_append]
              rfl
            · rw [upd_ne hbB]
              exact s3 _ _ hb2
      · rintro σ H2 ⟨v4, v5, v6, v7, ks, rfl, s2, hl, hb2, hk⟩
        rw [List.length_map] at hk
        have hkl := hk.len
        refine ⟨_, rfl, B, ks, rfl, .inl (.inl hl), by omega, fun ys c hp so hc => ?_⟩
        cases hk.names hq hp so
        refine ⟨c, _, rfl, .inl ⟨.inl (.inl upd_same), fun l hl' => ?_⟩⟩
        exact k _ l (s2.trans ((same_new hc).trans (same_new hl'))) upd_same
end
end Sa
/-! text D9 -/
/-! actions.py: rows -/
namespace Sa
open PySem PySem.Spec L2 PyProof.Rows
structure AtOk (F : Files) (q : Str) (ks : List Str) : Prop where
  nd : ks.Nodup
  mem : ∀ x, x ∈ ks ↔ x ∈ P10 ∧ ((F x).isSome && (isInB x q || decide (x = q))) = true
  len : ks.length ≤ 11
theorem AtOk.sorted {F : Files} {q : Str} {ks ys : List Str} (h : AtOk F q ks) (hp : ys.Perm ks) (so : sortedS ys = true) : ys = atOrIn F q := by
  have e : atOrIn F q = P10.filter fun x => (F x).isSome && (isInB x q || decide (x = q)) := by
    unfold atOrIn keys
    rw [List.filter_filter]
    refine List.filter_congr fun x _ => ?_
    rw [Bool.and_comm]
  rw [e]
  exact canon rk10 p10_sorted p10_nodup hp so h.nd h.mem
theorem AtOk.no {F : Files} {q : Str} (g : GoodF F) (hq : q ∈ P11) (e : F q = none) : AtOk F q (inside F q) := by
  refine ⟨(keys_nodup F).sublist List.filter_sublist, fun x => ?_, Nat.le_trans (inside_len F q) (by decide)⟩
  unfold inside
  rw [List.mem_filter, mem_keys, Bool.and_eq_true, Bool.or_eq_true, and_assoc]
  constructor
  · rintro ⟨h1, h2, h3⟩
    exact ⟨h1, h2, .inl h3⟩
  · rintro ⟨h1, h2, h3 | h3⟩
    · exact ⟨h1, h2, h3⟩
    · rw [of_decide_eq_true h3, e] at h2
      cases h2
theorem AtOk.yes {F : Files} {q : Str} {ls : List Str} (g : GoodF F) (hq : q ∈ P11) (e : F q = some ls) : AtOk F q (inside F q ++ [q]) := by
  have q10 := (g.one q ls e).1
  refine ⟨?_, fun x => ?_, ?_⟩
  · refine List.nodup_append.mpr ⟨(keys_nodup F).sublist List.filter_sublist, by simp, fun a ha b hb => ?_⟩
    rw [List.mem_singleton.mp hb]
    rintro rfl
    have := (inside_p10 ha).2
    rw [self_in a q10] at this
    cases this
  · unfold inside
    rw [List.mem_append, List.mem_filter, mem_keys, Bool.and_eq_true, Bool.or_eq_true, List.mem_singleton]
    constructor
    · rintro (⟨⟨h1, h2⟩, h3⟩ | rfl)
      · exact ⟨h1, h2, .inl h3⟩
      · exact ⟨q10, by rw [e]; rfl, .inr (decide_eq_true rfl)⟩
    · rintro ⟨h1, h2, h3 | h3⟩
      · exact .inl ⟨⟨h1, h2⟩, h3⟩
      · exact .inr (of_decide_eq_true h3)
  · rw [List.length_append]
    have := inside_len F q
    show _ + 1 ≤ 11
    omega
theorem rows_len (p wd : Str) (ls : List Str) : (rowsOf p wd ls).length ≤ ls.length := by
  unfold rowsOf
  rw [List.length_map]
  refine Nat.le_trans (List.length_filter_le _ _) ?_
  rw [List.length_range]
  exact Nat.le_refl _
theorem sum_le {α : Type} {f : α → List (Str × Nat)} {n : Nat} : ∀ {xs : List α}, (∀ x ∈ xs, (f x).length ≤ n) → (xs.flatMap f).length ≤ xs.length * n
  | [], _ => by simp
  | x :: xs, h => by
    rw [List.flatMap_cons, List.length_append, List.length_cons, Nat.succ_mul]
    have h1 := h x List.mem_cons_self
    have h2 := sum_le (xs := xs) fun y hy => h y (List.mem_cons_of_mem _ hy)
    omega
theorem fl_len {F : Files} {q wd : Str} {i : Nat} (g : GoodF F) (hi : i ≤ 10) : (((atOrIn F q).take i).flatMap fun p => rowsOf p wd ((F p).getD [])).length ≤ 120 := by
  refine Nat.le_trans (sum_le (n := 12) fun p hp => ?_) ?_
  · refine Nat.le_trans (rows_len _ _ _) ?_
    cases e : F p with
    | none => exact Nat.zero_le _
    | some ls => exact (g.one p ls e).2.1
  · rw [List.length_take]
    have : min i (atOrIn F q).length ≤ 10 := Nat.le_trans (Nat.min_le_left _ _) hi
    omega
section
variable {P : Program} {w : World} {K : PySem.W.Frag} {mg : Str → Option Value} {base : Heap}
def spRows (K : PySem.W.Frag) : Sp := fun vs H Q _ => ∃ (v : V) (D : List Addr) (F : Files) (q wd : Str), vs = [v, .str q, .str wd] ∧ TrAt K (CT K) D H v F ∧ GoodF F ∧ q ∈ P11 ∧ wd ∈ W4 ∧ ∀ H' a xs, Same H H' → H' a = some (.tup xs) → DtAll K H' xs ((found F q wd).map dRow) → Q (.ref a) H'
theorem sc_rows : FnScope ["tree", "place", "word", "paths", "found", "path", "at", "line"] ["tree", "place", "word"] (defScope s_rows) := ⟨rfl, rfl, rfl, by decide +kernel, rfl, by decide +kernel, by decide +kernel⟩
theorem cal_rows (T : Tx K mg) : Cal P w K mg base 3 "_rows" (spRows K) := by
  refine T.cal 22 14 (f_at (x := "_rows") rfl) (g_at rfl) (N := ["tree", "place", "word", "paths", "found", "path", "at", "line"]) (ps := ["tree", "place", "word"]) (fun _ _ _ _ _ _ us hl => match us, hl with | [_, _, _], _ => rfl) sc_rows (fun vs H Q E h => ?_) (fun f cdv A outer s H vs Q E hr h => ?_)
  · obtain ⟨v, D, F, q, wd, rfl, _⟩ := h
    rfl
  · obtain ⟨v, D, F, q, wd, rfl, tr, g, hq, hw, k⟩ := h
    obtain ⟨a, dx, fs, ev, h1, hfs⟩ := tr.ins
    have l10 := inside_len F q
    refine ⟨_, pss_cons (ps_set (i := 3) sc_rows.nd rfl (by first | exact Or.inl rfl | exact Or.inr rfl) (pe_callTy call_list_of (by rfl) (T.free 91) bv_list (pa_cons (pe_mt (met_Tree_paths T) hr (by decide) (pv 0) (pa_cons (pv 1) pa_nil)) pa_nil))) (Evl.pss_cut (ps_if (pt_cmp (pc_notN (pe_mt (met_Tree_lines T) hr (by decide) (pv 0) (pa_cons (pv 1) pa_nil)))) (pss_one (ps_expr (pe_bm PySem.F.plainAttrs_list PySem.F.slot_list_append PySem.F.type_list_append mt_append (pv 3) (pa_cons (pv 1) pa_nil)))) (pss_nil)) (pss_cons (ps_set (i := 4) sc_rows.nd rfl (by first | exact Or.inl rfl | exact Or.inr rfl) (pe_lst (pa_nil))) (pss_cons (ps_for PassesOwn.never rfl (pi_list (pe_callB cr_sortedS (by rfl) (T.free 90) bv_sorted (pa_cons (pv 3) pa_nil))) (pg_name (i := 5) sc_rows.nd rfl (by first | exact Or.inl rfl | exact Or.inr rfl)) (pss_one (ps_expr (pe_bm PySem.F.plainAttrs_list PySem.F.slot_list_extend PySem.F.type_list_extend mt_extend (pv 4) (pa_cons (pe_lc (own := [("at", 6), ("line", 7)]) (g := gTup _ 2 (gCons (gName 6) (gCons (gName 7) (gNil)))) rfl sc_rows.nd (pi_enumT (by rfl) (T.free 93) (pa_cons (pe_mt (met_Tree_lines T) hr (by decide) (pv 0) (pa_cons (pv 5) pa_nil)) pa_nil)) (blkOk_by (own := [("at", 6), ("line", 7)]) (N := ["tree", "place", "word", "paths", "found", "path", "at", "line"]) (sc := defScope s_rows) (by decide +kernel)) (fun _ _ _ _ _ => pg_tup rfl (pgs_cons (pg_name (i := 6) sc_rows.nd rfl (by first | exact Or.inl rfl | exact Or.inr rfl)) (pgs_cons (pg_name (i := 7) sc_rows.nd rfl (by first | exact Or.inl rfl | exact Or.inr rfl)) (pgs_nil)))) (fun _ _ _ _ _ => pts_one (pt_cmpR op_in_str (pv 2) (pv 7) (by rfl))) (fun _ _ _ _ _ => pe_tup (pa_cons (pv 5) (pa_cons (pv 6) pa_nil)))) pa_nil))))) (pss_one (ps_ret (pe_callTy call_tuple_of (by rfl) (T.free 89) bv_tuple (pa_cons (pv 4) pa_nil))))))), ?_⟩
    refine ⟨_, rfl, a, dx, _, ev, h1, hfs _ (by decide +kernel), _, rfl, v, D, F, q, rfl, tr, g, p11_len hq, fun H1 b s1 hb => ⟨b, _, rfl, .inr (.inl (.inl hb)), fun B hB => ?_⟩⟩
    have s2 := s1.trans (same_new (o := .lst ((inside F q).map V.str)) hB)
    refine ⟨fun σ' H' => ∃ v4 v5 v6 v7 ks, σ' = [some v, some (.str q), some (.str wd), some (.ref B), v4, v5, v6, v7] ∧ Same H H' ∧ H' B = some (.lst (ks.map V.str)) ∧ AtOk F q ks, ?_, ?_⟩
    · refine ⟨_, rfl, a, dx, _, ev, s2 _ _ h1, hfs _ (by decide +kernel), _, rfl, v, D, F, q, rfl, tr.same s2, fun e => ⟨_, rfl, iteEn (by decide) ⟨_, _, _, _, inside F q, rfl, s2, upd_same, AtOk.no g hq e⟩⟩, fun ls x e hx => ⟨_, rfl, iteE ?_ ?_⟩⟩
      · obtain ⟨z, rfl, _⟩ := Dt.linesI hx
        rfl
      · refine ⟨_, rfl, .inl ⟨rfl, _, .inl (.inl upd_same)⟩, _, rfl, B, _, _, rfl, rfl, upd_same, smallt (m := 20) ?_, ?_⟩
        · rw [List.length_map]
          omega
        · refine ⟨_, _, _, _, inside F q ++ [q], rfl, same_mut s2 (s1.free hB), ?_, AtOk.yes g hq e⟩
          rw [upd_same, List.map_append]
          rfl
    · rintro σ' H2 ⟨v4, v5, v6, v7, ks, rfl, s3, hl, hk⟩
      have hkl := hk.len
      refine ⟨small (m := 0) (Nat.le_refl 0), fun C hC => ?_⟩
      have hCB : B ≠ C := ne_of_none hl hC
      refine ⟨_, rfl, B, ks, rfl, .inl (.inl ((upd_ne hCB).trans hl)), by omega, fun ys c hp so hc => ?_⟩
      cases hk.sorted hp so
      refine ⟨c, rfl, ⟨_, .inl (.inl upd_same)⟩, ?_⟩
      have s4 : Same H2 (upd (upd H2 C (.lst [])) c (.lst ((atOrIn F q).map V.str))) := (same_new hC).trans (same_new hc)
      have hcC : c ≠ C := fun z => by rw [z, upd_same] at hc; cases hc
      refine for_list (xs := (atOrIn F q).map V.str) (fun i σ H' => ∃ v5 v6 v7 zs, σ = [some v, some (.str q), some (.str wd), some (.ref B), some (.ref C), v5, v6, v7] ∧ Same H H' ∧ H' C = some (.lst zs) ∧ H' c = some (.lst ((atOrIn F q).map V.str)) ∧ DtAll K H' zs ((((atOrIn F q).take i).flatMap fun p => rowsOf p wd ((F p).getD [])).map dRow)) ⟨_, _, _, [], rfl, s3.trans s4, ?_, upd_same, .nil⟩ (fun i σ H' _ ⟨_, _, _, _, _, _, _, q, _⟩ => .inl (.inl q)) ?_ ?_
      · rw [upd_ne (Ne.symm hcC), upd_same]
      · rintro i y σ H3 hi ⟨v5, v6, v7, zs, rfl, s5, hlC, hlc, hz⟩
        rw [List.getElem?_map] at hi
        obtain ⟨p, hp, rfl⟩ := Option.map_eq_some_iff.mp hi
        obtain ⟨ls, hF⟩ := keys_get (List.mem_filter.mp (List.mem_of_getElem? hp)).1
        have gls := (g.one p ls hF).2
        have hi10 : i < 10 := by
          have := (List.getElem?_eq_some_iff.mp hp).1
          have := List.length_filter_le (fun p => isInB p q || decide (p = q)) (keys F)
          have := keys_len F
          unfold atOrIn at *
          omega
        refine ⟨_, rfl, .inl ⟨rfl, _, .inl (.inl hlC)⟩, _, rfl, a, dx, _, ev, s5 _ _ h1, hfs _ (by decide +kernel), _, rfl, v, D, F, p, rfl, tr.same s5, fun e => ?_, fun ls' x e hx => ?_⟩
        · rw [hF] at e
          cases e
        cases hF.symm.trans e
        obtain ⟨t, rfl, ht⟩ := Dt.linesI hx
        refine ⟨t, _, rfl, ht.sq, fun B2 hB2 => lc_it walk_enumT (fun j H' => Same H3 H' ∧ ∃ us, H' B2 = some (.lst us) ∧ DtAll K H' us ((((List.range ls.length).take j).filter fun k => inLine wd (ls.getD k "")).map fun k => dRow (p, k))) ⟨same_new hB2, [], upd_same, .nil⟩ (fun j H' _ q => file_stt q.1 ht) ?_ ?_⟩
        · rintro j y H4 H5 hj ⟨s6, us, hlu, hu⟩ ⟨T2, i0, y0, rfl, hT, rfl, e1, e2⟩
          cases e1
          rw [List.length_map] at hj
          replace e2 : (ls.map V.str)[j]? = some y0 := e2
          rw [List.getElem?_map] at e2
          obtain ⟨l0, hl0, rfl⟩ := Option.map_eq_some_iff.mp e2
          have hj12 := gls.1
          have hrg : (List.range ls.length)[j]? = some j := List.getElem?_range hj
          have tf := take_filter (fun k => inLine wd (ls.getD k "")) hrg
          have hgd : ls.getD j "" = l0 := by
            rw [List.getD_eq_getElem?_getD, hl0]
            rfl
          rw [hgd] at tf
          have s7 : Same H4 (upd H4 T2 (.tup [.int (j : Nat), .str l0])) := same_new hT
          refine ⟨T2, _, rfl, .inl (.inl upd_same), rfl, _, _, rfl, _, _, rfl, rfl, rfl, _, rfl, _, rfl, _, _, rfl, rfl, _, rfl, ?_⟩
          cases eb : inLine wd l0 with
          | true =>
            rw [eb] at tf
            refine iteE eb ⟨_, rfl, _, rfl, small (m := 2) (Nat.le_refl 2), fun t2 ht2 => ⟨us, ?_, smallt (m := 20) ?_, same_mut ((s6.trans s7).trans (same_new ht2)) hB2, _, upd_same, ?_⟩⟩
            · rw [upd_ne (ne_of_none (s7 _ _ hlu) ht2)]
              exact s7 _ _ hlu
            · rw [hu.length, List.length_map]
              exact filter_le (by rw [List.length_range]; omega)
            · rw [tf, List.map_append]
              have t3 : TX (upd (upd H4 T2 (.tup [.int (j : Nat), .str l0])) t2 (.tup [.str p, .int (j : Nat)])) (upd (upd (upd H4 T2 (.tup [.int (j : Nat), .str l0])) t2 (.tup [.str p, .int (j : Nat)])) B2 (.lst (us ++ [.ref t2]))) := tx_upd (by
                rw [upd_ne (ne_of_none (s7 _ _ hlu) ht2), s7 _ _ hlu]
                rfl)
              refine DtAll.snoc ((hu.same (s7.trans (same_new ht2))).tx t3) ?_
              exact (Dt.two upd_same (.str p) (.int _)).tx t3
          | false =>
            rw [eb] at tf
            refine iteEn eb ⟨s6.trans s7, us, s7 _ _ hlu, ?_⟩
            rw [tf, if_neg (by decide), List.append_nil]
            exact hu.same s7
        · rintro H4 ⟨s6, us, hlu, hu⟩
          rw [List.length_map, List.take_of_length_le (by rw [List.length_range]; exact Nat.le_refl _)] at hu
          have er : ((List.range ls.length).filter fun k => inLine wd (ls.getD k "")).map (fun k => dRow (p, k)) = (rowsOf p wd ls).map dRow := by
            unfold rowsOf
            rw [List.map_map]
            rfl
          rw [er] at hu
          have hzl : zs.length ≤ 120 := by
            rw [hz.length, List.length_map]
            exact fl_len g (by omega)
          have hul : us.length ≤ 12 := by
            rw [hu.length, List.length_map]
            exact Nat.le_trans (rows_len p wd ls) gls.1
          refine ⟨C, B2, zs, us, rfl, rfl, s6 _ _ hlC, hlu, small (m := 200) (by omega), ?_⟩
          have t4 : TX H4 (upd H4 C (.lst (zs ++ us))) := tx_upd (by rw [s6 _ _ hlC]; rfl)
          have hCn : H C = none := s3.free hC
          refine ⟨_, _, _, zs ++ us, rfl, same_mut (s5.trans s6) hCn, upd_same, ?_, ?_⟩
          · rw [upd_ne hcC]
            exact s6 _ _ hlc
          · rw [List.take_succ, hp, List.flatMap_append, List.map_append]
            refine DtAll.append ((hz.same s6).tx t4) ?_
            have e3 : ((some p).toList.flatMap fun p => rowsOf p wd ((F p).getD [])) = rowsOf p wd ls := by
              show [p].flatMap _ = _
              rw [List.flatMap_cons, List.flatMap_nil, List.append_nil, hF]
              rfl
            rw [e3]
            exact hu.tx t4
      · rintro σ H3 ⟨v5, v6, v7, zs, rfl, s5, hlC, hlc, hz⟩
        rw [List.length_map, List.take_length] at hz
        refine ⟨_, rfl, C, zs, rfl, .inl ⟨.inl (.inl hlC), fun l hl' => ?_⟩⟩
        have s6 : Same H3 (upd H3 l (.tup zs)) := same_new hl'
        exact k _ l zs (s5.trans s6) upd_same (hz.same s6)
end
end Sa
/-! text D10 -/
/-! actions.py: what is asked -/
namespace Sa
open PySem PySem.Spec L2 PyProof.Rows
section
variable {P : Program} {w : World} {K : PySem.W.Frag} {mg : Str → Option Value} {base : Heap}
theorem sl2 {H : Hp} {a : Addr} {x y : V} {r : List V} {Q : VK} (h : St1 K H a (x :: y :: r)) (k : ∀ c H', Same H H' → St1 K H' c [x, y] → Q (.ref c) H') : rSlA K (.ref a) none (some 2) H Q := by
  have e2 : HT.sIx (x :: y :: r).length (x :: y :: r).length (some 2) = 2 := by
    show HT.sIx (r.length + 2) (r.length + 2) (some ((2 : Nat) : Int)) = 2
    rw [HT.sIx_nat]
    omega
  refine ⟨a, _, rfl, h.sq, fun hw => ?_, fun hw p hp => ?_⟩
  · refine k a H (Same.refl H) ?_
    have hl := hw.2
    rw [e2] at hl
    have e3 : r = [] := List.length_eq_zero_iff.mp (by simp only [List.length_cons] at hl; omega)
    rw [e3] at h
    exact h
  · refine k p _ (same_new hp) (.inl ?_)
    rw [upd_same]
    unfold cutV
    rw [e2]
    rfl
theorem dNONE (T : Tx K mg) {H : Hp} : Dt K H (.ref (He.ga K "NONE")) (dR .none) := .tup (.inr fun H' => T.tup 70 rfl H') (.cons (.str _) .nil)
theorem dDONE (T : Tx K mg) {H : Hp} : Dt K H (.ref (He.ga K "DONE")) (dR .done) := .tup (.inr fun H' => T.tup 72 rfl H') (.cons (.str _) .nil)
def spAsk (K : PySem.W.Frag) : Sp := fun vs H Q _ => ∃ (v x : V) (D : List Addr) (F : Files) (a : Act), vs = [v, x] ∧ TrAt K (CT K) D H v F ∧ GoodF F ∧ Dt K H x (dA a) ∧ GoodA a ∧ isQ a = true ∧ ∀ H' y, Same H H' → Dt K H' y (dR (told F a)) → Q y H'
theorem sc_ask : FnScope ["tree", "action", "word", "place", "lines", "is_file"] ["tree", "action"] (defScope s_ask) := ⟨rfl, rfl, rfl, by decide +kernel, rfl, by decide +kernel, by decide +kernel⟩
theorem cal_ask (T : Tx K mg) : Cal P w K mg base 4 "_ask" (spAsk K) := by
  refine T.cal 23 15 (f_at (x := "_ask") rfl) (g_at rfl) (N := ["tree", "action", "word", "place", "lines", "is_file"]) (ps := ["tree", "action"]) (fun _ _ _ _ _ _ us hl => match us, hl with | [_, _], _ => rfl) sc_ask (fun vs H Q E h => ?_) (fun f cdv A outer s H vs Q E hr h => ?_)
  · obtain ⟨v, x, D, F, q, rfl, _⟩ := h
    rfl
  · obtain ⟨v, x, D, F, act, rfl, tr, g, hx, ga, iq, k⟩ := h
    obtain ⟨a, dx, fs, ev, h1, hfs⟩ := tr.ins
    refine ⟨_, pss_cons (ps_asg (pe_slice sl_tupA (pv 1) (po_none) (po_some (pe_int))) (pg_tup rfl (pgs_cons (pg_name (i := 2) sc_ask.nd rfl (by first | exact Or.inl rfl | exact Or.inr rfl)) (pgs_cons (pg_name (i := 3) sc_ask.nd rfl (by first | exact Or.inl rfl | exact Or.inr rfl)) (pgs_nil))))) (pss_cons (ps_if (pt_cmpR op_eq (pv 2) (pe_str) (nomark _)) (pss_cons (ps_set (i := 4) sc_ask.nd rfl (by first | exact Or.inl rfl | exact Or.inr rfl) (pe_mt (met_Tree_lines T) hr (by decide) (pv 0) (pa_cons (pv 3) pa_nil))) (pss_one (ps_ret (pe_ifExp (pt_cmp (pc_isN (pv 4))) (pe_gc rfl (T.gref 69)) (pe_tup (pa_cons (pe_str) (pa_cons (pv 4) pa_nil))))))) (pss_nil)) (pss_cons (ps_set (i := 5) sc_ask.nd rfl (by first | exact Or.inl rfl | exact Or.inr rfl) (pe_cmp (pc_notN (pe_mt (met_Tree_lines T) hr (by decide) (pv 0) (pa_cons (pv 3) pa_nil))) rfl)) (pss_cons (ps_if (PW.pt (pw_and (pt_cmpR op_eq (pv 2) (pe_str) (nomark _)) (pw_and1 (pt_val (pv 5))))) (pss_one (ps_ret (pe_tup (pa_cons (pe_str) pa_nil)))) (pss_nil)) (pss_cons (ps_if (PW.pt (pw_and (pt_cmpR op_eq (pv 2) (pe_str) (nomark _)) (pw_and1 (pt_val (pv 5))))) (pss_one (ps_ret (pe_tup (pa_cons (pe_str) (pa_cons (pe_c (cal_rows T) hr (by decide) rfl (pa_cons (pv 0) (pa_cons (pv 3) (pa_cons (pe_ix ix_tup (pv 1) (pe_int) (fun _ _ => rfl)) pa_nil)))) pa_nil))))) (pss_nil)) (pss_cons (ps_if (pt_not (pt_val (pe_mt (met_Tree_is_folder T) hr (by decide) (pv 0) (pa_cons (pv 3) pa_nil)))) (pss_one (ps_ret (pe_gc rfl (T.gref 69)))) (pss_nil)) (pss_cons (ps_if (pt_cmpR op_eq (pv 2) (pe_str) (nomark _)) (pss_one (ps_ret (pe_tup (pa_cons (pe_str) pa_nil)))) (pss_nil)) (pss_cons (ps_if (pt_cmpR op_eq (pv 2) (pe_str) (nomark _)) (pss_one (ps_ret (pe_tup (pa_cons (pe_str) (pa_cons (pe_c (cal_rows T) hr (by decide) rfl (pa_cons (pv 0) (pa_cons (pv 3) (pa_cons (pe_ix ix_tup (pv 1) (pe_int) (fun _ _ => rfl)) pa_nil)))) pa_nil))))) (pss_nil)) (pss_cons (ps_if (pt_cmpR op_eq (pv 2) (pe_str) (nomark _)) (pss_one (ps_ret (pe_tup (pa_cons (pe_str) (pa_cons (pe_callB call_len_seq (by rfl) (T.free 85) bv_len (pa_cons (pe_mt (met_Tree_paths T) hr (by decide) (pv 0) (pa_cons (pv 3) pa_nil)) pa_nil)) pa_nil))))) (pss_nil)) (pss_one (ps_ret (pe_tup (pa_cons (pe_str) (pa_cons (pe_c (cal_names T) hr (by decide) rfl (pa_cons (pv 0) (pa_cons (pv 3) pa_nil))) pa_nil))))))))))))), ?_⟩
    cases act with
    | read q =>
      obtain ⟨t, x1, x2, rfl, hs, e1, e2⟩ := hx.twoI
      cases e1.strI
      cases e2.strI
      refine ⟨_, rfl, _, rfl, ?_⟩
      refine sl2 hs fun c H1 s1 hc => ⟨c, _, rfl, hc.sq, rfl, _, _, rfl, _, _, rfl, rfl, ?_⟩
      refine ⟨_, rfl, rfl, _, rfl, iteP (by decide +kernel) ⟨_, rfl, a, dx, _, ev, s1 _ _ h1, hfs _ (by decide +kernel), _, rfl, v, D, F, q, rfl, tr.same s1, fun e => ?_, fun ls x e hx => ?_⟩⟩
      · have et : dR (told F (.read q)) = dR .none := by simp only [told, e]
        exact ⟨_, rfl, _, rfl, iteP rfl (k H1 _ s1 (by rw [et]; exact dNONE T))⟩
      · have et : dR (told F (.read q)) = .tuple [.str "lines", dL ls] := by simp only [told, e, dR]
        refine ⟨_, rfl, _, rfl, iteN ?_ ⟨_, rfl, small (m := 2) (Nat.le_refl 2), fun t2 ht2 => k _ _ (s1.trans (same_new ht2)) ?_⟩⟩
        · obtain ⟨z, rfl, _⟩ := Dt.linesI hx
          exact V.noConfusion
        · rw [et]
          exact Dt.two upd_same (.str _) (hx.same (same_new ht2))
    | kind q =>
      obtain ⟨t, x1, x2, rfl, hs, e1, e2⟩ := hx.twoI
      cases e1.strI
      cases e2.strI
      refine ⟨_, rfl, _, rfl, ?_⟩
      refine sl2 hs fun c H1 s1 hc => ⟨c, _, rfl, hc.sq, rfl, _, _, rfl, _, _, rfl, rfl, ?_⟩
      refine ⟨_, rfl, rfl, _, rfl, iteN (by decide +kernel) ⟨_, rfl, a, dx, _, ev, s1 _ _ h1, hfs _ (by decide +kernel), _, rfl, v, D, F, q, rfl, tr.same s1, fun e => ?_, fun ls x e hx => ?_⟩⟩
      · refine ⟨_, rfl, rfl, _, rfl, ?_⟩
        refine iteP (by decide +kernel) ⟨_, rfl, _, rfl, iteEn rfl ?_⟩
        refine ⟨_, rfl, rfl, _, rfl, iteN (by decide +kernel) (iteEn rfl ?_)⟩
        refine ⟨_, rfl, a, dx, _, ev, s1 _ _ h1, hfs _ (by decide +kernel), _, rfl, v, D, F, q, rfl, tr.same s1, g, p11_len ga, fun H2 s2 => ⟨_, rfl, ?_⟩⟩
        cases fb : folderB F q with
        | false =>
          have et : dR (told F (.kind q)) = dR .none := by simp only [told, e, fb, Option.isSome_none]; rfl
          refine iteE rfl (k H2 _ (s1.trans s2) (by rw [et]; exact dNONE T))
        | true =>
          have et : dR (told F (.kind q)) = dR .folder := by simp only [told, e, fb, Option.isSome_none]; rfl
          refine iteEn rfl ⟨_, rfl, rfl, _, rfl, iteP (by decide +kernel) ⟨small (m := 1) (Nat.le_refl 1), fun t2 ht2 => k _ _ ((s1.trans s2).trans (same_new ht2)) ?_⟩⟩
          rw [et]
          exact Dt.one upd_same (.str _)
      · have hn : (!decide (x = V.non)) = true := by
          obtain ⟨z, rfl, _⟩ := Dt.linesI hx
          rfl
        refine ⟨_, rfl, rfl, _, rfl, ?_⟩
        have et : dR (told F (.kind q)) = dR .file := by simp only [told, e]; rfl
        refine iteP (by decide +kernel) ⟨_, rfl, _, rfl, iteE hn ⟨small (m := 1) (Nat.le_refl 1), fun t2 ht2 => k _ _ (s1.trans (same_new ht2)) ?_⟩⟩
        rw [et]
        exact Dt.one upd_same (.str _)
    | list q =>
      obtain ⟨t, x1, x2, rfl, hs, e1, e2⟩ := hx.twoI
      cases e1.strI
      cases e2.strI
      refine ⟨_, rfl, _, rfl, ?_⟩
      refine sl2 hs fun c H1 s1 hc => ⟨c, _, rfl, hc.sq, rfl, _, _, rfl, _, _, rfl, rfl, ?_⟩
      refine ⟨_, rfl, rfl, _, rfl, iteN (by decide +kernel) ⟨_, rfl, a, dx, _, ev, s1 _ _ h1, hfs _ (by decide +kernel), _, rfl, v, D, F, q, rfl, tr.same s1, fun e => ?_, fun ls x e hx => ?_⟩⟩
      · refine ⟨_, rfl, rfl, _, rfl, ?_⟩
        refine iteN (by decide +kernel) (iteEn rfl ?_)
        refine ⟨_, rfl, rfl, _, rfl, iteN (by decide +kernel) (iteEn rfl ?_)⟩
        refine ⟨_, rfl, a, dx, _, ev, s1 _ _ h1, hfs _ (by decide +kernel), _, rfl, v, D, F, q, rfl, tr.same s1, g, p11_len ga, fun H2 s2 => ⟨_, rfl, ?_⟩⟩
        cases fb : folderB F q with
        | false =>
          have et : dR (told F (.list q)) = dR .none := by simp only [told, fb]; rfl
          refine iteE rfl (k H2 _ (s1.trans s2) (by rw [et]; exact dNONE T))
        | true =>
          have et : dR (told F (.list q)) = .tuple [.str "names", dL (names F q)] := by simp only [told, fb, dR]; rfl
          refine iteEn rfl ⟨_, rfl, rfl, _, rfl, iteN (by decide +kernel) ⟨_, rfl, rfl, _, rfl, iteN (by decide +kernel) ⟨_, rfl, rfl, _, rfl, iteN (by decide +kernel) ?_⟩⟩⟩
          refine ⟨_, rfl, _, rfl, v, D, F, q, rfl, tr.same (s1.trans s2), g, ga, fun H3 b s3 hb => ⟨small (m := 2) (Nat.le_refl 2), fun t2 ht2 => k _ _ (((s1.trans s2).trans s3).trans (same_new ht2)) ?_⟩⟩
          rw [et]
          exact Dt.two upd_same (.str _) ((Dt.lines hb).same (same_new ht2))
      · have hn : (!decide (x = V.non)) = true := by
          obtain ⟨z, rfl, _⟩ := Dt.linesI hx
          rfl
        refine ⟨_, rfl, rfl, _, rfl, ?_⟩
        refine iteN (by decide +kernel) (iteEn rfl ?_)
        refine ⟨_, rfl, rfl, _, rfl, iteN (by decide +kernel) (iteEn rfl ?_)⟩
        refine ⟨_, rfl, a, dx, _, ev, s1 _ _ h1, hfs _ (by decide +kernel), _, rfl, v, D, F, q, rfl, tr.same s1, g, p11_len ga, fun H2 s2 => ⟨_, rfl, ?_⟩⟩
        cases fb : folderB F q with
        | false =>
          have et : dR (told F (.list q)) = dR .none := by simp only [told, fb]; rfl
          refine iteE rfl (k H2 _ (s1.trans s2) (by rw [et]; exact dNONE T))
        | true =>
          have et : dR (told F (.list q)) = .tuple [.str "names", dL (names F q)] := by simp only [told, fb, dR]; rfl
          refine iteEn rfl ⟨_, rfl, rfl, _, rfl, iteN (by decide +kernel) ⟨_, rfl, rfl, _, rfl, iteN (by decide +kernel) ⟨_, rfl, rfl, _, rfl, iteN (by decide +kernel) ?_⟩⟩⟩
          refine ⟨_, rfl, _, rfl, v, D, F, q, rfl, tr.same (s1.trans s2), g, ga, fun H3 b s3 hb => ⟨small (m := 2) (Nat.le_refl 2), fun t2 ht2 => k _ _ (((s1.trans s2).trans s3).trans (same_new ht2)) ?_⟩⟩
          rw [et]
          exact Dt.two upd_same (.str _) ((Dt.lines hb).same (same_new ht2))
    | count q =>
      obtain ⟨t, x1, x2, rfl, hs, e1, e2⟩ := hx.twoI
      cases e1.strI
      cases e2.strI
      refine ⟨_, rfl, _, rfl, ?_⟩
      refine sl2 hs fun c H1 s1 hc => ⟨c, _, rfl, hc.sq, rfl, _, _, rfl, _, _, rfl, rfl, ?_⟩
      refine ⟨_, rfl, rfl, _, rfl, iteN (by decide +kernel) ⟨_, rfl, a, dx, _, ev, s1 _ _ h1, hfs _ (by decide +kernel), _, rfl, v, D, F, q, rfl, tr.same s1, fun e => ?_, fun ls x e hx => ?_⟩⟩
      · refine ⟨_, rfl, rfl, _, rfl, ?_⟩
        refine iteN (by decide +kernel) (iteEn rfl ?_)
        refine ⟨_, rfl, rfl, _, rfl, iteN (by decide +kernel) (iteEn rfl ?_)⟩
        refine ⟨_, rfl, a, dx, _, ev, s1 _ _ h1, hfs _ (by decide +kernel), _, rfl, v, D, F, q, rfl, tr.same s1, g, p11_len ga, fun H2 s2 => ⟨_, rfl, ?_⟩⟩
        cases fb : folderB F q with
        | false =>
          have et : dR (told F (.count q)) = dR .none := by simp only [told, fb]; rfl
          refine iteE rfl (k H2 _ (s1.trans s2) (by rw [et]; exact dNONE T))
        | true =>
          have et : dR (told F (.count q)) = .tuple [.str "many", .int ((inside F q).length : Int)] := by simp only [told, fb, dR]; rfl
          refine iteEn rfl ⟨_, rfl, rfl, _, rfl, iteN (by decide +kernel) ⟨_, rfl, rfl, _, rfl, iteN (by decide +kernel) ⟨_, rfl, rfl, _, rfl, iteP (by decide +kernel) ?_⟩⟩⟩
          refine ⟨_, rfl, a, dx, _, ev, (s1.trans s2) _ _ h1, hfs _ (by decide +kernel), _, rfl, v, D, F, q, rfl, tr.same (s1.trans s2), g, p11_len ga, fun H3 b s3 hb => ⟨b, _, rfl, .inr (.inl (.inl hb)), ⟨small (m := 2) (Nat.le_refl 2), fun t2 ht2 => k _ _ (((s1.trans s2).trans s3).trans (same_new ht2)) ?_⟩⟩⟩
          rw [et, List.length_map]
          exact Dt.two upd_same (.str _) (.int _)
      · have hn : (!decide (x = V.non)) = true := by
          obtain ⟨z, rfl, _⟩ := Dt.linesI hx
          rfl
        refine ⟨_, rfl, rfl, _, rfl, ?_⟩
        refine iteN (by decide +kernel) (iteEn rfl ?_)
        refine ⟨_, rfl, rfl, _, rfl, iteN (by decide +kernel) (iteEn rfl ?_)⟩
        refine ⟨_, rfl, a, dx, _, ev, s1 _ _ h1, hfs _ (by decide +kernel), _, rfl, v, D, F, q, rfl, tr.same s1, g, p11_len ga, fun H2 s2 => ⟨_, rfl, ?_⟩⟩
        cases fb : folderB F q with
        | false =>
          have et : dR (told F (.count q)) = dR .none := by simp only [told, fb]; rfl
          refine iteE rfl (k H2 _ (s1.trans s2) (by rw [et]; exact dNONE T))
        | true =>
          have et : dR (told F (.count q)) = .tuple [.str "many", .int ((inside F q).length : Int)] := by simp only [told, fb, dR]; rfl
          refine iteEn rfl ⟨_, rfl, rfl, _, rfl, iteN (by decide +kernel) ⟨_, rfl, rfl, _, rfl, iteN (by decide +kernel) ⟨_, rfl, rfl, _, rfl, iteP (by decide +kernel) ?_⟩⟩⟩
          refine ⟨_, rfl, a, dx, _, ev, (s1.trans s2) _ _ h1, hfs _ (by decide +kernel), _, rfl, v, D, F, q, rfl, tr.same (s1.trans s2), g, p11_len ga, fun H3 b s3 hb => ⟨b, _, rfl, .inr (.inl (.inl hb)), ⟨small (m := 2) (Nat.le_refl 2), fun t2 ht2 => k _ _ (((s1.trans s2).trans s3).trans (same_new ht2)) ?_⟩⟩⟩
          rw [et, List.length_map]
          exact Dt.two upd_same (.str _) (.int _)
    | find q wd =>
      obtain ⟨t, x1, x2, x3, rfl, hs, e1, e2, e3⟩ := hx.threeI
      cases e1.strI
      cases e2.strI
      cases e3.strI
      refine ⟨_, rfl, _, rfl, ?_⟩
      refine sl2 hs fun c H1 s1 hc => ⟨c, _, rfl, hc.sq, rfl, _, _, rfl, _, _, rfl, rfl, ?_⟩
      refine ⟨_, rfl, rfl, _, rfl, iteN (by decide +kernel) ⟨_, rfl, a, dx, _, ev, s1 _ _ h1, hfs _ (by decide +kernel), _, rfl, v, D, F, q, rfl, tr.same s1, fun e => ?_, fun ls x e hx => ?_⟩⟩
      · refine ⟨_, rfl, rfl, _, rfl, ?_⟩
        refine iteN (by decide +kernel) (iteEn rfl ?_)
        refine ⟨_, rfl, rfl, _, rfl, iteP (by decide +kernel) ⟨_, rfl, _, rfl, iteEn rfl ?_⟩⟩
        refine ⟨_, rfl, a, dx, _, ev, s1 _ _ h1, hfs _ (by decide +kernel), _, rfl, v, D, F, q, rfl, tr.same s1, g, p11_len ga.1, fun H2 s2 => ⟨_, rfl, ?_⟩⟩
        cases fb : folderB F q with
        | false =>
          have et : dR (told F (.find q wd)) = dR .none := by simp only [told, e, fb, Option.isSome_none]; rfl
          refine iteE rfl (k H2 _ (s1.trans s2) (by rw [et]; exact dNONE T))
        | true =>
          have et : dR (told F (.find q wd)) = .tuple [.str "found", .tuple ((found F q wd).map dRow)] := by simp only [told, fb, Bool.or_true, dR]; rfl
          refine iteEn rfl ⟨_, rfl, rfl, _, rfl, iteN (by decide +kernel) ⟨_, rfl, rfl, _, rfl, iteP (by decide +kernel) ?_⟩⟩
          refine ⟨_, rfl, _, rfl, _, rfl, t, _, 2, _, rfl, rfl, file_stt (s1.trans s2) hs, rfl, v, D, F, q, wd, rfl, tr.same (s1.trans s2), g, ga.1, ga.2, fun H3 b xs s3 hb hd => ⟨small (m := 2) (Nat.le_refl 2), fun t2 ht2 => k _ _ (((s1.trans s2).trans s3).trans (same_new ht2)) ?_⟩⟩
          rw [et]
          exact Dt.two upd_same (.str _) ((Dt.new hb hd).same (same_new ht2))
      · have hn : (!decide (x = V.non)) = true := by
          obtain ⟨z, rfl, _⟩ := Dt.linesI hx
          rfl
        refine ⟨_, rfl, rfl, _, rfl, ?_⟩
        have et : dR (told F (.find q wd)) = .tuple [.str "found", .tuple ((found F q wd).map dRow)] := by simp only [told, e, Option.isSome_some, Bool.true_or, dR]; rfl
        refine iteN (by decide +kernel) (iteEn rfl ?_)
        refine ⟨_, rfl, rfl, _, rfl, iteP (by decide +kernel) ⟨_, rfl, _, rfl, iteE hn ?_⟩⟩
        refine ⟨_, rfl, _, rfl, _, rfl, t, _, 2, _, rfl, rfl, file_stt s1 hs, rfl, v, D, F, q, wd, rfl, tr.same s1, g, ga.1, ga.2, fun H3 b xs s3 hb hd => ⟨small (m := 2) (Nat.le_refl 2), fun t2 ht2 => k _ _ ((s1.trans s3).trans (same_new ht2)) ?_⟩⟩
        rw [et]
        exact Dt.two upd_same (.str _) ((Dt.new hb hd).same (same_new ht2))
    | write => cases iq
    | remove => cases iq
    | move => cases iq
    | splice => cases iq
end
end Sa
/-! text D11 -/
/-! actions.py: what changes -/
namespace Sa
open PySem PySem.Spec L2 PyProof.Rows
section
variable {P : Program} {w : World} {K : PySem.W.Frag} {mg : Str → Option Value} {base : Heap}
/-- a pair of an answer and a tree is given back -/
def ResQ (K : PySem.W.Frag) (D : List Addr) (H : Hp) (Q : VK) (o : Ans × Files) : Prop := ∀ H' a y t, Same H H' → H' a = some (.tup [y, t]) → Dt K H' y (dR o.1) → TrAt K (CT K) D H' t o.2 → Q (.ref a) H'
theorem ResQ.word {D : List Addr} {H H1 : Hp} {Q : VK} {o : Ans × Files} {v : V} {x : Str} {c r : Addr} (k : ResQ K D H Q o) (s : Same H H1) (e : dR o.1 = .tuple [.str x]) (hc : H1 c = none) (t : TrAt K (CT K) D H v o.2) (hr : upd H1 c (.tup [.str x]) r = none) :
    Q (.ref r) (upd (upd H1 c (.tup [.str x])) r (.tup [.ref c, v])) := by
  have s1 : Same H1 (upd H1 c (.tup [.str x])) := same_new hc
  have s2 : Same (upd H1 c (.tup [.str x])) (upd (upd H1 c (.tup [.str x])) r (.tup [.ref c, v])) := same_new hr
  refine k _ r _ _ (s.trans (s1.trans s2)) upd_same ?_ (t.same (s.trans (s1.trans s2)))
  rw [e]
  exact (Dt.one upd_same (.str x)).same s2
theorem ResQ.done {D : List Addr} {H H1 : Hp} {Q : VK} {o : Ans × Files} {v : V} {r : Addr} (T : Tx K mg) (k : ResQ K D H Q o) (s : Same H H1) (e : o.1 = .done) (t : TrAt K (CT K) D H1 v o.2) (hr : H1 r = none) :
    Q (.ref r) (upd H1 r (.tup [.ref (He.ga K "DONE"), v])) := by
  refine k _ r _ _ (s.trans (same_new hr)) upd_same ?_ (t.same (same_new hr))
  rw [e]
  exact dDONE T
def spWrite (K : PySem.W.Frag) : Sp := fun vs H Q _ => ∃ (v y : V) (D : List Addr) (F : Files) (p : Str) (ls : List Str), vs = [v, .str p, y] ∧ TrAt K (CT K) D H v F ∧ GoodF F ∧ Dok D H ∧ p ∈ P10 ∧ Dt K H y (dL ls) ∧ GoodLs ls ∧ ResQ K D H Q (actF F (.write p ls))
theorem sc_write : FnScope ["tree", "path", "lines"] ["tree", "path", "lines"] (defScope s_write) := ⟨rfl, rfl, rfl, by decide +kernel, rfl, by decide +kernel, by decide +kernel⟩
theorem cal_write (T : Tx K mg) : Cal P w K mg base 8 "_write" (spWrite K) := by
  refine T.cal 25 17 (f_at (x := "_write") rfl) (g_at rfl) (N := ["tree", "path", "lines"]) (ps := ["tree", "path", "lines"]) (fun _ _ _ _ _ _ us hl => match us, hl with | [_, _, _], _ => rfl) sc_write (fun vs H Q E h => ?_) (fun f cdv A outer s H vs Q E hr h => ?_)
  · obtain ⟨v, y, D, F, p, ls, rfl, _⟩ := h
    rfl
  · obtain ⟨v, y, D, F, p, ls, rfl, tr, g, ok, hp, hy, gl, k⟩ := h
    obtain ⟨a, dx, fs, ev, h1, hfs⟩ := tr.ins
    refine ⟨_, pss_cons (ps_if (pt_val (pe_c (cal_is_blocked T) hr (by decide) rfl (pa_cons (pv 0) (pa_cons (pv 1) pa_nil)))) (pss_one (ps_ret (pe_tup (pa_cons (pe_tup (pa_cons (pe_str) pa_nil)) (pa_cons (pv 0) pa_nil))))) (pss_nil)) (pss_cons (ps_if (PW.pt (pw_and (pt_cmp (pc_isN (pe_mt (met_Tree_lines T) hr (by decide) (pv 0) (pa_cons (pv 1) pa_nil)))) (pw_and1 (pt_cmpR op_eq (pe_callB call_len_seq (by rfl) (T.free 85) bv_len (pa_cons (pe_mt0 (met_Tree_files T) hr (by decide) (pv 0)) pa_nil)) (pe_gc rfl (T.gint 66)) (nomark _))))) (pss_one (ps_ret (pe_tup (pa_cons (pe_tup (pa_cons (pe_str) pa_nil)) (pa_cons (pv 0) pa_nil))))) (pss_nil)) (pss_one (ps_ret (pe_tup (pa_cons (pe_gc rfl (T.gref 71)) (pa_cons (pe_mt (met_Tree_with_file T) hr (by decide) (pv 0) (pa_cons (pv 1) (pa_cons (pv 2) pa_nil))) pa_nil)))))), ?_⟩
    refine ⟨_, rfl, _, rfl, v, D, F, p, rfl, tr, g, hp, fun H1 s1 => ⟨_, rfl, ?_⟩⟩
    cases hb : blockedB F p with
    | true =>
      have ea : actF F (.write p ls) = (.blocked, F) := by simp only [actF, hb, if_true]
      rw [ea] at k
      refine iteE rfl ⟨small (m := 1) (Nat.le_refl 1), fun c hc => ⟨_, rfl, small (m := 2) (Nat.le_refl 2), fun r hr2 => k.word (x := "blocked") s1 rfl hc tr hr2⟩⟩
    | false =>
      have hkl := keys_len F
      have ea : actF F (.write p ls) = (.done, put F p ls) := by
        have e20 : decide ((keys F).length = 20) = false := decide_eq_false (by omega)
        simp only [actF, hb, e20, Bool.and_false, if_false, Bool.false_eq_true]
      rw [ea] at k
      have gp := goodF_put g hp gl hb
      refine iteEn rfl ⟨_, rfl, a, dx, _, ev, s1 _ _ h1, hfs _ (by decide +kernel), _, rfl, v, D, F, p, rfl, tr.same s1, fun e => ?_, fun ls' x e hx => ?_⟩
      · refine ⟨_, rfl, iteE (by rfl) ?_⟩
        refine ⟨_, rfl, a, dx, _, ev, s1 _ _ h1, hfs _ (by decide +kernel), v, D, F, rfl, tr.same s1, g, fun H2 b xs s2 hb2 hd => ⟨b, xs, rfl, .inr (.inl (.inl hb2)), rfl, _, rfl, iteN ?_ ?_⟩⟩
        · intro z
          have z2 := V.int.inj z
          rw [hd.length, List.length_map] at z2
          omega
        · have s12 := s1.trans s2
          refine ⟨_, rfl, a, dx, _, ev, s12 _ _ h1, hfs _ (by decide +kernel), _, rfl, _, rfl, v, y, D, F, p, ls, rfl, tr.same s12, g, ok.same s12, hy.same s12, gp, fun H3 b2 s3 ht => ⟨small (m := 2) (Nat.le_refl 2), fun r hr2 => k.done T (s12.trans s3) rfl ht hr2⟩⟩
      · have hn : decide (x = V.non) = false := by
          obtain ⟨z, rfl, _⟩ := Dt.linesI hx
          rfl
        refine ⟨_, rfl, iteEn hn (iteEn rfl ?_)⟩
        refine ⟨_, rfl, a, dx, _, ev, s1 _ _ h1, hfs _ (by decide +kernel), _, rfl, _, rfl, v, y, D, F, p, ls, rfl, tr.same s1, g, ok.same s1, hy.same s1, gp, fun H3 b2 s3 ht => ⟨small (m := 2) (Nat.le_refl 2), fun r hr2 => k.done T (s1.trans s3) rfl ht hr2⟩⟩
end
end Sa
/-! text D12 -/
/-! actions.py: move, splice -/
namespace Sa
open PySem PySem.Spec L2 PyProof.Rows
section
variable {P : Program} {w : World} {K : PySem.W.Frag} {mg : Str → Option Value} {base : Heap}
def spMove (K : PySem.W.Frag) : Sp := fun vs H Q _ => ∃ (v : V) (D : List Addr) (F : Files) (p t : Str), vs = [v, .str p, .str t] ∧ TrAt K (CT K) D H v F ∧ GoodF F ∧ Dok D H ∧ p ∈ P10 ∧ t ∈ P10 ∧ ResQ K D H Q (actF F (.move p t))
theorem sc_move : FnScope ["tree", "path", "target", "lines", "rest"] ["tree", "path", "target"] (defScope s_move) := ⟨rfl, rfl, rfl, by decide +kernel, rfl, by decide +kernel, by decide +kernel⟩
theorem cal_move (T : Tx K mg) : Cal P w K mg base 8 "_move" (spMove K) := by
  refine T.cal 26 18 (f_at (x := "_move") rfl) (g_at rfl) (N := ["tree", "path", "target", "lines", "rest"]) (ps := ["tree", "path", "target"]) (fun _ _ _ _ _ _ us hl => match us, hl with | [_, _, _], _ => rfl) sc_move (fun vs H Q E h => ?_) (fun f cdv A outer s H vs Q E hr h => ?_)
  · obtain ⟨v, D, F, p, t, rfl, _⟩ := h
    rfl
  · obtain ⟨v, D, F, p, t, rfl, tr, g, ok, hp, ht, k⟩ := h
    obtain ⟨a, dx, fs, ev, h1, hfs⟩ := tr.ins
    refine ⟨_, pss_cons (ps_set (i := 3) sc_move.nd rfl (by first | exact Or.inl rfl | exact Or.inr rfl) (pe_mt (met_Tree_lines T) hr (by decide) (pv 0) (pa_cons (pv 1) pa_nil))) (pss_cons (ps_if (pt_cmp (pc_isN (pv 3))) (pss_one (ps_ret (pe_tup (pa_cons (pe_tup (pa_cons (pe_str) pa_nil)) (pa_cons (pv 0) pa_nil))))) (pss_nil)) (pss_cons (ps_set (i := 4) sc_move.nd rfl (by first | exact Or.inl rfl | exact Or.inr rfl) (pe_mt (met_Tree_without T) hr (by decide) (pv 0) (pa_cons (pv 1) pa_nil))) (pss_cons (ps_if (PW.pt (pw_or (pt_cmp (pc_notN (pe_mt (met_Tree_lines T) hr (by decide) (pv 4) (pa_cons (pv 2) pa_nil)))) (pw_or1 (pt_val (pe_c (cal_is_blocked T) hr (by decide) rfl (pa_cons (pv 4) (pa_cons (pv 2) pa_nil))))))) (pss_one (ps_ret (pe_tup (pa_cons (pe_tup (pa_cons (pe_str) pa_nil)) (pa_cons (pv 0) pa_nil))))) (pss_nil)) (pss_one (ps_ret (pe_tup (pa_cons (pe_gc rfl (T.gref 71)) (pa_cons (pe_mt (met_Tree_with_file T) hr (by decide) (pv 4) (pa_cons (pv 2) (pa_cons (pv 3) pa_nil))) pa_nil)))))))), ?_⟩
    refine ⟨_, rfl, a, dx, _, ev, h1, hfs _ (by decide +kernel), _, rfl, v, D, F, p, rfl, tr, fun e => ?_, fun ls x e hx => ?_⟩
    · have ea : actF F (.move p t) = (.missing, F) := by simp only [actF, e]
      rw [ea] at k
      exact ⟨_, rfl, _, rfl, iteE rfl ⟨small (m := 1) (Nat.le_refl 1), fun c hc => ⟨_, rfl, small (m := 2) (Nat.le_refl 2), fun r hr2 => k.word (x := "missing") (Same.refl H) rfl hc tr hr2⟩⟩⟩
    · have gl := (g.one p ls e).2
      have hn : decide (x = V.non) = false := by
        obtain ⟨z, rfl, _⟩ := Dt.linesI hx
        rfl
      refine ⟨_, rfl, _, rfl, iteEn hn ?_⟩
      refine ⟨_, rfl, a, dx, _, ev, h1, hfs _ (by decide +kernel), _, rfl, v, D, F, p, rfl, tr, g, ok, fun H1 b s1 tb => ?_⟩
      obtain ⟨b', dx2, fs2, ev2, h2, hfs2⟩ := tb.ins
      have gd := goodF_del g p
      have kb : blockedB (del F p) t = true → actF F (.move p t) = (.blocked, F) := fun hb => by simp only [actF, e, hb, Bool.or_true, if_true]
      refine ⟨_, rfl, b', dx2, _, ev2, h2, hfs2 _ (by decide +kernel), _, rfl, .ref b, D, del F p, t, rfl, tb, fun e2 => ?_, fun ls2 x2 e2 hx2 => ?_⟩
      · refine ⟨_, rfl, iteEn rfl ?_⟩
        refine ⟨_, rfl, _, rfl, .ref b, D, del F p, t, rfl, tb, gd, ht, fun H2 s2 => ⟨_, rfl, ?_⟩⟩
        cases hb : blockedB (del F p) t with
        | true =>
          rw [kb hb] at k
          exact iteE rfl ⟨small (m := 1) (Nat.le_refl 1), fun c hc => ⟨_, rfl, small (m := 2) (Nat.le_refl 2), fun r hr2 => k.word (x := "blocked") (s1.trans s2) rfl hc tr hr2⟩⟩
        | false =>
          have ea : actF F (.move p t) = (.done, put (del F p) t ls) := by simp only [actF, e, e2, hb, Option.isSome_none, Bool.or_false, if_false, Bool.false_eq_true]
          rw [ea] at k
          refine iteEn rfl ⟨_, rfl, b', dx2, _, ev2, s2 _ _ h2, hfs2 _ (by decide +kernel), _, rfl, _, rfl, .ref b, x, D, del F p, t, ls, rfl, tb.same s2, gd, ok.same (s1.trans s2), hx.same (s1.trans s2), goodF_put gd ht gl hb, fun H3 b2 s3 ht3 => ⟨small (m := 2) (Nat.le_refl 2), fun r hr2 => k.done T ((s1.trans s2).trans s3) rfl ht3 hr2⟩⟩
      · have hn2 : (!decide (x2 = V.non)) = true := by
          obtain ⟨z, rfl, _⟩ := Dt.linesI hx2
          rfl
        have ea : actF F (.move p t) = (.blocked, F) := by simp only [actF, e, e2, Option.isSome_some, Bool.true_or, if_true]
        rw [ea] at k
        exact ⟨_, rfl, iteE hn2 (iteE rfl ⟨small (m := 1) (Nat.le_refl 1), fun c hc => ⟨_, rfl, small (m := 2) (Nat.le_refl 2), fun r hr2 => k.word (x := "blocked") s1 rfl hc tr hr2⟩⟩)⟩
theorem slA_pre {H : Hp} {a : Addr} {ls : List Str} {i : Nat} {Q : VK} (ha : St1 K H a (ls.map .str)) (h : i ≤ ls.length)
    (k : ∀ c H', Same H H' → St1 K H' c ((ls.take i).map .str) → Q (.ref c) H') : rSlA K (.ref a) none (some (i : Int)) H Q := by
  refine ⟨a, _, rfl, ha.sq, fun hw => ?_, fun hw p hp => ?_⟩
  · refine k a H (Same.refl H) ?_
    have h2 := hw.2
    rw [HT.sIx_nat, List.length_map, Nat.min_eq_left h] at h2
    rw [h2, List.take_length]
    exact ha
  · refine k p _ (same_new hp) (.inl ?_)
    rw [upd_same]
    unfold cutV
    rw [HT.sIx_none, HT.sIx_nat, List.length_map, Nat.min_eq_left h, List.drop_zero, Nat.sub_zero, ← List.map_take]
theorem slA_suf {H : Hp} {a : Addr} {ls : List Str} {i m : Nat} {Q : VK} (ha : St1 K H a (ls.map .str)) (h : i + m ≤ ls.length)
    (k : ∀ c H', Same H H' → St1 K H' c ((ls.drop (i + m)).map .str) → Q (.ref c) H') : rSlA K (.ref a) (some ((i : Int) + (m : Int))) none H Q := by
  have e : (i : Int) + (m : Int) = ((i + m : Nat) : Int) := by omega
  rw [e]
  refine ⟨a, _, rfl, ha.sq, fun hw => ?_, fun hw p hp => ?_⟩
  · refine k a H (Same.refl H) ?_
    have h2 := hw.1
    rw [HT.sIx_nat, List.length_map, Nat.min_eq_left h] at h2
    rw [h2, List.drop_zero]
    exact ha
  · refine k p _ (same_new hp) (.inl ?_)
    rw [upd_same]
    unfold cutV
    rw [HT.sIx_none, HT.sIx_nat, List.length_map, Nat.min_eq_left h, ← List.map_drop, List.take_of_length_le (by rw [List.length_map, List.length_drop]; exact Nat.le_refl _)]
theorem catA_of {H : Hp} {a b : Addr} {xs ys : List Str} {Q : VK} (ha : St1 K H a (xs.map .str)) (hb : St1 K H b (ys.map .str)) (hz : xs.length + ys.length ≤ 100)
    (k : ∀ c H', Same H H' → St1 K H' c ((xs ++ ys).map .str) → Q (.ref c) H') : rCatA K (.ref a) (.ref b) H Q := by
  refine ⟨a, b, _, _, rfl, rfl, ha.sq, hb.sq, small (m := 100) (by rw [List.length_map, List.length_map]; exact hz), fun h => ?_, fun _ h => ?_, fun _ _ p hp => ?_⟩
  · refine k b H (Same.refl H) ?_
    rw [List.map_append, h]
    exact hb
  · refine k a H (Same.refl H) ?_
    rw [List.map_append, h, List.append_nil]
    exact ha
  · refine k p _ (same_new hp) (.inl ?_)
    rw [upd_same, List.map_append]
def spSplice (K : PySem.W.Frag) : Sp := fun vs H Q _ => ∃ (v x y : V) (D : List Addr) (F : Files) (p : Str) (old new : List Str), vs = [v, .str p, x, y] ∧ TrAt K (CT K) D H v F ∧ GoodF F ∧ Dok D H ∧ p ∈ P10 ∧ Dt K H x (dL old) ∧ GoodLs old ∧ old ≠ [] ∧ Dt K H y (dL new) ∧ GoodLs new ∧ ResQ K D H Q (actF F (.splice p old new))
theorem sc_splice : FnScope ["tree", "path", "old", "new", "lines", "places", "at"] ["tree", "path", "old", "new"] (defScope s_splice) := ⟨rfl, rfl, rfl, by decide +kernel, rfl, by decide +kernel, by decide +kernel⟩
theorem cal_splice (T : Tx K mg) : Cal P w K mg base 8 "_splice" (spSplice K) := by
  refine T.cal 27 19 (f_at (x := "_splice") rfl) (g_at rfl) (N := ["tree", "path", "old", "new", "lines", "places", "at"]) (ps := ["tree", "path", "old", "new"]) (fun _ _ _ _ _ _ us hl => match us, hl with | [_, _, _, _], _ => rfl) sc_splice (fun vs H Q E h => ?_) (fun f cdv A outer s H vs Q E hr h => ?_)
  · obtain ⟨v, x, y, D, F, p, old, new, rfl, _⟩ := h
    rfl
  · obtain ⟨v, x, y, D, F, p, old, new, rfl, tr, g, ok, hp, hx, go, gne, hy, gn, k⟩ := h
    obtain ⟨a, dx, fs, ev, h1, hfs⟩ := tr.ins
    obtain ⟨xa, rfl, hxs⟩ := Dt.linesI hx
    obtain ⟨ya, rfl, hys⟩ := Dt.linesI hy
    refine ⟨_, pss_cons (ps_set (i := 4) sc_splice.nd rfl (by first | exact Or.inl rfl | exact Or.inr rfl) (pe_mt (met_Tree_lines T) hr (by decide) (pv 0) (pa_cons (pv 1) pa_nil))) (pss_cons (ps_if (pt_cmp (pc_isN (pv 4))) (pss_one (ps_ret (pe_tup (pa_cons (pe_tup (pa_cons (pe_str) pa_nil)) (pa_cons (pv 0) pa_nil))))) (pss_nil)) (pss_cons (ps_set (i := 5) sc_splice.nd rfl (by first | exact Or.inl rfl | exact Or.inr rfl) (pe_c (cal_places_of T) hr (by decide) rfl (pa_cons (pv 4) (pa_cons (pv 2) pa_nil)))) (pss_cons (ps_if (pt_not (pt_truth (pv 5) (by intro _; rfl))) (pss_one (ps_ret (pe_tup (pa_cons (pe_tup (pa_cons (pe_str) pa_nil)) (pa_cons (pv 0) pa_nil))))) (pss_nil)) (pss_cons (ps_if (pt_cmpR op_gt (pe_callB call_len_seq (by rfl) (T.free 85) bv_len (pa_cons (pv 5) pa_nil)) (pe_int) (nomark _)) (pss_one (ps_ret (pe_tup (pa_cons (pe_tup (pa_cons (pe_str) pa_nil)) (pa_cons (pv 0) pa_nil))))) (pss_nil)) (pss_cons (ps_if (pt_cmpR op_gt (pe_op op_add (pe_op op_sub (pe_callB call_len_seq (by rfl) (T.free 85) bv_len (pa_cons (pv 4) pa_nil)) (pe_callB call_len_seq (by rfl) (T.free 85) bv_len (pa_cons (pv 2) pa_nil))) (pe_callB call_len_seq (by rfl) (T.free 85) bv_len (pa_cons (pv 3) pa_nil))) (pe_gc rfl (T.gint 62)) (nomark _)) (pss_one (ps_ret (pe_tup (pa_cons (pe_tup (pa_cons (pe_str) pa_nil)) (pa_cons (pv 0) pa_nil))))) (pss_nil)) (pss_cons (ps_set (i := 6) sc_splice.nd rfl (by first | exact Or.inl rfl | exact Or.inr rfl) (pe_ix ix_list (pv 5) (pe_int) (fun _ _ => rfl))) (pss_one (ps_ret (pe_tup (pa_cons (pe_gc rfl (T.gref 71)) (pa_cons (pe_mt (met_Tree_with_file T) hr (by decide) (pv 0) (pa_cons (pv 1) (pa_cons (pe_op op_catA (pe_op op_catA (pe_slice sl_tupA (pv 4) (po_none) (po_some (pv 6))) (pe_callTy call_tuple_of (by rfl) (T.free 89) bv_tuple (pa_cons (pv 3) pa_nil))) (pe_slice sl_tupA (pv 4) (po_some (pe_op op_add (pv 6) (pe_callB call_len_seq (by rfl) (T.free 85) bv_len (pa_cons (pv 2) pa_nil)))) (po_none))) pa_nil))) pa_nil))))))))))), ?_⟩
    refine ⟨_, rfl, a, dx, _, ev, h1, hfs _ (by decide +kernel), _, rfl, v, D, F, p, rfl, tr, fun e => ?_, fun ls z e hz => ?_⟩
    · have ea : actF F (.splice p old new) = (.missing, F) := by simp only [actF, e]
      rw [ea] at k
      exact ⟨_, rfl, _, rfl, iteE rfl ⟨small (m := 1) (Nat.le_refl 1), fun c hc => ⟨_, rfl, small (m := 2) (Nat.le_refl 2), fun r hr2 => k.word (x := "missing") (Same.refl H) rfl hc tr hr2⟩⟩⟩
    · have gl := (g.one p ls e).2
      obtain ⟨za, rfl, hzs⟩ := Dt.linesI hz
      refine ⟨_, rfl, _, rfl, iteEn rfl ?_⟩
      refine ⟨_, rfl, _, rfl, za, xa, ls, old, rfl, hzs, hxs, gl, go, fun H1 b s1 hb => ?_⟩
      have ea : actF F (.splice p old new) = spliced F p old new ls := by simp only [actF, e]
      rw [ea] at k
      have sp := fun i : Nat => places_lt (ls := ls) (part := old) (k := i)
      have l1 : (ls.map V.str).length = ls.length := List.length_map ..
      have l2 : (old.map V.str).length = old.length := List.length_map ..
      have l3 : (new.map V.str).length = new.length := List.length_map ..
      have g1 := gl.1
      have g2 := go.1
      have g3 := gn.1
      cases hpl : places ls old with
      | nil =>
        rw [hpl] at hb
        have ea : spliced F p old new ls = (.absent, F) := by simp only [spliced, hpl]
        rw [ea] at k
        exact ⟨_, rfl, false, (.inl ⟨_, .inl (.inl hb), rfl⟩), iteE rfl ⟨small (m := 1) (Nat.le_refl 1), fun c hc => ⟨_, rfl, small (m := 2) (Nat.le_refl 2), fun r hr2 => k.word (x := "absent") s1 rfl hc tr hr2⟩⟩⟩
      | cons i rs =>
        rw [hpl] at hb
        refine ⟨_, rfl, true, (.inl ⟨_, .inl (.inl hb), rfl⟩), iteEn rfl ?_⟩
        refine ⟨_, rfl, b, _, rfl, .inl (.inl (.inl hb)), _, _, rfl, rfl, _, rfl, ?_⟩
        cases rs with
        | cons i2 rs =>
          have ea : spliced F p old new ls = (.ambiguous, F) := by simp only [spliced, hpl, ne_eq, reduceCtorEq, not_false_eq_true, if_true]
          rw [ea] at k
          refine iteP (by rw [List.length_map, List.length_cons, List.length_cons]; omega) ⟨small (m := 1) (Nat.le_refl 1), fun c hc => ⟨_, rfl, small (m := 2) (Nat.le_refl 2), fun r hr2 => k.word (x := "ambiguous") s1 rfl hc tr hr2⟩⟩
        | nil =>
          refine iteN (by rw [List.length_map, List.length_cons, List.length_nil]; omega) ?_
          refine ⟨_, rfl, za, _, rfl, .inr (file_stt s1 hzs), _, rfl, xa, _, rfl, .inr (file_stt s1 hxs), _, _, rfl, rfl, _, rfl, ya, _, rfl, .inr (file_stt s1 hys), _, _, rfl, rfl, _, _, rfl, rfl, _, rfl, ?_⟩
          by_cases hlong : (12 : Int) < (ls.length : Int) - (old.length : Int) + (new.length : Int)
          · have ea : spliced F p old new ls = (.long, F) := by simp only [spliced, hpl, ne_eq, not_true_eq_false, if_false, if_pos hlong]
            rw [ea] at k
            refine iteP (by rw [l1, l2, l3]; exact hlong) ⟨small (m := 1) (Nat.le_refl 1), fun c hc => ⟨_, rfl, small (m := 2) (Nat.le_refl 2), fun r hr2 => k.word (x := "long") s1 rfl hc tr hr2⟩⟩
          · have ea : spliced F p old new ls = (.done, put F p (ls.take i ++ new ++ ls.drop (i + old.length))) := by simp only [spliced, hpl, ne_eq, not_true_eq_false, if_false, if_neg hlong]
            rw [ea] at k
            have hi := sp i (by rw [hpl]; exact List.mem_cons_self) gne
            have gnew := spliced_good gl gn hi.1 hlong
            refine iteN (by rw [l1, l2, l3]; exact hlong) ?_
            refine ⟨_, rfl, b, _, 0, _, rfl, rfl, .inl (.inl hb), at0, ?_⟩
            refine ⟨_, rfl, a, dx, _, ev, s1 _ _ h1, hfs _ (by decide +kernel), _, rfl, _, rfl, _, rfl, _, rfl, ?_⟩
            refine slA_pre (i := i) (hzs.tx (tx_same s1)) (by have := hi.1; omega) fun c2 H2 s2 hc2 => ⟨_, rfl, ya, _, rfl, .inr ⟨file_stt (s1.trans s2) hys, ?_⟩⟩
            refine catA_of hc2 (hys.tx (tx_same (s1.trans s2))) (by rw [List.length_take]; omega) fun c3 H3 s3 hc3 => ⟨_, rfl, _, rfl, _, rfl, xa, _, rfl, .inr (file_stt ((s1.trans s2).trans s3) hxs), _, _, rfl, rfl, _, rfl, ?_⟩
            rw [l2]
            delta tNoPart
            have s13 := (s1.trans s2).trans s3
            refine slA_suf (i := i) (m := old.length) (hzs.tx (tx_same s13)) hi.1 fun c4 H4 s4 hc4 => ?_
            refine catA_of (hc3.tx (tx_same s4)) hc4 (by rw [List.length_append, List.length_take, List.length_drop]; omega) fun c5 H5 s5 hc5 => ?_
            have s15 := (s13.trans s4).trans s5
            refine ⟨v, .ref c5, D, F, p, _, rfl, tr.same s15, g, ok.same s15, Dt.linesS hc5, goodF_over g e gnew, fun H6 b6 s6 ht6 => ⟨small (m := 2) (Nat.le_refl 2), fun r hr2 => k.done T (s15.trans s6) rfl ht6 hr2⟩⟩
end
end Sa
/-! text D13 -/
/-! actions.py: act -/
namespace Sa
open PySem PySem.Spec L2 PyProof.Rows
section
variable {P : Program} {w : World} {K : PySem.W.Frag} {mg : Str → Option Value} {base : Heap}
theorem act_q {F : Files} {a : Act} (h : isQ a = true) : actF F a = (told F a, F) := by
  cases a <;> first | rfl | cases h
def spAct (K : PySem.W.Frag) : Sp := fun vs H Q _ => ∃ (v x : V) (D : List Addr) (F : Files) (a : Act), vs = [v, x] ∧ TrAt K (CT K) D H v F ∧ GoodF F ∧ Dok D H ∧ Dt K H x (dA a) ∧ GoodA a ∧ ResQ K D H Q (actF F a)
theorem sc_act : FnScope ["tree", "action"] ["tree", "action"] (defScope s_act) := ⟨rfl, rfl, rfl, by decide +kernel, rfl, by decide +kernel, by decide +kernel⟩
theorem cal_act (T : Tx K mg) : Cal P w K mg base 9 "act" (spAct K) := by
  refine T.cal 28 20 (f_at (x := "act") rfl) (g_at rfl) (N := ["tree", "action"]) (ps := ["tree", "action"]) (fun _ _ _ _ _ _ us hl => match us, hl with | [_, _], _ => rfl) sc_act (fun vs H Q E h => ?_) (fun f cdv A outer s H vs Q E hr h => ?_)
  · obtain ⟨v, x, D, F, a, rfl, _⟩ := h
    rfl
  · obtain ⟨v, x, D, F, ac, rfl, tr, g, ok, hx, ga, k⟩ := h
    obtain ⟨a, dx, fs, ev, h1, hfs⟩ := tr.ins
    refine ⟨_, pss_cons (ps_expr (pe_c (cal_check_action T) hr (by decide) rfl (pa_cons (pv 1) pa_nil))) (pss_cons (ps_if (pt_val (pe_c (cal_is_question T) hr (by decide) rfl (pa_cons (pv 1) pa_nil))) (pss_one (ps_ret (pe_tup (pa_cons (pe_c (cal_ask T) hr (by decide) rfl (pa_cons (pv 0) (pa_cons (pv 1) pa_nil))) (pa_cons (pv 0) pa_nil))))) (pss_nil)) (pss_cons (ps_if (pt_cmpR op_eq (pe_ix ix_tup (pv 1) (pe_int) (fun _ _ => rfl)) (pe_str) (nomark _)) (pss_one (ps_ret (pe_c (cal_write T) hr (by decide) rfl (pa_cons (pv 0) (pa_cons (pe_ix ix_tup (pv 1) (pe_int) (fun _ _ => rfl)) (pa_cons (pe_ix ix_tup (pv 1) (pe_int) (fun _ _ => rfl)) pa_nil)))))) (pss_nil)) (pss_cons (ps_if (pt_cmpR op_eq (pe_ix ix_tup (pv 1) (pe_int) (fun _ _ => rfl)) (pe_str) (nomark _)) (pss_one (ps_ret (pe_c (cal_move T) hr (by decide) rfl (pa_cons (pv 0) (pa_cons (pe_ix ix_tup (pv 1) (pe_int) (fun _ _ => rfl)) (pa_cons (pe_ix ix_tup (pv 1) (pe_int) (fun _ _ => rfl)) pa_nil)))))) (pss_nil)) (pss_cons (ps_if (pt_cmpR op_eq (pe_ix ix_tup (pv 1) (pe_int) (fun _ _ => rfl)) (pe_str) (nomark _)) (pss_one (ps_ret (pe_c (cal_splice T) hr (by decide) rfl (pa_cons (pv 0) (pa_cons (pe_ix ix_tup (pv 1) (pe_int) (fun _ _ => rfl)) (pa_cons (pe_ix ix_tup (pv 1) (pe_int) (fun _ _ => rfl)) (pa_cons (pe_ix ix_tup (pv 1) (pe_int) (fun _ _ => rfl)) pa_nil))))))) (pss_nil)) (pss_cons (ps_if (pt_cmp (pc_isN (pe_mt (met_Tree_lines T) hr (by decide) (pv 0) (pa_cons (pe_ix ix_tup (pv 1) (pe_int) (fun _ _ => rfl)) pa_nil)))) (pss_one (ps_ret (pe_tup (pa_cons (pe_tup (pa_cons (pe_str) pa_nil)) (pa_cons (pv 0) pa_nil))))) (pss_nil)) (pss_one (ps_ret (pe_tup (pa_cons (pe_gc rfl (T.gref 71)) (pa_cons (pe_mt (met_Tree_without T) hr (by decide) (pv 0) (pa_cons (pe_ix ix_tup (pv 1) (pe_int) (fun _ _ => rfl)) pa_nil)) pa_nil)))))))))), ?_⟩
    refine ⟨_, rfl, x, ac, rfl, hx, ga, fun H1 s1 => ⟨_, rfl, x, ac, rfl, hx.same s1, _, rfl, ?_⟩⟩
    have s1' := s1
    cases iq : isQ ac with
    | true =>
      rw [act_q iq] at k
      refine iteE rfl ⟨_, rfl, _, rfl, v, x, D, F, ac, rfl, tr.same s1, g, hx.same s1, ga, iq, fun H2 y s2 hy => ⟨_, rfl, small (m := 2) (Nat.le_refl 2), fun r hr2 => ?_⟩⟩
      exact k _ r _ _ ((s1.trans s2).trans (same_new hr2)) upd_same (hy.same (same_new hr2)) (tr.same ((s1.trans s2).trans (same_new hr2)))
    | false =>
      refine iteEn rfl ?_
      cases ac with
      | write p ls =>
        obtain ⟨t, e0, e1, y, rfl, hs, i0, i1, i2⟩ := hx.threeI
        cases i0.strI
        cases i1.strI
        refine ⟨_, rfl, t, _, 0, _, rfl, rfl, file_stt s1 hs, rfl, rfl, _, rfl, iteP (by decide +kernel) ⟨_, rfl, _, rfl, t, _, 1, _, rfl, rfl, file_stt s1 hs, rfl, _, rfl, t, _, 2, _, rfl, rfl, file_stt s1 hs, rfl, v, y, D, F, p, ls, rfl, tr.same s1, g, ok.same s1, ga.1, i2.same s1, ga.2, fun H' a y t s2 => k H' a y t (s1.trans s2)⟩⟩
      | move p q =>
        obtain ⟨t, e0, e1, y, rfl, hs, i0, i1, i2⟩ := hx.threeI
        cases i0.strI
        cases i1.strI
        cases i2.strI
        refine ⟨_, rfl, t, _, 0, _, rfl, rfl, file_stt s1 hs, rfl, rfl, _, rfl, iteN (by decide +kernel) ⟨_, rfl, t, _, 0, _, rfl, rfl, file_stt s1 hs, rfl, rfl, _, rfl, iteP (by decide +kernel) ⟨_, rfl, _, rfl, t, _, 1, _, rfl, rfl, file_stt s1 hs, rfl, _, rfl, t, _, 2, _, rfl, rfl, file_stt s1 hs, rfl, v, D, F, p, q, rfl, tr.same s1, g, ok.same s1, ga.1, ga.2, fun H' a y t s2 => k H' a y t (s1.trans s2)⟩⟩⟩
      | splice p old new =>
        obtain ⟨t, e0, e1, y, z, rfl, hs, i0, i1, i2, i3⟩ := hx.fourI
        cases i0.strI
        cases i1.strI
        refine ⟨_, rfl, t, _, 0, _, rfl, rfl, file_stt s1 hs, rfl, rfl, _, rfl, iteN (by decide +kernel) ⟨_, rfl, t, _, 0, _, rfl, rfl, file_stt s1 hs, rfl, rfl, _, rfl, iteN (by decide +kernel) ⟨_, rfl, t, _, 0, _, rfl, rfl, file_stt s1 hs, rfl, rfl, _, rfl, iteP (by decide +kernel) ⟨_, rfl, _, rfl, t, _, 1, _, rfl, rfl, file_stt s1 hs, rfl, _, rfl, t, _, 2, _, rfl, rfl, file_stt s1 hs, rfl, _, rfl, t, _, 3, _, rfl, rfl, file_stt s1 hs, rfl, v, y, z, D, F, p, old, new, rfl, tr.same s1, g, ok.same s1, ga.1, i2.same s1, ga.2.1, ga.2.2.1, i3.same s1, ga.2.2.2, fun H' a y t s2 => k H' a y t (s1.trans s2)⟩⟩⟩⟩
      | remove p =>
        obtain ⟨t, e0, e1, rfl, hs, i0, i1⟩ := hx.twoI
        cases i0.strI
        cases i1.strI
        refine ⟨_, rfl, t, _, 0, _, rfl, rfl, file_stt s1 hs, rfl, rfl, _, rfl, iteN (by decide +kernel) ⟨_, rfl, t, _, 0, _, rfl, rfl, file_stt s1 hs, rfl, rfl, _, rfl, iteN (by decide +kernel) ⟨_, rfl, t, _, 0, _, rfl, rfl, file_stt s1 hs, rfl, rfl, _, rfl, iteN (by decide +kernel) ⟨_, rfl, a, dx, _, ev, s1 _ _ h1, hfs _ (by decide +kernel), _, rfl, t, _, 1, _, rfl, rfl, file_stt s1 hs, rfl, v, D, F, p, rfl, tr.same s1, fun e => ?_, fun ls x e hx => ?_⟩⟩⟩⟩
        · have ea : actF F (.remove p) = (.missing, F) := by simp only [actF, e, Option.isNone_none, if_true]
          rw [ea] at k
          exact ⟨_, rfl, iteE rfl ⟨small (m := 1) (Nat.le_refl 1), fun c hc => ⟨_, rfl, small (m := 2) (Nat.le_refl 2), fun r hr2 => k.word (x := "missing") s1 rfl hc tr hr2⟩⟩⟩
        · have hn : decide (x = V.non) = false := by
            obtain ⟨z, rfl, _⟩ := Dt.linesI hx
            rfl
          have ea : actF F (.remove p) = (.done, del F p) := by simp only [actF, e, Option.isNone_some, Bool.false_eq_true, if_false]
          rw [ea] at k
          exact ⟨_, rfl, iteEn hn ⟨_, rfl, a, dx, _, ev, s1 _ _ h1, hfs _ (by decide +kernel), _, rfl, t, _, 1, _, rfl, rfl, file_stt s1 hs, rfl, v, D, F, p, rfl, tr.same s1, g, ok.same s1, fun H2 b s2 ht => ⟨small (m := 2) (Nat.le_refl 2), fun r hr2 => k.done T (s1.trans s2) rfl ht hr2⟩⟩⟩
      | read p => cases iq
      | kind p => cases iq
      | list p => cases iq
      | find p q => cases iq
      | count p => cases iq
theorem cal_act_actions (T : Tx K mg) : Cal P w K mg base 9 "act_actions" (spAct K) := T.alias 158 20 rfl rfl (cal_act T)
end
end Sa
/-! text D14 -/
/-! journals.py -/
namespace Sa
open PySem PySem.Spec L2 PyProof.Rows
theorem goodR_act {F : Files} (g : GoodF F) {a : Act} (ga : GoodA a) : GoodR (actF F a).1 := by
  cases a with
  | read p =>
    show GoodR (told F (.read p))
    cases e : F p with
    | none => simp only [told, e]; trivial
    | some ls => simp only [told, e]; exact (g.one p ls e).2
  | kind q =>
    show GoodR (told F (.kind q))
    simp only [told]
    split
    · trivial
    · split <;> trivial
  | list q =>
    show GoodR (told F (.list q))
    simp only [told]
    split
    · exact ⟨fun n hn => (List.mem_filter.mp hn).1, Nat.le_trans (List.length_filter_le _ _) (by decide)⟩
    · trivial
  | find q w =>
    show GoodR (told F (.find q w))
    simp only [told]
    split
    · refine ⟨fun r hr => ?_, ?_⟩
      · obtain ⟨p, hp, hr⟩ := List.mem_flatMap.mp hr
        obtain ⟨ls, e⟩ := keys_get (List.mem_filter.mp hp).1
        rw [e] at hr
        obtain ⟨k, hk, rfl⟩ := List.mem_map.mp hr
        have h1 := List.mem_range.mp (List.mem_filter.mp hk).1
        have h2 := (g.one p ls e).2.1
        have h3 : ((some ls).getD []).length = ls.length := rfl
        exact ⟨(g.one p ls e).1, by show k ≤ 12; omega⟩
      · have h := fl_len (q := q) (wd := w) (i := 10) g (Nat.le_refl _)
        have hl : (atOrIn F q).length ≤ 10 := Nat.le_trans (List.length_filter_le _ _) (keys_len F)
        rw [List.take_of_length_le hl] at h
        exact h
    · trivial
  | count q =>
    show GoodR (told F (.count q))
    simp only [told]
    split
    · exact Nat.le_trans (inside_len F q) (by decide)
    · trivial
  | write p ls =>
    simp only [actF]
    split
    · trivial
    · split <;> trivial
  | remove p =>
    simp only [actF]
    split <;> trivial
  | move p t =>
    simp only [actF]
    split
    · trivial
    · split <;> trivial
  | splice p o n =>
    simp only [actF]
    split
    · trivial
    · unfold spliced
      split
      · trivial
      · split
        · trivial
        · split <;> trivial
/-- the files behind the first i entries -/
def ledBy (F : Files) (j : Jr) (i : Nat) : Files := leadF F ((j.take i).map (·.1))
theorem ledBy_succ {F : Files} {j : Jr} {i : Nat} {e : Act × Ans} (h : j[i]? = some e) : ledBy F j (i + 1) = (actF (ledBy F j i) e.1).2 := by
  unfold ledBy
  rw [List.take_succ, h, List.map_append, lead_append]
  rfl
theorem good_led {F : Files} {j : Jr} (g : GoodF F) (gj : GoodJ j) (i : Nat) : GoodF (ledBy F j i) :=
  goodF_lead g fun a ha => by
    obtain ⟨e, he, rfl⟩ := List.mem_map.mp ha
    exact (gj.1 e (List.mem_of_mem_take he)).a
theorem ledBy_all {F : Files} {j : Jr} : ledBy F j j.length = leadF F (j.map (·.1)) := by
  unfold ledBy
  rw [List.take_length]
theorem holds_step {F : Files} {j : Jr} {i : Nat} {e : Act × Ans} (h : holdsF F (j.take i)) (he : j[i]? = some e) (h2 : (actF (ledBy F j i) e.1).1 = e.2) : holdsF F (j.take (i + 1)) := by
  rw [List.take_succ, he, holds_append]
  exact ⟨h, by show changeF _ 0 [e] = none; unfold changeF; unfold ledBy at h2; rw [if_pos h2]; rfl⟩
theorem change_drop {F : Files} : ∀ {j : Jr} {i n : Nat}, holdsF F (j.take n) → n ≤ j.length → changeF F i j = changeF (ledBy F j n) (i + n) (j.drop n)
  | j, i, 0, _, _ => by
    unfold ledBy
    rw [List.take_zero, List.drop_zero]
    rfl
  | [], i, n + 1, _, h => by simp at h
  | e :: r, i, n + 1, h, hl => by
    rw [List.take_succ_cons, holds_cons] at h
    have ih := change_drop (F := (actF F e.1).2) (j := r) (i := i + 1) (n := n) h.2 (by simpa using hl)
    rw [List.drop_succ_cons]
    have e1 : ledBy F (e :: r) (n + 1) = ledBy (actF F e.1).2 r n := by
      unfold ledBy
      rw [List.take_succ_cons, List.map_cons]
      rfl
    rw [e1]
    show (if (actF F e.1).1 = e.2 then changeF (actF F e.1).2 (i + 1) r else some (i, (actF F e.1).1)) = _
    rw [if_pos h.1, ih]
    congr 1
    omega
theorem change_at {F : Files} {j : Jr} {i : Nat} {e : Act × Ans} (h : holdsF F (j.take i)) (he : j[i]? = some e) (h2 : (actF (ledBy F j i) e.1).1 ≠ e.2) : changeF F 0 j = some (i, (actF (ledBy F j i) e.1).1) := by
  have hl : i < j.length := (List.getElem?_eq_some_iff.mp he).1
  have hd : j.drop i = e :: j.drop (i + 1) := by
    rw [List.drop_eq_getElem_cons hl, (List.getElem?_eq_some_iff.mp he).2]
  rw [change_drop (i := 0) h (by omega), hd]
  show (if _ = e.2 then _ else some (0 + i, _)) = _
  rw [if_neg h2, Nat.zero_add]
section
variable {P : Program} {w : World} {K : PySem.W.Frag} {mg : Str → Option Value} {base : Heap}
/-- entry i of a journal -/
theorem ent_at {H : Hp} {xs : List V} {j : Jr} {i : Nat} {x : V} (h : DtAll K H xs (j.map dE)) (e : xs[i]? = some x) : ∃ en t a r, j[i]? = some en ∧ x = .ref t ∧ St1 K H t [a, r] ∧ Dt K H a (dA en.1) ∧ Dt K H r (dR en.2) := by
  obtain ⟨d, h1, h2⟩ := h.get e
  rw [List.getElem?_map] at h1
  obtain ⟨en, h3, rfl⟩ := Option.map_eq_some_iff.mp h1
  obtain ⟨t, a, r, rfl, h4, h5, h6⟩ := Dt.twoI h2
  exact ⟨en, t, a, r, h3, rfl, h4, h5, h6⟩
def spFirst (K : PySem.W.Frag) : Sp := fun vs H Q _ => ∃ (x v : V) (D : List Addr) (F : Files) (j : Jr), vs = [x, v] ∧ TrAt K (CT K) D H v F ∧ GoodF F ∧ Dok D H ∧ Dt K H x (dJ j) ∧ GoodJ j ∧
  (∀ H', Same H H' → changeF F 0 j = none → Q .non H') ∧ ∀ H' a n r y, Same H H' → changeF F 0 j = some (n, r) → H' a = some (.tup [.int (n : Int), y]) → Dt K H' y (dR r) → Q (.ref a) H'
theorem sc_first_change : FnScope ["journal", "tree", "at", "entry", "answer"] ["journal", "tree"] (defScope s_first_change) := ⟨rfl, rfl, rfl, by decide +kernel, rfl, by decide +kernel, by decide +kernel⟩
theorem cal_first_change (T : Tx K mg) : Cal P w K mg base 10 "first_change" (spFirst K) := by
  refine T.cal 35 27 (f_at (x := "first_change") rfl) (g_at rfl) (N := ["journal", "tree", "at", "entry", "answer"]) (ps := ["journal", "tree"]) (fun _ _ _ _ _ _ us hl => match us, hl with | [_, _], _ => rfl) sc_first_change (fun vs H Q E h => ?_) (fun f cdv A outer s H vs Q E hr h => ?_)
  · obtain ⟨x, v, D, F, j, rfl, _⟩ := h
    rfl
  · obtain ⟨x, v, D, F, j, rfl, tr, g, ok, hx, gj, k1, k2⟩ := h
    obtain ⟨a, xs, rfl, hs, hd⟩ := Dt.tupI hx
    have hxl : xs.length = j.length := by rw [hd.length, List.length_map]
    refine ⟨_, pss_cons (ps_for PassesOwn.never rfl (pi_enumT (by rfl) (T.free 93) (pa_cons (pv 0) pa_nil)) (pg_tup rfl (pgs_cons (pg_name (i := 2) sc_first_change.nd rfl (by first | exact Or.inl rfl | exact Or.inr rfl)) (pgs_cons (pg_name (i := 3) sc_first_change.nd rfl (by first | exact Or.inl rfl | exact Or.inr rfl)) (pgs_nil)))) (pss_cons (ps_asg (pe_c (cal_act_actions T) hr (by decide) rfl (pa_cons (pv 1) (pa_cons (pe_ix ix_tup (pv 3) (pe_int) (fun _ _ => rfl)) pa_nil))) (pg_tup rfl (pgs_cons (pg_name (i := 4) sc_first_change.nd rfl (by first | exact Or.inl rfl | exact Or.inr rfl)) (pgs_cons (pg_name (i := 1) sc_first_change.nd rfl (by first | exact Or.inl rfl | exact Or.inr rfl)) (pgs_nil))))) (pss_one (ps_if (pt_cmpR (op_neD hr.units) (pv 4) (pe_ix ix_tup (pv 3) (pe_int) (fun _ _ => rfl)) (nomark _)) (pss_one (ps_ret (pe_tup (pa_cons (pv 2) (pa_cons (pv 4) pa_nil))))) (pss_nil))))) (pss_one (ps_ret (pe_non))), ?_⟩
    refine ⟨_, rfl, a, xs, rfl, hs.sq, for_it walk_enumT (fun i σ H' => ∃ tv v2 v3 v4, σ = [some (.ref a), some tv, v2, v3, v4] ∧ Same H H' ∧ TrAt K (CT K) D H' tv (ledBy F j i) ∧ holdsF F (j.take i)) ⟨v, _, _, _, rfl, Same.refl H, tr, rfl⟩ (fun i σ H' _ ⟨_, _, _, _, _, q, _⟩ => file_stt q hs) ?_ ?_⟩
    · rintro i y σ H1 H2 hi ⟨tv, v2, v3, v4, rfl, s1, ht, hh⟩ ⟨T2, i0, x0, rfl, hT, rfl, e1, e2⟩
      cases e1
      obtain ⟨en, t, av, rv, he, rfl, hst, ha, hrv⟩ := ent_at hd e2
      have s2 : Same H1 (upd H1 T2 (.tup [.int (i : Nat), .ref t])) := same_new hT
      have s12 := s1.trans s2
      have ge := gj.1 en (List.mem_of_getElem? he)
      have gl := good_led g gj i
      refine ⟨T2, _, rfl, .inl (.inl upd_same), rfl, _, _, rfl, _, _, rfl, rfl, ?_⟩
      refine ⟨_, rfl, _, rfl, t, _, 0, _, rfl, rfl, file_stt s12 hst, rfl, tv, av, D, ledBy F j i, en.1, rfl, ht.same s2, gl, ok.same s12, ha.same s12, ge.a, fun H3 b y3 t3 s3 hb hy ht3 => ?_⟩
      refine ⟨b, _, rfl, .inl (.inl hb), rfl, _, _, rfl, _, _, rfl, rfl, ?_⟩
      have s13 := s12.trans s3
      refine ⟨_, rfl, _, rfl, t, _, 1, _, rfl, rfl, file_stt s13 hst, rfl, ?_⟩
      refine neR_of (a := (actF (ledBy F j i) en.1).1) (b := en.2) hy (hrv.same s13) (goodR_act gl ge.a) ge.r ⟨_, rfl, ?_⟩
      by_cases eq : (actF (ledBy F j i) en.1).1 = en.2
      · refine iteEn (by rw [decide_eq_true eq]; rfl) ?_
        exact ⟨t3, _, _, _, rfl, s13, by rw [ledBy_succ he]; exact ht3, holds_step hh he eq⟩
      · refine iteE (by rw [decide_eq_false eq]; rfl) ⟨_, rfl, _, rfl, small (m := 2) (Nat.le_refl 2), fun c hc => ?_⟩
        exact k2 _ c i _ _ (s13.trans (same_new hc)) (change_at hh he eq) upd_same (hy.same (same_new hc))
    · rintro σ H1 ⟨tv, v2, v3, v4, rfl, s1, ht, hh⟩
      rw [hxl, List.take_length] at hh
      exact k1 H1 s1 hh
def spHolds (K : PySem.W.Frag) : Sp := fun vs H Q _ => ∃ (x v : V) (D : List Addr) (F : Files) (j : Jr), vs = [x, v] ∧ TrAt K (CT K) D H v F ∧ GoodF F ∧ Dok D H ∧ Dt K H x (dJ j) ∧ GoodJ j ∧
  ∀ H' b, Same H H' → (b = true ↔ holdsF F j) → Q (.bl b) H'
theorem sc_holds : FnScope ["journal", "tree"] ["journal", "tree"] (defScope s_holds) := ⟨rfl, rfl, rfl, by decide +kernel, rfl, by decide +kernel, by decide +kernel⟩
theorem cal_holds (T : Tx K mg) : Cal P w K mg base 11 "holds" (spHolds K) := by
  refine T.cal 36 28 (f_at (x := "holds") rfl) (g_at rfl) (N := ["journal", "tree"]) (ps := ["journal", "tree"]) (fun _ _ _ _ _ _ us hl => match us, hl with | [_, _], _ => rfl) sc_holds (fun vs H Q E h => ?_) (fun f cdv A outer s H vs Q E hr h => ?_)
  · obtain ⟨x, v, D, F, j, rfl, _⟩ := h
    rfl
  · obtain ⟨x, v, D, F, j, rfl, tr, g, ok, hx, gj, k⟩ := h
    refine ⟨_, pss_one (ps_ret (pe_cmp (pc_isN (pe_c (cal_first_change T) hr (by decide) rfl (pa_cons (pv 0) (pa_cons (pv 1) pa_nil)))) rfl)), ?_⟩
    refine ⟨_, rfl, _, rfl, x, v, D, F, j, rfl, tr, g, ok, hx, gj, fun H' s' e => k H' true s' ⟨fun _ => e, fun _ => rfl⟩, fun H' a n r y s' e ha hy => k H' false s' ⟨fun h => (nomatch h), fun h => ?_⟩⟩
    rw [h] at e
    cases e
def spLead (K : PySem.W.Frag) : Sp := fun vs H Q _ => ∃ (x v : V) (D : List Addr) (F : Files) (j : Jr), vs = [x, v] ∧ TrAt K (CT K) D H v F ∧ GoodF F ∧ Dok D H ∧ Dt K H x (dJ j) ∧ GoodJ j ∧
  ∀ H' t, Same H H' → TrAt K (CT K) D H' t (leadF F (j.map (·.1))) → Q t H'
theorem sc_lead : FnScope ["journal", "tree", "action", "_"] ["journal", "tree"] (defScope s_lead) := ⟨rfl, rfl, rfl, by decide +kernel, rfl, by decide +kernel, by decide +kernel⟩
theorem cal_lead (T : Tx K mg) : Cal P w K mg base 10 "lead" (spLead K) := by
  refine T.cal 37 29 (f_at (x := "lead") rfl) (g_at rfl) (N := ["journal", "tree", "action", "_"]) (ps := ["journal", "tree"]) (fun _ _ _ _ _ _ us hl => match us, hl with | [_, _], _ => rfl) sc_lead (fun vs H Q E h => ?_) (fun f cdv A outer s H vs Q E hr h => ?_)
  · obtain ⟨x, v, D, F, j, rfl, _⟩ := h
    rfl
  · obtain ⟨x, v, D, F, j, rfl, tr, g, ok, hx, gj, k⟩ := h
    obtain ⟨a, xs, rfl, hs, hd⟩ := Dt.tupI hx
    have hxl : xs.length = j.length := by rw [hd.length, List.length_map]
    refine ⟨_, pss_cons (ps_for PassesOwn.never rfl (pi_tup (pv 0)) (pg_tup rfl (pgs_cons (pg_name (i := 2) sc_lead.nd rfl (by first | exact Or.inl rfl | exact Or.inr rfl)) (pgs_cons (pg_name (i := 3) sc_lead.nd rfl (by first | exact Or.inl rfl | exact Or.inr rfl)) (pgs_nil)))) (pss_one (ps_asg (pe_c (cal_act_actions T) hr (by decide) rfl (pa_cons (pv 1) (pa_cons (pv 2) pa_nil))) (pg_tup rfl (pgs_cons (pg_name (i := 3) sc_lead.nd rfl (by first | exact Or.inl rfl | exact Or.inr rfl)) (pgs_cons (pg_name (i := 1) sc_lead.nd rfl (by first | exact Or.inl rfl | exact Or.inr rfl)) (pgs_nil))))))) (pss_one (ps_ret (pv 1))), ?_⟩
    refine ⟨_, rfl, a, rfl, ⟨_, hs.sq⟩, for_tup (xs := xs) (fun i σ H' => ∃ tv v2 v3, σ = [some (.ref a), some tv, v2, v3] ∧ Same H H' ∧ TrAt K (CT K) D H' tv (ledBy F j i)) ⟨v, _, _, rfl, Same.refl H, tr⟩ (fun i σ H' _ ⟨_, _, _, _, q, _⟩ => file_stt q hs) ?_ ?_⟩
    · rintro i y σ H1 hi ⟨tv, v2, v3, rfl, s1, ht⟩
      obtain ⟨en, t, av, rv, he, rfl, hst, ha, hrv⟩ := ent_at hd hi
      have ge := gj.1 en (List.mem_of_getElem? he)
      have gl := good_led g gj i
      refine ⟨t, _, rfl, file_stt s1 hst, rfl, _, _, rfl, _, _, rfl, rfl, ?_⟩
      refine ⟨_, rfl, _, rfl, tv, av, D, ledBy F j i, en.1, rfl, ht, gl, ok.same s1, ha.same s1, ge.a, fun H3 b y3 t3 s3 hb hy ht3 => ?_⟩
      refine ⟨b, _, rfl, .inl (.inl hb), rfl, _, _, rfl, _, _, rfl, rfl, ?_⟩
      exact ⟨t3, _, _, rfl, s1.trans s3, by rw [ledBy_succ he]; exact ht3⟩
    · rintro σ H1 ⟨tv, v2, v3, rfl, s1, ht⟩
      rw [hxl, ledBy_all] at ht
      exact ⟨_, rfl, k H1 tv s1 ht⟩
end
end Sa
/-! text CntD -/
/-! list.count(x) where items are data -/
namespace Sa
open PySem PySem.Spec L2 PyProof.Rows
section
variable {X : Cx}
def rCountD (K : PySem.W.Frag) : V → List V → Hp → VK → Prop := fun x xs H Q => ∃ (a : Addr) (y : V) (d : PyData) (ds : List PyData), x = V.ref a ∧ xs = [y] ∧ Dp K H (V.ref a) (.list ds) ∧ Dp K H y d ∧
  SeqAt.shaped (.list ds) = true ∧ SeqAt.shaped d = true ∧ Q (.int ((ds.countP fun z => PyData.eqv z d : Nat) : Int)) H
theorem mt_countD (K : PySem.W.Frag) (hK : X.K = K) (hu : X.A.units + 65 < cLine) : MtR X "list.count" (rCountD K) := by
  subst hK
  intro pins s σ H x xs v us Q I rx rxs h
  obtain ⟨a, y, d, ds, rfl, rfl, hl, hy, sl, sd, q⟩ := h
  cases rx
  cases rxs with
  | cons ry rt =>
    rename_i uy ut
    cases rt
    obtain ⟨bs, r1⟩ := Dp.reads I d y uy hy ry
    have hxs : PyData.canLayAll0 ds = true := SeqAt.canLay_of_shaped sl
    have hroom : X.A.units + 1 + min (PyData.depthAll ds) d.depth < cLine := room_in_shaped sd hu
    cases hl with
    | lst hs ha =>
      obtain ⟨its, rv, ⟨⟨cls, dd, data, sls⟩, n, ho, hc, hdn, hdt⟩, hlen⟩ := I.list hs
      simp only at hc hdt
      subst hc hdt
      obtain ⟨as, h4⟩ := Dp.readsAll I ds _ its ha rv
      have hmap : its.map (SeqAt.readOf s.heap) = ds := SeqAt.readsAll_map ds its as hxs h4
      refine call_meets PySem.F.slot_list_count ⟨_, ho, rfl⟩ PySem.F.entry_list_count (PySem.F.args_list_count_2 _ _)
        (SeqAt.list_countAt a its.toArray n dd sls uy (fun u => PyData.eqv (SeqAt.readOf s.heap u) d)) ⟨ho, SeqAt.items_eqAt (vs := its.toArray) (show ReadsAll s.heap its.toArray.toList ds as from h4) r1 hxs (SeqAt.canLay_of_shaped sd) hroom, ?_⟩
      refine ⟨.int _, H, I.tok _, ⟨_, rfl⟩, ?_⟩
      have e : its.toArray.toList.countP (fun u => PyData.eqv (SeqAt.readOf s.heap u) d) = ds.countP fun z => PyData.eqv z d := by
        rw [← hmap, List.countP_map]
        rfl
      rw [e]
      exact q
variable {o e : Expr} {es : List Expr} {to : TE} {t : TA} {name : Str} {apos cpos : Pos} {T id : String} {r : V → List V → Hp → VK → Prop}
theorem pe_bmK (K : PySem.W.Frag) (hK : X.K = K) (pa : PlainAttrs T) (slot : Slot T name id) (hty : typeOf (.builtin id) = pure (.type "method_descriptor")) (hm : MtR X id r) (ho : PE X o to) (ha : PA X (e :: es) t)
    (hbase : attributeBase o name X.env (eval o X.env) = eval o X.env := by rfl)
    (hfew : ((backTo cpos (starEach (e :: es) X.env)).all (fun x => !x.1) && (backToKw cpos (keywordEach [] X.env)).all (fun x => x.1.isSome)
      && decide ((e :: es).length + ([] : List Keyword).length + (if ([] : List Keyword).isEmpty then 0 else 1) < 30)) = true := by rfl)
    (hline : (apos.endLine == cpos.line) = true := by rfl) (hs : starEach (e :: es) X.env = (false, eval e X.env) :: starEach es X.env := by rfl) (hplain : (backTo cpos (starEach es X.env)).any (·.1) = false := by rfl) :
    PE X (.Call (.Attribute o name apos) (e :: es) [] cpos) (tBM K T r to t) := hK ▸ pe_bm pa slot hty hm ho ha hbase hfew hline hs hplain
end
end Sa
/-! text D15 -/
/-! agents.py: rows of a check -/
namespace Sa
open PySem PySem.Spec L2 PyProof.Rows
inductive CRow where
  | ask (a : Act) (cs : List (Ans × Nat)) (o : Nat)
  | pass
  | fail
def dCase (c : Ans × Nat) : PyData := .tuple [dR c.1, .int (c.2 : Int)]
def dC : CRow → PyData
  | .ask a cs o => .tuple [.str "ask", dA a, .tuple (cs.map dCase), .int (o : Int)]
  | .pass => .tuple [.str "pass"]
  | .fail => .tuple [.str "fail"]
def dCk (c : List CRow) : PyData := .tuple (c.map dC)
/-- row k of many -/
def GoodC (k many : Nat) : CRow → Prop
  | .ask a cs o => isQ a = true ∧ GoodA a ∧ cs.length ≤ 6 ∧ (cs.map Prod.fst).Nodup ∧ (∀ c ∈ cs, GoodR c.1 ∧ k < c.2 ∧ c.2 < many) ∧ k < o ∧ o < many
  | _ => True
def isEnd : CRow → Bool
  | .ask _ _ _ => false
  | _ => true
structure GoodCk (c : List CRow) : Prop where
  pos : 1 ≤ c.length
  len : c.length ≤ 24
  last : ∃ r, c[c.length - 1]? = some r ∧ isEnd r = true
  row : ∀ k r, c[k]? = some r → GoodC k c.length r
theorem countP_one {l : List PyData} {d : PyData} (h : l.countP (fun z => PyData.eqv z d) ≤ 1) : ¬ (1 : Int) < ((l.countP fun z => PyData.eqv z d : Nat) : Int) := by omega
theorem count_nd {ls : List Ans} (nd : ls.Nodup) (r : Ans) : (ls.map dR).countP (fun z => PyData.eqv z (dR r)) ≤ 1 := by
  rw [List.countP_map]
  have e : ((fun z => PyData.eqv z (dR r)) ∘ dR) = fun a => decide (a = r) := by
    funext a
    exact eqR
  rw [e]
  have e2 : ls.countP (fun a => decide (a = r)) = ls.count r := by
    unfold List.count
    congr 1
  rw [e2]
  exact List.nodup_iff_count.mp nd r
section
variable {P : Program} {w : World} {K : PySem.W.Frag} {mg : Str → Option Value} {base : Heap}
theorem case_at {H : Hp} {ys : List V} {cs : List (Ans × Nat)} {i : Nat} {x : V} (h : DtAll K H ys (cs.map dCase)) (e : ys[i]? = some x) : ∃ c t r, cs[i]? = some c ∧ x = .ref t ∧ St1 K H t [r, .int (c.2 : Int)] ∧ Dt K H r (dR c.1) := by
  obtain ⟨d, h1, h2⟩ := h.get e
  rw [List.getElem?_map] at h1
  obtain ⟨c, h3, rfl⟩ := Option.map_eq_some_iff.mp h1
  obtain ⟨t, r, n, rfl, h4, h5, h6⟩ := Dt.twoI h2
  cases h6.intI
  exact ⟨c, t, r, h3, rfl, h4, h5⟩
theorem shaped_list {ds : List PyData} {k n : Nat} (t : OkAll ds k n) (hk : k + 1 ≤ 64) : SeqAt.shaped (.list ds) = true := by
  unfold SeqAt.shaped
  have h1 : (PyData.list ds).canLay0 = true := by simp only [PyData.canLay0]; exact t.lay
  rw [h1, Bool.true_and]
  refine decide_eq_true ?_
  simp only [PyData.depth]
  have := t.dep
  omega
def spIsGoodRow (K : PySem.W.Frag) : Sp := fun vs H Q _ => ∃ (x : V) (a : Act) (cs : List (Ans × Nat)) (o k many : Nat), vs = [x, .int (k : Int), .int (many : Int)] ∧ Dt K H x (dC (.ask a cs o)) ∧ GoodC k many (.ask a cs o) ∧ many ≤ 24 ∧ ∀ H', Same H H' → Q (.bl true) H'
theorem sc_is_good_row : FnScope ["row", "at", "many", "_", "action", "cases", "other", "answers", "answer", "after"] ["row", "at", "many"] (defScope s_is_good_row) := ⟨rfl, rfl, rfl, by decide +kernel, rfl, by decide +kernel, by decide +kernel⟩
theorem cal_is_good_row (T : Tx K mg) : Cal P w K mg base 5 "is_good_row" (spIsGoodRow K) := by
  refine T.cal 29 21 (f_at (x := "is_good_row") rfl) (g_at rfl) (N := ["row", "at", "many", "_", "action", "cases", "other", "answers", "answer", "after"]) (ps := ["row", "at", "many"]) (fun _ _ _ _ _ _ us hl => match us, hl with | [_, _, _], _ => rfl) sc_is_good_row (fun vs H Q E h => ?_) (fun f cdv A outer s H vs Q E hr h => ?_)
  · obtain ⟨x, a, cs, o, k, many, rfl, _⟩ := h
    rfl
  · obtain ⟨x, a, cs, o, n, many, rfl, hx, ⟨iq, ga, g6, gnd, gc, go1, go2⟩, hm, k⟩ := h
    obtain ⟨t, x0, x1, x2, x3, rfl, hs, e0, e1, e2, e3⟩ := hx.fourI
    cases e3.intI
    obtain ⟨c, ys, rfl, hcs, hcd⟩ := Dt.tupI e2
    have hyl : ys.length = cs.length := by rw [hcd.length, List.length_map]
    refine ⟨_, pss_cons (ps_asg (pv 0) (pg_tup rfl (pgs_cons (pg_name (i := 3) sc_is_good_row.nd rfl (by first | exact Or.inl rfl | exact Or.inr rfl)) (pgs_cons (pg_name (i := 4) sc_is_good_row.nd rfl (by first | exact Or.inl rfl | exact Or.inr rfl)) (pgs_cons (pg_name (i := 5) sc_is_good_row.nd rfl (by first | exact Or.inl rfl | exact Or.inr rfl)) (pgs_cons (pg_name (i := 6) sc_is_good_row.nd rfl (by first | exact Or.inl rfl | exact Or.inr rfl)) (pgs_nil))))))) (pss_cons (ps_try_thru0 (pss_one (ps_expr (pe_c (cal_check_action T) hr (by decide) rfl (pa_cons (pv 4) pa_nil))))) (pss_cons (ps_set (i := 7) sc_is_good_row.nd rfl (by first | exact Or.inl rfl | exact Or.inr rfl) (pe_lc (own := [("answer", 8), ("_", 3)]) (g := gTup _ 2 (gCons (gName 8) (gCons (gName 3) (gNil)))) (tt := tYes) rfl sc_is_good_row.nd (pi_tup (pv 5)) (blkOk_by (own := [("answer", 8), ("_", 3)]) (N := ["row", "at", "many", "_", "action", "cases", "other", "answers", "answer", "after"]) (sc := defScope s_is_good_row) (by decide +kernel)) (fun _ _ _ _ _ => pg_tup rfl (pgs_cons (pg_name (i := 8) sc_is_good_row.nd rfl (by first | exact Or.inl rfl | exact Or.inr rfl)) (pgs_cons (pg_name (i := 3) sc_is_good_row.nd rfl (by first | exact Or.inl rfl | exact Or.inr rfl)) (pgs_nil)))) (fun _ _ _ _ _ => pts_nil) (fun _ _ _ _ _ => pv 8))) (pss_cons (ps_if (PW.pt (pw_or (pt_cmpR op_gt (pe_callB call_len_seq (by rfl) (T.free 85) bv_len (pa_cons (pv 5) pa_nil)) (pe_gc rfl (T.gint 74)) (nomark _)) (pw_or1 (pt_val (pe_callB (cr_any rfl) (by rfl) (T.free 87) bv_any (pa_cons (pe_lc (own := [("answer", 8)]) (g := gName 8) (tt := tYes) rfl sc_is_good_row.nd (pi_list (pv 7)) (blkOk_by (own := [("answer", 8)]) (N := ["row", "at", "many", "_", "action", "cases", "other", "answers", "answer", "after"]) (sc := defScope s_is_good_row) (by decide +kernel)) (fun _ _ _ _ _ => pg_name (i := 8) sc_is_good_row.nd rfl (by first | exact Or.inl rfl | exact Or.inr rfl)) (fun _ _ _ _ _ => pts_nil) (fun _ _ _ _ _ => pe_cmpR op_gt (pe_bmK K rfl PySem.F.plainAttrs_list PySem.F.slot_list_count PySem.F.type_list_count (mt_countD K rfl (u65 hr)) (pv 7) (pa_cons (pv 8) pa_nil)) (pe_int) (nomark _))) pa_nil)))))) (pss_one (ps_ret (pe_bl))) (pss_nil)) (pss_one (ps_ret (pe_and (pe_chain op_lt op_lt (pv 1) (pv 6) (pv 2)) (pe_one (pe_callB (cr_all rfl) (by rfl) (T.free 86) bv_all (pa_cons (pe_lc (own := [("_", 3), ("after", 9)]) (g := gTup _ 2 (gCons (gName 3) (gCons (gName 9) (gNil)))) (tt := tYes) rfl sc_is_good_row.nd (pi_tup (pv 5)) (blkOk_by (own := [("_", 3), ("after", 9)]) (N := ["row", "at", "many", "_", "action", "cases", "other", "answers", "answer", "after"]) (sc := defScope s_is_good_row) (by decide +kernel)) (fun _ _ _ _ _ => pg_tup rfl (pgs_cons (pg_name (i := 3) sc_is_good_row.nd rfl (by first | exact Or.inl rfl | exact Or.inr rfl)) (pgs_cons (pg_name (i := 9) sc_is_good_row.nd rfl (by first | exact Or.inl rfl | exact Or.inr rfl)) (pgs_nil)))) (fun _ _ _ _ _ => pts_nil) (fun _ _ _ _ _ => pe_chain op_lt op_lt (pv 1) (pv 9) (pv 2))) pa_nil))))))))), ?_⟩
    refine ⟨_, rfl, t, _, rfl, hs.sq, rfl, _, _, rfl, _, _, rfl, _, _, rfl, _, _, rfl, rfl, ?_⟩
    refine ⟨_, rfl, x1, a, rfl, e1, ga, fun H1 s1 => ?_⟩
    have hcs1 := fun (H' : Hp) (s : Same H H') => file_stt s hcs
    refine ⟨_, rfl, c, rfl, ⟨_, hcs1 H1 s1⟩, fun B hB => lc_tup (xs := ys) (fun i H' => Same H1 H' ∧ ∃ rs, H' B = some (.lst rs) ∧ DtAll K H' rs (((cs.map Prod.fst).take i).map dR)) ⟨same_new hB, [], upd_same, .nil⟩ (fun i H' _ q => hcs1 H' (s1.trans q.1)) ?_ ?_⟩
    · rintro i y H2 hi ⟨s2, rs, hl, hd⟩
      obtain ⟨cc, t2, r, hc, rfl, ht2, hrr⟩ := case_at hcd hi
      have hi6 : i < 6 := by
        have := (List.getElem?_eq_some_iff.mp hc).1
        omega
      refine ⟨t2, _, rfl, file_stt (s1.trans s2) ht2, rfl, _, _, rfl, _, _, rfl, rfl, rfl, t_yes ⟨_, rfl, rs, hl, smallt (m := 10) ?_, same_mut s2 hB, _, upd_same, ?_⟩⟩
      · rw [hd.length, List.length_map, List.length_take]
        omega
      · have e : (cs.map Prod.fst)[i]? = some cc.1 := by rw [List.getElem?_map, hc]; rfl
        have tx : TX H2 (upd H2 B (.lst (rs ++ [r]))) := tx_upd (by rw [hl]; rfl)
        rw [take_map _ e]
        exact DtAll.snoc (hd.tx tx) ((hrr.same (s1.trans s2)).tx tx)
    rintro H2 ⟨s2, rs, hl, hd⟩
    rw [hyl, List.take_of_length_le (by rw [List.length_map]; exact Nat.le_refl _)] at hd
    have s12 := s1.trans s2
    have hrl : rs.length = cs.length := by rw [hd.length, List.length_map, List.length_map]
    have hL : SqL K H2 B rs := .inl (.inl hl)
    have okA : OkAll ((cs.map Prod.fst).map dR) 3 ((cs.map Prod.fst).length * 4001) := OkAll.map fun r hr => by
      obtain ⟨cc, hcc, rfl⟩ := List.mem_map.mp hr
      exact ok_dR (gc cc hcc).1
    refine ⟨_, rfl, c, _, rfl, .inr (hcs1 H2 s12), _, _, rfl, rfl, _, rfl, iteN (by rw [hyl]; omega) ?_⟩
    refine ⟨_, rfl, B, rfl, ⟨_, hL⟩, fun B2 hB2 => lc_list (xs := rs) (fun i H' => Same H2 H' ∧ H' B2 = some (.lst (falses i))) ⟨same_new hB2, upd_same⟩ (fun i H' _ q => q.1.seq hL) ?_ ?_⟩
    · rintro i y H3 hi ⟨s3, hl3⟩
      obtain ⟨dd, h1, h2⟩ := hd.get hi
      rw [List.getElem?_map] at h1
      obtain ⟨r, h3, rfl⟩ := Option.map_eq_some_iff.mp h1
      have hi6 : i < 6 := by
        have := (List.getElem?_eq_some_iff.mp h3).1
        rw [List.length_map] at this
        omega
      have gr : GoodR r := by
        obtain ⟨cc, hcc, rfl⟩ := List.mem_map.mp (List.mem_of_getElem? h3)
        exact (gc cc hcc).1
      refine ⟨rfl, t_yes ⟨_, rfl, .inl ⟨rfl, rs, s3.seq hL⟩, _, rfl, B, y, dR r, (cs.map Prod.fst).map dR, rfl, rfl, .lst (s3.seq hL) (hd.same s3).dp, (h2.same s3).dp, shaped_list okA (by decide), (ok_dR gr).shaped (by decide), _, _, rfl, rfl, falses i, hl3, smallt (m := 10) (by rw [falses_len]; omega), same_mut s3 hB2, ?_⟩⟩
      rw [upd_same, falses_succ]
      have e := decide_eq_false (countP_one (count_nd gnd r))
      exact congrArg (fun b => some (HO.lst (falses i ++ [V.bl b]))) e
    rintro H3 ⟨s3, hl3⟩
    refine ⟨B2, List.replicate _ false, rfl, .inl (.inl hl3), ?_⟩
    rw [falses_any]
    have s13 := s12.trans s3
    refine ⟨_, rfl, iteEn rfl ?_⟩
    refine ⟨_, rfl, _, rfl, _, _, rfl, rfl, _, rfl, iteP (by omega) ⟨_, rfl, _, _, rfl, rfl, _, rfl, iteP (by omega) ?_⟩⟩
    refine ⟨_, rfl, c, rfl, ⟨_, hcs1 H3 s13⟩, fun B3 hB3 => lc_tup (xs := ys) (fun i H' => Same H3 H' ∧ H' B3 = some (.lst (trues i))) ⟨same_new hB3, upd_same⟩ (fun i H' _ q => hcs1 H' (s13.trans q.1)) ?_ ?_⟩
    · rintro i y H4 hi ⟨s4, hl4⟩
      obtain ⟨cc, t2, r, hc, rfl, ht2, hrr⟩ := case_at hcd hi
      have hi6 : i < 6 := by
        have := (List.getElem?_eq_some_iff.mp hc).1
        omega
      obtain ⟨_, q1, q2⟩ := gc cc (List.mem_of_getElem? hc)
      refine ⟨t2, _, rfl, file_stt (s13.trans s4) ht2, rfl, _, _, rfl, _, _, rfl, rfl, rfl, t_yes ⟨_, rfl, _, rfl, _, _, rfl, rfl, _, rfl, iteP (by omega) ⟨_, rfl, _, _, rfl, rfl, trues i, hl4, smallt (m := 10) (by rw [trues_len]; omega), same_mut s4 hB3, ?_⟩⟩⟩
      rw [upd_same, trues_succ]
      have e : decide ((cc.2 : Int) < (many : Int)) = true := decide_eq_true (by omega)
      exact congrArg (fun b => some (HO.lst (trues i ++ [V.bl b]))) e
    · rintro H4 ⟨s4, hl4⟩
      refine ⟨B3, List.replicate _ true, rfl, .inl (.inl hl4), ?_⟩
      rw [trues_all]
      exact k H4 (s13.trans s4)
def spNextRow (K : PySem.W.Frag) : Sp := fun vs H Q _ => ∃ (x y : V) (a : Act) (cs : List (Ans × Nat)) (o : Nat) (r : Ans), vs = [x, y] ∧ Dt K H x (dC (.ask a cs o)) ∧ Dt K H y (dR r) ∧ GoodR r ∧ (∀ c ∈ cs, GoodR c.1) ∧ ∀ n : Nat, (n = o ∨ ∃ c ∈ cs, n = c.2) → Q (.int (n : Int)) H
theorem sc_next_row : FnScope ["row", "answer", "known", "after"] ["row", "answer"] (defScope s_next_row) := ⟨rfl, rfl, rfl, by decide +kernel, rfl, by decide +kernel, by decide +kernel⟩
theorem cal_next_row (T : Tx K mg) : Cal P w K mg base 1 "next_row" (spNextRow K) := by
  refine T.cal 30 22 (f_at (x := "next_row") rfl) (g_at rfl) (N := ["row", "answer", "known", "after"]) (ps := ["row", "answer"]) (fun _ _ _ _ _ _ us hl => match us, hl with | [_, _], _ => rfl) sc_next_row (fun vs H Q E h => ?_) (fun f cdv A outer s H vs Q E hr h => ?_)
  · obtain ⟨x, y, a, cs, o, r, rfl, _⟩ := h
    rfl
  · obtain ⟨x, y, a, cs, o, r, rfl, hx, hy, gr, gc, k⟩ := h
    obtain ⟨t, x0, x1, x2, x3, rfl, hs, e0, e1, e2, e3⟩ := hx.fourI
    cases e3.intI
    obtain ⟨c, ys, rfl, hcs, hcd⟩ := Dt.tupI e2
    refine ⟨_, pss_cons (ps_for PassesOwn.never rfl (pi_tup (pe_ix ix_tup (pv 0) (pe_int) (fun _ _ => rfl))) (pg_tup rfl (pgs_cons (pg_name (i := 2) sc_next_row.nd rfl (by first | exact Or.inl rfl | exact Or.inr rfl)) (pgs_cons (pg_name (i := 3) sc_next_row.nd rfl (by first | exact Or.inl rfl | exact Or.inr rfl)) (pgs_nil)))) (pss_one (ps_if (pt_cmpR (op_eqD hr.units) (pv 2) (pv 1) (nomark _)) (pss_one (ps_ret (pv 3))) (pss_nil)))) (pss_one (ps_ret (pe_ix ix_tup (pv 0) (pe_int) (fun _ _ => rfl)))), ?_⟩
    refine ⟨_, rfl, t, _, 2, _, rfl, rfl, hs.sq, rfl, c, rfl, ⟨_, hcs.sq⟩, for_tup (xs := ys) (fun i σ H' => ∃ v2 v3, σ = [some (.ref t), some y, v2, v3] ∧ H' = H) ⟨_, _, rfl, rfl⟩ (fun i σ H' _ ⟨_, _, _, q⟩ => by rw [q]; exact hcs.sq) ?_ ?_⟩
    · rintro i z σ H1 hi ⟨v2, v3, rfl, rfl⟩
      obtain ⟨cc, t2, r2, hc, rfl, ht2, hrr⟩ := case_at hcd hi
      have hm := List.mem_of_getElem? hc
      refine ⟨t2, _, rfl, ht2.sq, rfl, _, _, rfl, _, _, rfl, rfl, ?_⟩
      refine ⟨_, rfl, _, rfl, eqR_of hrr hy (gc cc hm) gr ⟨_, rfl, ?_⟩⟩
      by_cases e : cc.1 = r
      · exact iteP e ⟨_, rfl, k cc.2 (.inr ⟨cc, hm, rfl⟩)⟩
      · exact iteN e ⟨_, _, rfl, rfl⟩
    · rintro σ H1 ⟨v2, v3, rfl, rfl⟩
      exact ⟨_, rfl, t, _, 3, _, rfl, rfl, hs.sq, rfl, k o (.inl rfl)⟩
end
end Sa
/-! text D16 -/
/-! checks.py, agents.walk -/
namespace Sa
open PySem PySem.Spec L2 PyProof.Rows
def isPass : CRow → Bool
  | .pass => true
  | _ => false
def isFail : CRow → Bool
  | .fail => true
  | _ => false
theorem eqPass (r : CRow) : PyData.eqv (dC r) (dC .pass) = isPass r := by
  cases r with
  | ask a cs o => simp [dC, PyData.eqv, PyData.eqvAll, isPass]
  | pass => simp [dC, PyData.eqv, PyData.eqvAll, isPass]
  | fail => simp [dC, PyData.eqv, PyData.eqvAll, isPass]; decide +kernel
theorem eqFail (r : CRow) : PyData.eqv (dC r) (dC .fail) = isFail r := by
  cases r with
  | ask a cs o => simp [dC, PyData.eqv, PyData.eqvAll, isFail]
  | pass => simp [dC, PyData.eqv, PyData.eqvAll, isFail]; decide +kernel
  | fail => simp [dC, PyData.eqv, PyData.eqvAll, isFail]
theorem ok_dC {k many : Nat} {r : CRow} (h : GoodC k many r) (hm : many ≤ 24) : ∃ n, OkD (dC r) 6 n := by
  cases r with
  | ask a cs o =>
    obtain ⟨iq, ga, g6, gnd, gc, go1, go2⟩ := h
    have okc : OkD (.tuple (cs.map dCase)) 5 _ := OkD.tuple (OkAll.map (k := 4) (n := 4030) fun c hc => by
      obtain ⟨h1, h2, h3⟩ := gc c hc
      exact (ok2 (k := 3) (ok_dR h1) (OkD.int (by omega))).mono (by decide) (by decide))
    exact ⟨_, ok4 (k := 5) (okW (by decide +kernel)) ((ok_dA ga).mono (by decide) (Nat.le_refl _)) okc (OkD.int (by omega))⟩
  | pass => exact ⟨_, (ok1 (k := 5) (okW (by decide +kernel)))⟩
  | fail => exact ⟨_, (ok1 (k := 5) (okW (by decide +kernel)))⟩
section
variable {P : Program} {w : World} {K : PySem.W.Frag} {mg : Str → Option Value} {base : Heap}
theorem dPASS (T : Tx K mg) {H : Hp} : Dt K H (.ref (He.ga K "PASS")) (dC .pass) := .tup (.inr fun H' => T.tup 76 rfl H') (.cons (.str _) .nil)
theorem dFAIL (T : Tx K mg) {H : Hp} : Dt K H (.ref (He.ga K "FAIL")) (dC .fail) := .tup (.inr fun H' => T.tup 78 rfl H') (.cons (.str _) .nil)
theorem nePass (T : Tx K mg) {H : Hp} {x : V} {r : CRow} {k many : Nat} {Q : VK} (hx : Dt K H x (dC r)) (h : GoodC k many r) (hm : many ≤ 24) (q : Q (.bl (!isPass r)) H) (σ : L2.St) : tC (.ref (He.ga K "PASS")) σ H fun y H2 => rNeD K x y H2 Q := by
  show rNeD K x (.ref (He.ga K "PASS")) H Q
  obtain ⟨n, o⟩ := ok_dC h hm
  refine ned_of hx (dPASS T) o (ok1 (k := 5) (okW (by decide +kernel))) (by decide) (by decide) ?_
  rw [eqPass]
  exact q
theorem neFail (T : Tx K mg) {H : Hp} {x : V} {r : CRow} {k many : Nat} {Q : VK} (hx : Dt K H x (dC r)) (h : GoodC k many r) (hm : many ≤ 24) (q : Q (.bl (!isFail r)) H) (σ : L2.St) : tC (.ref (He.ga K "FAIL")) σ H fun y H2 => rNeD K x y H2 Q := by
  show rNeD K x (.ref (He.ga K "FAIL")) H Q
  obtain ⟨n, o⟩ := ok_dC h hm
  refine ned_of hx (dFAIL T) o (ok1 (k := 5) (okW (by decide +kernel))) (by decide) (by decide) ?_
  rw [eqFail]
  exact q
theorem crow_at {H : Hp} {xs : List V} {c : List CRow} {i : Nat} {r : CRow} (h : DtAll K H xs (c.map dC)) (e : c[i]? = some r) : ∃ x, xs[i]? = some x ∧ Dt K H x (dC r) := h.at (by rw [List.getElem?_map, e]; rfl)
theorem row_len {H : Hp} {x : V} {r : CRow} (h : Dt K H x (dC r)) : ∃ t xs, x = .ref t ∧ St1 K H t xs ∧ (isEnd r = true → xs.length = 1) ∧ (isEnd r = false → xs.length = 4) := by
  cases r with
  | ask a cs o =>
    obtain ⟨t, xs, rfl, h1, h2⟩ := Dt.tupI h
    exact ⟨t, xs, rfl, h1, fun z => (nomatch z), fun _ => by rw [h2.length]; rfl⟩
  | pass =>
    obtain ⟨t, xs, rfl, h1, h2⟩ := Dt.tupI h
    exact ⟨t, xs, rfl, h1, fun _ => (by rw [h2.length]; rfl), fun z => (nomatch z)⟩
  | fail =>
    obtain ⟨t, xs, rfl, h1, h2⟩ := Dt.tupI h
    exact ⟨t, xs, rfl, h1, fun _ => (by rw [h2.length]; rfl), fun z => (nomatch z)⟩
def spWalk (K : PySem.W.Frag) : Sp := fun vs H Q _ => ∃ (x v : V) (c : List CRow) (D : List Addr) (F : Files), vs = [x, v] ∧ Dt K H x (dCk c) ∧ GoodCk c ∧ TrAt K (CT K) D H v F ∧ GoodF F ∧ Dok D H ∧
  ∀ (H' : Hp) (a : Addr) (n : Nat) (jx t : V) (j : Jr), Same H H' → H' a = some (.tup [.int (n : Int), jx, t]) → n < c.length → Dt K H' jx (dJ j) → GoodJ j → Q (.ref a) H'
theorem sc_walk : FnScope ["rows", "tree", "journal", "at", "answer"] ["rows", "tree"] (defScope s_walk) := ⟨rfl, rfl, rfl, by decide +kernel, rfl, by decide +kernel, by decide +kernel⟩
theorem cal_walk (T : Tx K mg) : Cal P w K mg base 10 "walk" (spWalk K) := by
  refine T.cal 31 23 (f_at (x := "walk") rfl) (g_at rfl) (N := ["rows", "tree", "journal", "at", "answer"]) (ps := ["rows", "tree"]) (fun _ _ _ _ _ _ us hl => match us, hl with | [_, _], _ => rfl) sc_walk (fun vs H Q E h => ?_) (fun f cdv A outer s H vs Q E hr h => ?_)
  · obtain ⟨x, v, c, D, F, rfl, _⟩ := h
    rfl
  · obtain ⟨x, v, c, D, F, rfl, hx, gc, tr, g, ok, k⟩ := h
    obtain ⟨cx, xs, rfl, hs, hd⟩ := Dt.tupI hx
    have hxl : xs.length = c.length := by rw [hd.length, List.length_map]
    have hcl := gc.len
    refine ⟨_, pss_cons (ps_set (i := 2) sc_walk.nd rfl (by first | exact Or.inl rfl | exact Or.inr rfl) (pe_lst (pa_nil))) (pss_cons (ps_set (i := 3) sc_walk.nd rfl (by first | exact Or.inl rfl | exact Or.inr rfl) (pe_int)) (pss_cons (ps_while PassesOwn.never (pt_cmpR op_gt (pe_callB call_len_seq (by rfl) (T.free 85) bv_len (pa_cons (pe_ix ix_tup (pv 0) (pv 3) (fun _ _ => rfl)) pa_nil)) (pe_int) (nomark _)) (pss_cons (ps_asg (pe_c (cal_act_actions T) hr (by decide) rfl (pa_cons (pv 1) (pa_cons (pe_ix ix_tup (pe_ix ix_tup (pv 0) (pv 3) (fun _ _ => rfl)) (pe_int) (fun _ _ => rfl)) pa_nil))) (pg_tup rfl (pgs_cons (pg_name (i := 4) sc_walk.nd rfl (by first | exact Or.inl rfl | exact Or.inr rfl)) (pgs_cons (pg_name (i := 1) sc_walk.nd rfl (by first | exact Or.inl rfl | exact Or.inr rfl)) (pgs_nil))))) (pss_cons (ps_expr (pe_bm PySem.F.plainAttrs_list PySem.F.slot_list_append PySem.F.type_list_append mt_append (pv 2) (pa_cons (pe_tup (pa_cons (pe_ix ix_tup (pe_ix ix_tup (pv 0) (pv 3) (fun _ _ => rfl)) (pe_int) (fun _ _ => rfl)) (pa_cons (pv 4) pa_nil))) pa_nil))) (pss_one (ps_set (i := 3) sc_walk.nd rfl (by first | exact Or.inl rfl | exact Or.inr rfl) (pe_c (cal_next_row T) hr (by decide) rfl (pa_cons (pe_ix ix_tup (pv 0) (pv 3) (fun _ _ => rfl)) (pa_cons (pv 4) pa_nil)))))))) (pss_one (ps_ret (pe_tup (pa_cons (pv 3) (pa_cons (pe_callTy call_tuple_of (by rfl) (T.free 89) bv_tuple (pa_cons (pv 2) pa_nil)) (pa_cons (pv 1) pa_nil)))))))), ?_⟩
    refine ⟨small (m := 0) (Nat.le_refl 0), fun B hB => ?_⟩
    have s0 : Same H (upd H B (.lst [])) := same_new hB
    refine ⟨fun m σ H' => ∃ (n : Nat) (tv : V) (v4 : Option V) (F' : Files) (es : List V) (j : Jr), σ = [some (.ref cx), some tv, some (.ref B), some (.int (n : Int)), v4] ∧ m = c.length - n ∧ n < c.length ∧ Same H H' ∧ TrAt K (CT K) D H' tv F' ∧ GoodF F' ∧ H' B = some (.lst es) ∧ DtAll K H' es (j.map dE) ∧ (∀ e ∈ j, GoodE e) ∧ j.length ≤ n, ⟨c.length, 0, v, _, F, [], [], rfl, rfl, gc.pos, s0, tr.same s0, g, upd_same, .nil, fun _ h => absurd h (by simp), Nat.le_refl 0⟩, ?_⟩
    rintro m σ H1 ⟨n, tv, v4, F', es, j, rfl, rfl, hn, s1, ht, gF, hl, he, gE, hj⟩
    obtain ⟨r, hr1⟩ : ∃ r, c[n]? = some r := ⟨c[n], List.getElem?_eq_getElem hn⟩
    obtain ⟨rx, hrx, hrd⟩ := crow_at hd hr1
    have gr := gc.row n r hr1
    obtain ⟨t, ys, rfl, hts, l1, l4⟩ := row_len hrd
    have hix := atI_nat hrx
    refine ⟨_, rfl, _, rfl, cx, xs, (n : Int), .ref t, rfl, rfl, file_stt s1 hs, hix, t, ys, rfl, .inr (file_stt s1 hts), _, _, rfl, rfl, _, rfl, ?_⟩
    cases r with
    | ask a cs o =>
      have h4 := l4 rfl
      refine iteP (by omega) ?_
      obtain ⟨iq, ga, g6, gnd, gcc, go1, go2⟩ := gr
      obtain ⟨t', x0, x1, x2, x3, e', hs4, e0, e1, e2, e3⟩ := hrd.fourI
      cases e'
      refine ⟨fun σ H' => ∃ m', m' < c.length - n ∧ ∃ (n : Nat) (tv : V) (v4 : Option V) (F' : Files) (es : List V) (j : Jr), σ = [some (.ref cx), some tv, some (.ref B), some (.int (n : Int)), v4] ∧ m' = c.length - n ∧ n < c.length ∧ Same H H' ∧ TrAt K (CT K) D H' tv F' ∧ GoodF F' ∧ H' B = some (.lst es) ∧ DtAll K H' es (j.map dE) ∧ (∀ e ∈ j, GoodE e) ∧ j.length ≤ n, fun σ' H' h => h, ?_⟩
      refine ⟨_, rfl, _, rfl, _, rfl, cx, xs, (n : Int), .ref t, rfl, rfl, file_stt s1 hs, hix, t, _, 1, _, rfl, rfl, file_stt s1 hs4, rfl, tv, x1, D, F', a, rfl, ht, gF, ok.same s1, e1.same s1, ga, fun H2 b y3 t3 s2 hb hy ht3 => ?_⟩
      refine ⟨b, _, rfl, .inl (.inl hb), rfl, _, _, rfl, _, _, rfl, rfl, ?_⟩
      have s12 := s1.trans s2
      refine ⟨_, rfl, .inl ⟨rfl, _, .inl (.inl (s2 _ _ hl))⟩, _, rfl, _, rfl, cx, xs, (n : Int), .ref t, rfl, rfl, file_stt s12 hs, hix, t, _, 1, _, rfl, rfl, file_stt s12 hs4, rfl, _, rfl, small (m := 2) (Nat.le_refl 2), fun q hq => ?_⟩
      have s3 : Same H2 (upd H2 q (.tup [x1, y3])) := same_new hq
      have s13 := s12.trans s3
      have hBn : H B = none := hB
      have hl3 := s3 _ _ (s2 _ _ hl)
      refine ⟨B, es, .ref q, rfl, rfl, hl3, smallt (m := 30) ?_, ?_⟩
      · rw [he.length, List.length_map]
        omega
      have sm : Same H (upd (upd H2 q (.tup [x1, y3])) B (.lst (es ++ [.ref q]))) := same_mut s13 hBn
      have tx : TX (upd H2 q (.tup [x1, y3])) (upd (upd H2 q (.tup [x1, y3])) B (.lst (es ++ [.ref q]))) := tx_upd (by rw [hl3]; rfl)
      have hRg := goodR_act gF ga
      refine ⟨_, rfl, _, rfl, cx, xs, (n : Int), .ref t, rfl, rfl, file_stt sm hs, hix, _, rfl, .ref t, y3, a, cs, o, (actF F' a).1, rfl, hrd.same sm, (hy.same s3).tx tx, hRg, fun cc hcc => (gcc cc hcc).1, fun n' hn' => ?_⟩
      have hn2 : n < n' ∧ n' < c.length := by
        rcases hn' with rfl | ⟨cc, hcc, rfl⟩
        · exact ⟨go1, go2⟩
        · exact (gcc cc hcc).2
      refine ⟨c.length - n', by omega, n', t3, _, (actF F' a).2, es ++ [.ref q], j ++ [(a, (actF F' a).1)], rfl, rfl, hn2.2, sm, ?_, goodF_act gF ga, upd_same, ?_, ?_, ?_⟩
      · refine TrAt.ev (C := CT K) ?_ (ht3.same s3)
        exact ev_upd (by rw [hl3]; rfl)
      · rw [List.map_append]
        refine DtAll.snoc ((he.same (s2.trans s3)).tx tx) ?_
        exact (Dt.two upd_same ((e1.same s12).same s3) (hy.same s3)).tx tx
      · intro e he'
        rcases List.mem_append.mp he' with h | h
        · exact gE e h
        · rw [List.mem_singleton.mp h]
          exact ⟨ga, hRg⟩
      · rw [List.length_append]
        show j.length + 1 ≤ n'
        omega
    | _ =>
      have h1 := l1 rfl
      refine iteN (by omega) ?_
      refine ⟨_, rfl, _, rfl, B, es, rfl, .inl ⟨.inl (.inl hl), fun l hl' => ⟨_, rfl, small (m := 3) (Nat.le_refl 3), fun q hq => ?_⟩⟩⟩
      have s3 : Same H1 (upd H1 l (.tup es)) := same_new hl'
      have s4 : Same (upd H1 l (.tup es)) (upd (upd H1 l (.tup es)) q (.tup [.int (n : Int), .ref l, tv])) := same_new hq
      refine k _ q n (.ref l) tv j ((s1.trans s3).trans s4) upd_same hn ?_ ⟨gE, by omega⟩
      exact (Dt.new upd_same (he.same s3)).same s4
end
end Sa
/-! text D17 -/
/-! checks.py -/
namespace Sa
open PySem PySem.Spec L2 PyProof.Rows
section
variable {P : Program} {w : World} {K : PySem.W.Frag} {mg : Str → Option Value} {base : Heap}
theorem atI_end {α : Type} {xs : List α} {n : Nat} {v : α} (hn : xs.length = n) (hp : 1 ≤ n) (h : xs[n - 1]? = some v) : atI xs (-1) = some v := by
  subst hn
  unfold atI ixN
  rw [if_neg (by omega), if_pos (by omega)]
  have e : (-1 + (xs.length : Int)).toNat = xs.length - 1 := by omega
  rw [e]
  exact h
theorem eqPassV (T : Tx K mg) {H : Hp} {x : V} {r : CRow} {k many : Nat} {Q : VK} (hx : Dt K H x (dC r)) (h : GoodC k many r) (hm : many ≤ 24) (q : Q (.bl (isPass r)) H) (σ : L2.St) : tC (.ref (He.ga K "PASS")) σ H fun y H2 => rEqD K x y H2 Q := by
  show rEqD K x (.ref (He.ga K "PASS")) H Q
  obtain ⟨n, o⟩ := ok_dC h hm
  refine eqd_of hx (dPASS T) o (ok1 (k := 5) (okW (by decide +kernel))) (by decide) (by decide) ?_
  rw [eqPass]
  exact q
def spIsCheck (K : PySem.W.Frag) : Sp := fun vs H Q _ => ∃ (x : V) (c : List CRow), vs = [x] ∧ Dt K H x (dCk c) ∧ GoodCk c ∧ ∀ H', Same H H' → Q (.bl true) H'
theorem sc_is_check : FnScope ["check", "at", "row"] ["check"] (defScope s_is_check) := ⟨rfl, rfl, rfl, by decide +kernel, rfl, by decide +kernel, by decide +kernel⟩
theorem cal_is_check (T : Tx K mg) : Cal P w K mg base 6 "_is_check" (spIsCheck K) := by
  refine T.cal 32 24 (f_at (x := "_is_check") rfl) (g_at rfl) (N := ["check", "at", "row"]) (ps := ["check"]) (fun _ _ _ _ _ _ us hl => match us, hl with | [_], _ => rfl) sc_is_check (fun vs H Q E h => ?_) (fun f cdv A outer s H vs Q E hr h => ?_)
  · obtain ⟨x, c, rfl, _⟩ := h
    rfl
  · obtain ⟨x, c, rfl, hx, gc, k⟩ := h
    obtain ⟨cx, xs, rfl, hs, hd⟩ := Dt.tupI hx
    have hxl : xs.length = c.length := by rw [hd.length, List.length_map]
    have hcl := gc.len
    have hcp := gc.pos
    obtain ⟨r, hr1, hre⟩ := gc.last
    obtain ⟨rx, hrx, hrd⟩ := crow_at hd hr1
    have hend := atI_end hxl hcp hrx
    have gr := gc.row _ r hr1
    refine ⟨_, pss_cons (ps_if (PW.pt (pw_or (pt_not (pt_chain op_le op_le (pe_int) (pe_callB call_len_seq (by rfl) (T.free 85) bv_len (pa_cons (pv 0) pa_nil)) (pe_gc rfl (T.gint 73)))) (pw_or1 (PW.pt (pw_and (pt_cmpR (op_neD hr.units) (pe_ix ix_tup (pv 0) (pe_un un_neg (pe_int)) (fun _ _ => rfl)) (pe_gc rfl (T.gref 75)) (nomark _)) (pw_and1 (pt_cmpR (op_neD hr.units) (pe_ix ix_tup (pv 0) (pe_un un_neg (pe_int)) (fun _ _ => rfl)) (pe_gc rfl (T.gref 77)) (nomark _)))))))) (pss_one (ps_ret (pe_bl))) (pss_nil)) (pss_cons (ps_for PassesOwn.never rfl (pi_enumT (by rfl) (T.free 93) (pa_cons (pv 0) pa_nil)) (pg_tup rfl (pgs_cons (pg_name (i := 1) sc_is_check.nd rfl (by first | exact Or.inl rfl | exact Or.inr rfl)) (pgs_cons (pg_name (i := 2) sc_is_check.nd rfl (by first | exact Or.inl rfl | exact Or.inr rfl)) (pgs_nil)))) (pss_one (ps_if (PW.pt (pw_and (pt_cmpR (op_neD hr.units) (pv 2) (pe_gc rfl (T.gref 75)) (nomark _)) (pw_and (pt_cmpR (op_neD hr.units) (pv 2) (pe_gc rfl (T.gref 77)) (nomark _)) (pw_and1 (pt_not (PW.pt (pw_and (pt_val (pe_c (cal_is_question T) hr (by decide) rfl (pa_cons (pe_ix ix_tup (pv 2) (pe_int) (fun _ _ => rfl)) pa_nil))) (pw_and1 (pt_val (pe_c (cal_is_good_row T) hr (by decide) rfl (pa_cons (pv 2) (pa_cons (pv 1) (pa_cons (pe_callB call_len_seq (by rfl) (T.free 85) bv_len (pa_cons (pv 0) pa_nil)) pa_nil))))))))))))) (pss_one (ps_ret (pe_bl))) (pss_nil)))) (pss_one (ps_ret (pe_bl)))), ?_⟩
    refine ⟨_, rfl, cx, xs, rfl, .inr hs.sq, _, _, rfl, rfl, _, rfl, iteP (by omega) ⟨_, _, rfl, rfl, _, rfl, ?_⟩⟩
    have e1 : (!decide ((xs.length : Int) ≤ 24)) = false := by rw [decide_eq_true (by omega)]; rfl
    refine iteEn e1 ?_
    refine ⟨_, rfl, _, rfl, cx, xs, (-1 : Int), rx, rfl, rfl, hs.sq, hend, ?_⟩
    refine nePass T hrd gr hcl ?_ _
    refine ⟨_, rfl, ?_⟩
    cases r with
    | ask a cs o => cases hre
    | pass =>
      refine iteEn rfl (iteEn rfl ?_)
      refine ⟨_, rfl, cx, xs, rfl, hs.sq, for_it walk_enumT (fun i σ H' => ∃ v1 v2, σ = [some (.ref cx), v1, v2] ∧ Same H H') ⟨_, _, rfl, Same.refl H⟩ (fun i σ H' _ ⟨_, _, _, q⟩ => file_stt q hs) ?_ ?_⟩
      · rintro i y σ H1 H2 hi ⟨v1, v2, rfl, s1⟩ ⟨T2, i0, x0, rfl, hT, rfl, q1, q2⟩
        cases q1
        have s2 : Same H1 (upd H1 T2 (.tup [.int (i : Nat), x0])) := same_new hT
        have s12 := s1.trans s2
        obtain ⟨d0, h1, h2⟩ := hd.get q2
        rw [List.getElem?_map] at h1
        obtain ⟨r', h3, rfl⟩ := Option.map_eq_some_iff.mp h1
        have gr' := gc.row _ r' h3
        refine ⟨T2, _, rfl, .inl (.inl upd_same), rfl, _, _, rfl, _, _, rfl, rfl, ?_⟩
        refine ⟨_, rfl, ?_⟩
        refine nePass T (h2.same s12) gr' hcl ?_ _
        refine ⟨_, rfl, ?_⟩
        cases r' with
        | pass => exact iteEn rfl (iteEn rfl ⟨_, _, rfl, s12⟩)
        | fail =>
          refine iteE rfl ⟨_, rfl, ?_⟩
          refine neFail T (h2.same s12) gr' hcl ?_ _
          exact ⟨_, rfl, iteEn rfl (iteEn rfl ⟨_, _, rfl, s12⟩)⟩
        | ask a cs o =>
          refine iteE rfl ⟨_, rfl, ?_⟩
          refine neFail T (h2.same s12) gr' hcl ?_ _
          refine ⟨_, rfl, iteE rfl ?_⟩
          obtain ⟨t, x0, x1, x2, x3, rfl, hs4, e0, ea, ec, eo⟩ := h2.fourI
          refine ⟨_, rfl, t, _, 1, _, rfl, rfl, file_stt s12 hs4, rfl, x1, a, rfl, ea.same s12, ?_⟩
          have iq := gr'.1
          rw [iq]
          refine ⟨_, rfl, iteE rfl ?_⟩
          refine ⟨_, rfl, _, rfl, _, rfl, cx, xs, rfl, .inr (file_stt s12 hs), ?_⟩
          rw [hxl]
          exact ⟨_, a, cs, o, i, c.length, rfl, h2.same s12, gr', hcl, fun H3 s3 => ⟨_, rfl, iteEn rfl ⟨_, _, rfl, s12.trans s3⟩⟩⟩
      · rintro σ H1 ⟨v1, v2, rfl, s1⟩
        exact k H1 s1
    | fail =>
      refine iteE rfl ⟨_, rfl, _, rfl, cx, xs, (-1 : Int), rx, rfl, rfl, hs.sq, hend, ?_⟩
      refine neFail T hrd gr hcl ?_ _
      refine ⟨_, rfl, iteEn rfl ?_⟩
      refine ⟨_, rfl, cx, xs, rfl, hs.sq, for_it walk_enumT (fun i σ H' => ∃ v1 v2, σ = [some (.ref cx), v1, v2] ∧ Same H H') ⟨_, _, rfl, Same.refl H⟩ (fun i σ H' _ ⟨_, _, _, q⟩ => file_stt q hs) ?_ ?_⟩
      · rintro i y σ H1 H2 hi ⟨v1, v2, rfl, s1⟩ ⟨T2, i0, x0, rfl, hT, rfl, q1, q2⟩
        cases q1
        have s2 : Same H1 (upd H1 T2 (.tup [.int (i : Nat), x0])) := same_new hT
        have s12 := s1.trans s2
        obtain ⟨d0, h1, h2⟩ := hd.get q2
        rw [List.getElem?_map] at h1
        obtain ⟨r', h3, rfl⟩ := Option.map_eq_some_iff.mp h1
        have gr' := gc.row _ r' h3
        refine ⟨T2, _, rfl, .inl (.inl upd_same), rfl, _, _, rfl, _, _, rfl, rfl, ?_⟩
        refine ⟨_, rfl, ?_⟩
        refine nePass T (h2.same s12) gr' hcl ?_ _
        refine ⟨_, rfl, ?_⟩
        cases r' with
        | pass => exact iteEn rfl (iteEn rfl ⟨_, _, rfl, s12⟩)
        | fail =>
          refine iteE rfl ⟨_, rfl, ?_⟩
          refine neFail T (h2.same s12) gr' hcl ?_ _
          exact ⟨_, rfl, iteEn rfl (iteEn rfl ⟨_, _, rfl, s12⟩)⟩
        | ask a cs o =>
          refine iteE rfl ⟨_, rfl, ?_⟩
          refine neFail T (h2.same s12) gr' hcl ?_ _
          refine ⟨_, rfl, iteE rfl ?_⟩
          obtain ⟨t, x0, x1, x2, x3, rfl, hs4, e0, ea, ec, eo⟩ := h2.fourI
          refine ⟨_, rfl, t, _, 1, _, rfl, rfl, file_stt s12 hs4, rfl, x1, a, rfl, ea.same s12, ?_⟩
          have iq := gr'.1
          rw [iq]
          refine ⟨_, rfl, iteE rfl ?_⟩
          refine ⟨_, rfl, _, rfl, _, rfl, cx, xs, rfl, .inr (file_stt s12 hs), ?_⟩
          rw [hxl]
          exact ⟨_, a, cs, o, i, c.length, rfl, h2.same s12, gr', hcl, fun H3 s3 => ⟨_, rfl, iteEn rfl ⟨_, _, rfl, s12.trans s3⟩⟩⟩
      · rintro σ H1 ⟨v1, v2, rfl, s1⟩
        exact k H1 s1
def spCheckCheck (K : PySem.W.Frag) : Sp := fun vs H Q _ => ∃ (x : V) (c : List CRow), vs = [x] ∧ Dt K H x (dCk c) ∧ GoodCk c ∧ ∀ H', Same H H' → Q .non H'
theorem sc_check_check : FnScope ["check"] ["check"] (defScope s_check_check) := ⟨rfl, rfl, rfl, by decide +kernel, rfl, by decide +kernel, by decide +kernel⟩
theorem cal_check_check (T : Tx K mg) : Cal P w K mg base 7 "check_check" (spCheckCheck K) := by
  refine T.cal 33 25 (f_at (x := "check_check") rfl) (g_at rfl) (N := ["check"]) (ps := ["check"]) (fun _ _ _ _ _ _ us hl => match us, hl with | [_], _ => rfl) sc_check_check (fun vs H Q E h => ?_) (fun f cdv A outer s H vs Q E hr h => ?_)
  · obtain ⟨x, c, rfl, _⟩ := h
    rfl
  · obtain ⟨x, c, rfl, hx, gc, k⟩ := h
    refine ⟨_, pss_one (ps_if (pt_not (pt_val (pe_c (cal_is_check T) hr (by decide) rfl (pa_cons (pv 0) pa_nil)))) (pss_one (ps_never)) (pss_nil)), ?_⟩
    exact ⟨_, rfl, x, c, rfl, hx, gc, fun H1 s1 => ⟨_, rfl, iteEn rfl (k H1 s1)⟩⟩
def spVerdict (K : PySem.W.Frag) : Sp := fun vs H Q _ => ∃ (x v : V) (c : List CRow) (D : List Addr) (F : Files), vs = [x, v] ∧ Dt K H x (dCk c) ∧ GoodCk c ∧ TrAt K (CT K) D H v F ∧ GoodF F ∧ Dok D H ∧
  ∀ (H' : Hp) (a : Addr) (b : Bool) (jx : V) (j : Jr), Same H H' → H' a = some (.tup [.bl b, jx]) → Dt K H' jx (dJ j) → GoodJ j → Q (.ref a) H'
theorem sc_verdict : FnScope ["check", "tree", "at", "journal", "_"] ["check", "tree"] (defScope s_verdict) := ⟨rfl, rfl, rfl, by decide +kernel, rfl, by decide +kernel, by decide +kernel⟩
theorem cal_verdict (T : Tx K mg) : Cal P w K mg base 11 "verdict" (spVerdict K) := by
  refine T.cal 34 26 (f_at (x := "verdict") rfl) (g_at rfl) (N := ["check", "tree", "at", "journal", "_"]) (ps := ["check", "tree"]) (fun _ _ _ _ _ _ us hl => match us, hl with | [_, _], _ => rfl) sc_verdict (fun vs H Q E h => ?_) (fun f cdv A outer s H vs Q E hr h => ?_)
  · obtain ⟨x, v, c, D, F, rfl, _⟩ := h
    rfl
  · obtain ⟨x, v, c, D, F, rfl, hx, gc, tr, g, ok, k⟩ := h
    obtain ⟨cx, xs, rfl, hs, hd⟩ := Dt.tupI hx
    refine ⟨_, pss_cons (ps_asg (pe_c (cal_walk T) hr (by decide) rfl (pa_cons (pv 0) (pa_cons (pv 1) pa_nil))) (pg_tup rfl (pgs_cons (pg_name (i := 2) sc_verdict.nd rfl (by first | exact Or.inl rfl | exact Or.inr rfl)) (pgs_cons (pg_name (i := 3) sc_verdict.nd rfl (by first | exact Or.inl rfl | exact Or.inr rfl)) (pgs_cons (pg_name (i := 4) sc_verdict.nd rfl (by first | exact Or.inl rfl | exact Or.inr rfl)) (pgs_nil)))))) (pss_one (ps_ret (pe_tup (pa_cons (pe_cmpR (op_eqD hr.units) (pe_ix ix_tup (pv 0) (pv 2) (fun _ _ => rfl)) (pe_gc rfl (T.gref 75)) (nomark _)) (pa_cons (pv 3) pa_nil))))), ?_⟩
    refine ⟨_, rfl, _, rfl, .ref cx, v, c, D, F, rfl, hx, gc, tr, g, ok, fun H1 a n jx t j s1 ha hn hj gj => ?_⟩
    refine ⟨a, _, rfl, .inl (.inl ha), rfl, _, _, rfl, _, _, rfl, _, _, rfl, rfl, ?_⟩
    obtain ⟨r, hr1⟩ : ∃ r, c[n]? = some r := ⟨c[n], List.getElem?_eq_getElem hn⟩
    obtain ⟨rx, hrx, hrd⟩ := crow_at hd hr1
    refine ⟨_, rfl, _, rfl, cx, xs, (n : Int), rx, rfl, rfl, file_stt s1 hs, atI_nat hrx, ?_⟩
    refine eqPassV T (hrd.same s1) (gc.row n r hr1) gc.len ?_ _
    refine ⟨_, rfl, small (m := 2) (Nat.le_refl 2), fun q hq => ?_⟩
    exact k _ q (isPass r) jx j (s1.trans (same_new hq)) upd_same (hj.same (same_new hq)) gj
end
end Sa
/-! text E1 -/
/-! trunk.Line -/
namespace Sa
open PySem PySem.Spec L2 PyProof.Rows
section
variable {P : Program} {w : World} {K : PySem.W.Frag} {mg : Str → Option Value} {base : Heap}
abbrev CL (K : PySem.W.Frag) : Addr := He.ga K "Line"
abbrev CS (K : PySem.W.Frag) : Addr := He.ga K "Session"
abbrev CK (K : PySem.W.Frag) : Addr := He.ga K "Trunk"
theorem clL (T : Tx K mg) : Cls K (CL K) := T.cls 108 rfl
theorem clS (T : Tx K mg) : Cls K (CS K) := T.cls 101 rfl
theorem clK (T : Tx K mg) : Cls K (CK K) := T.cls 113 rfl
theorem nL_s (T : Tx K mg) : NoAttr K (CL K) "sessions" := T.noat 110 rfl
theorem nL_p (T : Tx K mg) : NoAttr K (CL K) "is_protected" := T.noat 111 rfl
theorem nL_e (T : Tx K mg) : NoAttr K (CL K) "_events" := T.noat 112 rfl
/-- the line's own objects -/
abbrev lnF (ll : Addr) (p : Bool) (e : Int) : List (Str × V) := [("sessions", .ref ll), ("is_protected", .bl p), ("_events", .int e)]
def idx (s : List Nat) : List V := s.map fun n : Nat => V.int (n : Int)
def LnAt (K : PySem.W.Frag) (H : Hp) (ln dl ll : Addr) (s : List Nat) (p : Bool) : Prop := ∃ e : Int, H ln = some (.ins (CL K) dl (lnF ll p e)) ∧ H ll = some (.lst (idx s)) ∧ s.length ≤ 100
/-- all but the line's stays -/
def LnK (ln ll : Addr) (H H' : Hp) : Prop := ∀ a, a ≠ ln → a ≠ ll → H' a = H a
theorem LnK.refl (ln ll : Addr) (H : Hp) : LnK ln ll H H := fun _ _ _ => rfl
theorem LnK.trans {ln ll : Addr} {H H1 H2 : Hp} (a : LnK ln ll H H1) (b : LnK ln ll H1 H2) : LnK ln ll H H2 := fun x h1 h2 => (b x h1 h2).trans (a x h1 h2)
theorem lnk_ln {ln ll : Addr} {H : Hp} {o : HO} : LnK ln ll H (upd H ln o) := fun a h1 _ => upd_ne h1
theorem lnk_ll {ln ll : Addr} {H : Hp} {o : HO} : LnK ln ll H (upd H ll o) := fun a _ h2 => upd_ne h2
theorem LnAt.ne {H : Hp} {ln dl ll : Addr} {s : List Nat} {p : Bool} (h : LnAt K H ln dl ll s p) : ln ≠ ll := by
  obtain ⟨e, h1, h2, _⟩ := h
  exact ne_of h1 h2 (by intro z; cases z)
theorem idx_ints (s : List Nat) : idx s = (s.map fun n : Nat => (n : Int)).map V.int := by
  unfold idx
  rw [List.map_map]
  rfl
theorem inV_idx {n : Nat} : ∀ {s : List Nat}, inV (.int (n : Int)) (idx s) = decide (n ∈ s)
  | [] => by simp [inV, idx]
  | k :: s => by
    have ih := inV_idx (n := n) (s := s)
    have e : eqV (.int (k : Int)) (.int (n : Int)) = decide (n = k) := by
      unfold eqV
      by_cases h : n = k
      · simp [h]
      · simp [h]
        omega
    unfold inV at ih ⊢
    unfold idx at ih ⊢
    rw [List.map_cons, List.any_cons, ih, e]
    by_cases h : n = k
    · subst h
      simp
    · simp [h]
theorem flat_idx (s : List Nat) : (idx s).all flatV = true := by
  rw [List.all_eq_true]
  intro x hx
  obtain ⟨k, _, rfl⟩ := List.mem_map.mp hx
  rfl
theorem lnf_len {ll : Addr} {p : Bool} {e : Int} : (lnF ll p e).length < 1000 := by
  show 3 < 1000
  decide
theorem erase_mapN : ∀ (l : List Nat) (j : Nat), (l.map fun n : Nat => (n : Int)).eraseIdx j = (l.eraseIdx j).map fun n : Nat => (n : Int)
  | [], j => by simp
  | a :: r, 0 => by simp
  | a :: r, j + 1 => by
    have ih := erase_mapN r j
    simp [ih]
theorem erase_at {n : Nat} : ∀ {s : List Nat}, n ∈ s → ∃ j, s[j]? = some n ∧ (∀ m : Nat, m < j → s[m]? ≠ some n) ∧ s.eraseIdx j = s.erase n
  | [], h => absurd h (by simp)
  | k :: s, h => by
    by_cases e : k = n
    · subst e
      exact ⟨0, rfl, fun m hm => absurd hm (by omega), by rw [List.erase_cons_head]; rfl⟩
    · have h2 : n ∈ s := by
        rcases List.mem_cons.mp h with q | q
        · exact absurd q.symm e
        · exact q
      obtain ⟨j, j1, j2, j3⟩ := erase_at h2
      refine ⟨j + 1, by simpa using j1, fun m hm => ?_, ?_⟩
      · cases m with
        | zero => simpa using e
        | succ m => simpa using j2 m (by omega)
      · rw [List.eraseIdx_cons_succ, j3, List.erase_cons_tail (by simpa using e)]
def spLnFirst (K : PySem.W.Frag) : Sp := fun vs H Q _ => ∃ (ln dl ll : Addr) (s : List Nat) (p : Bool), vs = [.ref ln] ∧ LnAt K H ln dl ll s p ∧ (s = [] → Q .non H) ∧ ∀ n r, s = n :: r → Q (.int (n : Int)) H
theorem sc_Line_first : FnScope ["self"] ["self"] (defScope m_Line_first) := ⟨rfl, rfl, rfl, by decide +kernel, rfl, by decide +kernel, by decide +kernel⟩
theorem met_Line_first (T : Tx K mg) : Met P w K mg base 1 (CL K) "first" (spLnFirst K) := by
  refine T.met 40 131 108 rfl rfl rfl (N := ["self"]) (ps := ["self"]) (fun _ _ _ _ _ _ us hl => match us, hl with | [_], _ => rfl) sc_Line_first (fun vs H Q E h => ?_) (fun f cdv A outer s H vs Q E hr h => ?_)
  · obtain ⟨ln, dl, ll, s, p, rfl, _⟩ := h
    rfl
  · obtain ⟨ln, dl, ll, s, p, rfl, ⟨e, h1, h2, hl⟩, k1, k2⟩ := h
    refine ⟨_, pss_one (ps_ret (pe_ifExp (pt_truth (pe_fld (pv 0) rfl) (by intro _; rfl)) (pe_ix ix_list (pe_fld (pv 0) rfl) (pe_int) (fun _ _ => rfl)) (pe_non))), ?_⟩
    refine ⟨_, rfl, ln, CL K, dl, _, _, rfl, h1, clL T, nL_s T, rfl, ?_⟩
    cases s with
    | nil => exact ⟨false, .inl ⟨_, .inl (.inl h2), rfl⟩, iteEn rfl (k1 rfl)⟩
    | cons n r => exact ⟨true, .inl ⟨_, .inl (.inl h2), rfl⟩, iteE rfl ⟨_, rfl, ln, CL K, dl, _, _, rfl, h1, clL T, nL_s T, rfl, ll, _, 0, _, rfl, rfl, .inl (.inl h2), at0, k2 n r rfl⟩⟩
def spLnLeave (K : PySem.W.Frag) : Sp := fun vs H Q _ => ∃ (ln dl ll : Addr) (s : List Nat) (p : Bool) (n : Nat), vs = [.ref ln, .int (n : Int)] ∧ LnAt K H ln dl ll s p ∧ ∀ H', LnK ln ll H H' → LnAt K H' ln dl ll (s.erase n) (if s.head? = some n then false else p) → Q .non H'
theorem sc_Line_leave : FnScope ["self", "session"] ["self", "session"] (defScope m_Line_leave) := ⟨rfl, rfl, rfl, by decide +kernel, rfl, by decide +kernel, by decide +kernel⟩
theorem met_Line_leave (T : Tx K mg) : Met P w K mg base 1 (CL K) "leave" (spLnLeave K) := by
  refine T.met 41 132 108 rfl rfl rfl (N := ["self", "session"]) (ps := ["self", "session"]) (fun _ _ _ _ _ _ us hl => match us, hl with | [_, _], _ => rfl) sc_Line_leave (fun vs H Q E h => ?_) (fun f cdv A outer s H vs Q E hr h => ?_)
  · obtain ⟨ln, dl, ll, s, p, n, rfl, _⟩ := h
    rfl
  · obtain ⟨ln, dl, ll, s, p, n, rfl, hln, k⟩ := h
    have hne := hln.ne
    obtain ⟨e, h1, h2, hl⟩ := hln
    refine ⟨_, pss_cons (ps_if (pt_cmpR op_notIn_seq (pv 1) (pe_fld (pv 0) rfl) (by rfl)) (pss_one (ps_retN)) (pss_nil)) (pss_cons (ps_if (pt_cmpR op_eq (pv 1) (pe_ix ix_list (pe_fld (pv 0) rfl) (pe_int) (fun _ _ => rfl)) (nomark _)) (pss_cons (ps_fld (pv 0) (pe_bl) rfl) (pss_one (ps_fld (pv 0) (pe_int) rfl))) (pss_nil)) (pss_one (ps_expr (pe_bm PySem.F.plainAttrs_list PySem.F.slot_list_remove PySem.F.type_list_remove mt_remove (pe_fld (pv 0) rfl) (pa_cons (pv 1) pa_nil))))), ?_⟩
    have hin : inV (.int (n : Int)) (idx s) = decide (n ∈ s) := inV_idx
    refine ⟨_, rfl, _, rfl, ln, CL K, dl, _, _, rfl, h1, clL T, nL_s T, rfl, ll, idx s, rfl, .inl (.inl (.inl h2)), rfl, flat_idx s, _, rfl, ?_⟩
    by_cases hm : n ∈ s
    · refine iteEn (by show (!inV (.int (n : Int)) (idx s)) = false; rw [hin, decide_eq_true hm]; rfl) ?_
      obtain ⟨j, j1, j2, j3⟩ := erase_at hm
      have hj1 : (s.map fun n : Nat => (n : Int))[j]? = some (n : Int) := by rw [List.getElem?_map, j1]; rfl
      have hj2 : ∀ m : Nat, m < j → (s.map fun n : Nat => (n : Int))[m]? ≠ some (n : Int) := fun m hmj z => by
        rw [List.getElem?_map] at z
        obtain ⟨q, hq, e⟩ := Option.map_eq_some_iff.mp z
        have : q = n := by omega
        rw [this] at hq
        exact j2 m hmj hq
      have hj3 : (((s.map fun n : Nat => (n : Int)).eraseIdx j).map V.int) = idx (s.erase n) := by
        rw [erase_mapN, j3, idx_ints]
      have hlen : (s.erase n).length ≤ 100 := Nat.le_trans (List.length_erase_le) hl
      cases s with
      | nil => exact absurd hm (by simp)
      | cons n0 r =>
        refine ⟨_, rfl, _, rfl, ln, CL K, dl, _, _, rfl, h1, clL T, nL_s T, rfl, ll, _, 0, _, rfl, rfl, .inl (.inl h2), at0, rfl, _, rfl, ?_⟩
        by_cases e0 : n0 = n
        · subst e0
          refine iteP rfl ⟨_, rfl, ln, CL K, dl, _, rfl, h1, clL T, nL_p T, lnf_len, ?_⟩
          have h3 : upd H ln (.ins (CL K) dl (putF "is_protected" (.bl false) (lnF ll p e))) ln = some (.ins (CL K) dl (lnF ll false e)) := by rw [upd_same]; rfl
          refine ⟨_, rfl, ln, CL K, dl, _, rfl, h3, clL T, nL_e T, lnf_len, ?_⟩
          have h4 : ∀ H0 : Hp, upd H0 ln (.ins (CL K) dl (putF "_events" (.int 0) (lnF ll false e))) ln = some (.ins (CL K) dl (lnF ll false 0)) := fun H0 => by rw [upd_same]; rfl
          have h5 := h4 (upd H ln (.ins (CL K) dl (putF "is_protected" (.bl false) (lnF ll p e))))
          refine ⟨_, rfl, ln, CL K, dl, _, _, rfl, h5, clL T, nL_s T, rfl, .inl ⟨rfl, idx (n0 :: r), .inl (.inl ?_)⟩, _, rfl, ll, (n0 :: r).map (fun n : Nat => (n : Int)), (n0 : Int), j, rfl, rfl, ?_, hj1, hj2, ?_⟩
          · rw [upd_ne (Ne.symm hne), upd_ne (Ne.symm hne)]
            exact h2
          · rw [upd_ne (Ne.symm hne), upd_ne (Ne.symm hne), h2, idx_ints]
          · rw [hj3]
            refine k _ ((lnk_ln.trans lnk_ln).trans lnk_ll) ⟨0, ?_, upd_same, hlen⟩
            rw [upd_ne hne, h5, List.head?_cons, if_pos rfl]
        · refine iteN (fun z => e0 (by have := V.int.inj z; omega)) ?_
          refine ⟨_, rfl, ln, CL K, dl, _, _, rfl, h1, clL T, nL_s T, rfl, .inl ⟨rfl, idx (n0 :: r), .inl (.inl h2)⟩, _, rfl, ll, (n0 :: r).map (fun n : Nat => (n : Int)), (n : Int), j, rfl, rfl, by rw [h2, idx_ints], hj1, hj2, ?_⟩
          rw [hj3]
          refine k _ lnk_ll ⟨e, ?_, upd_same, hlen⟩
          rw [upd_ne hne, h1, List.head?_cons, if_neg (fun z => e0 (Option.some.inj z))]
    · refine iteE (by show (!inV (.int (n : Int)) (idx s)) = true; rw [hin, decide_eq_false hm]; rfl) ?_
      refine k H (LnK.refl _ _ _) ⟨e, ?_, ?_, ?_⟩
      · rw [h1, if_neg]
        intro z
        exact hm (List.mem_of_head? z)
      · rw [List.erase_of_not_mem hm]
        exact h2
      · rw [List.erase_of_not_mem hm]
        exact hl
def spLnJoin (K : PySem.W.Frag) : Sp := fun vs H Q _ => ∃ (ln dl ll : Addr) (s : List Nat) (p : Bool) (n : Nat), vs = [.ref ln, .int (n : Int)] ∧ LnAt K H ln dl ll s p ∧ s.length < 100 ∧ ∀ H', LnK ln ll H H' → LnAt K H' ln dl ll (s ++ [n]) (if s = [] then true else p) → Q .non H'
theorem sc_Line_join : FnScope ["self", "session"] ["self", "session"] (defScope m_Line_join) := ⟨rfl, rfl, rfl, by decide +kernel, rfl, by decide +kernel, by decide +kernel⟩
theorem met_Line_join (T : Tx K mg) : Met P w K mg base 1 (CL K) "join" (spLnJoin K) := by
  refine T.met 42 133 108 rfl rfl rfl (N := ["self", "session"]) (ps := ["self", "session"]) (fun _ _ _ _ _ _ us hl => match us, hl with | [_, _], _ => rfl) sc_Line_join (fun vs H Q E h => ?_) (fun f cdv A outer s H vs Q E hr h => ?_)
  · obtain ⟨ln, dl, ll, s, p, n, rfl, _⟩ := h
    rfl
  · obtain ⟨ln, dl, ll, s, p, n, rfl, hln, h100, k⟩ := h
    have hne := hln.ne
    obtain ⟨e, h1, h2, hl⟩ := hln
    refine ⟨_, pss_cons (ps_expr (pe_bm PySem.F.plainAttrs_list PySem.F.slot_list_append PySem.F.type_list_append mt_append (pe_fld (pv 0) rfl) (pa_cons (pv 1) pa_nil))) (pss_one (ps_if (pt_cmpR op_eq (pe_callB call_len_seq (by rfl) (T.free 85) bv_len (pa_cons (pe_fld (pv 0) rfl) pa_nil)) (pe_int) (nomark _)) (pss_one (ps_fld (pv 0) (pe_bl) rfl)) (pss_nil))), ?_⟩
    refine ⟨_, rfl, ln, CL K, dl, _, _, rfl, h1, clL T, nL_s T, rfl, .inl ⟨rfl, idx s, .inl (.inl h2)⟩, _, rfl, ll, idx s, _, rfl, rfl, h2, smallt (m := 100) (by unfold idx; rw [List.length_map]; omega), ?_⟩
    have eidx : idx s ++ [V.int (n : Int)] = idx (s ++ [n]) := by
      unfold idx
      rw [List.map_append]
      rfl
    rw [eidx]
    have h3 : upd H ll (.lst (idx (s ++ [n]))) ln = some (.ins (CL K) dl (lnF ll p e)) := by rw [upd_ne hne]; exact h1
    have hlen : (s ++ [n]).length ≤ 100 := by rw [List.length_append]; show s.length + 1 ≤ 100; omega
    refine ⟨_, rfl, ln, CL K, dl, _, _, rfl, h3, clL T, nL_s T, rfl, ll, idx (s ++ [n]), rfl, .inl (.inl (.inl upd_same)), rfl, _, rfl, ?_⟩
    have il : (idx (s ++ [n])).length = s.length + 1 := by unfold idx; rw [List.length_map, List.length_append]; rfl
    cases s with
    | nil =>
      refine iteP (by rw [il]; rfl) ⟨_, rfl, ln, CL K, dl, _, rfl, h3, clL T, nL_p T, lnf_len, ?_⟩
      refine k _ (lnk_ll.trans lnk_ln) ⟨e, by rw [upd_same]; rfl, ?_, hlen⟩
      rw [upd_ne (Ne.symm hne)]
      exact upd_same
    | cons n0 r =>
      refine iteN (fun z => ?_) (k _ lnk_ll ⟨e, ?_, upd_same, hlen⟩)
      · have := V.int.inj z
        rw [il, List.length_cons] at this
        omega
      · rw [h3, if_neg (by simp)]
def spLnCount (K : PySem.W.Frag) : Sp := fun vs H Q _ => ∃ (ln dl ll : Addr) (n : Nat) (s : List Nat) (p : Bool) (al : Int), vs = [.ref ln, .int al] ∧ LnAt K H ln dl ll (n :: s) p ∧
  (∀ H', LnK ln ll H H' → LnAt K H' ln dl ll (n :: s) p → Q .non H') ∧ ∀ H', LnK ln ll H H' → LnAt K H' ln dl ll s false → Q (.int (n : Int)) H'
theorem sc_Line_count : FnScope ["self", "allowance", "session"] ["self", "allowance"] (defScope m_Line_count) := ⟨rfl, rfl, rfl, by decide +kernel, rfl, by decide +kernel, by decide +kernel⟩
theorem met_Line_count (T : Tx K mg) : Met P w K mg base 2 (CL K) "count" (spLnCount K) := by
  refine T.met 43 134 108 rfl rfl rfl (N := ["self", "allowance", "session"]) (ps := ["self", "allowance"]) (fun _ _ _ _ _ _ us hl => match us, hl with | [_, _], _ => rfl) sc_Line_count (fun vs H Q E h => ?_) (fun f cdv A outer s H vs Q E hr h => ?_)
  · obtain ⟨ln, dl, ll, n, s, p, al, rfl, _⟩ := h
    rfl
  · obtain ⟨ln, dl, ll, n, s, p, al, rfl, hln, k1, k2⟩ := h
    have hne := hln.ne
    obtain ⟨e, h1, h2, hl⟩ := hln
    refine ⟨_, pss_cons (ps_fld (pv 0) (pe_op op_add (pe_fld (pv 0) rfl) (pe_int)) rfl) (pss_cons (ps_if (pt_cmpR op_lt (pe_fld (pv 0) rfl) (pv 1) (nomark _)) (pss_one (ps_ret (pe_non))) (pss_nil)) (pss_cons (ps_set (i := 2) sc_Line_count.nd rfl (by first | exact Or.inl rfl | exact Or.inr rfl) (pe_ix ix_list (pe_fld (pv 0) rfl) (pe_int) (fun _ _ => rfl))) (pss_cons (ps_expr (pe_mt (met_Line_leave T) hr (by decide) (pv 0) (pa_cons (pv 2) pa_nil))) (pss_one (ps_ret (pv 2)))))), ?_⟩
    refine ⟨_, rfl, ln, CL K, dl, _, _, rfl, h1, clL T, nL_e T, rfl, _, _, rfl, rfl, _, rfl, ln, CL K, dl, _, rfl, h1, clL T, nL_e T, lnf_len, ?_⟩
    have h3 : upd H ln (.ins (CL K) dl (putF "_events" (.int (e + 1)) (lnF ll p e))) ln = some (.ins (CL K) dl (lnF ll p (e + 1))) := by rw [upd_same]; rfl
    have h4 : upd H ln (.ins (CL K) dl (putF "_events" (.int (e + 1)) (lnF ll p e))) ll = some (.lst (idx (n :: s))) := by rw [upd_ne (Ne.symm hne)]; exact h2
    refine ⟨_, rfl, ln, CL K, dl, _, _, rfl, h3, clL T, nL_e T, rfl, _, rfl, _, _, rfl, rfl, _, rfl, ?_⟩
    have hat : LnAt K (upd H ln (.ins (CL K) dl (putF "_events" (.int (e + 1)) (lnF ll p e)))) ln dl ll (n :: s) p := ⟨e + 1, h3, h4, hl⟩
    by_cases hc : e + 1 < al
    · exact iteP hc (k1 _ lnk_ln hat)
    · refine iteN hc ⟨_, rfl, ln, CL K, dl, _, _, rfl, h3, clL T, nL_s T, rfl, ll, _, 0, _, rfl, rfl, .inl (.inl h4), at0, ?_⟩
      refine ⟨_, rfl, ln, dl, _, rfl, h3, rfl, _, rfl, ln, dl, ll, n :: s, p, n, rfl, hat, fun H2 q2 hat2 => ⟨_, rfl, k2 H2 (lnk_ln.trans q2) ?_⟩⟩
      rw [List.erase_cons_head, List.head?_cons, if_pos rfl] at hat2
      exact hat2
end
end Sa
/-! text E2 -/
/-! the trunk as it stands in the heap; what stays -/
namespace Sa
open PySem PySem.Spec L2 PyProof.Rows
structure Ses where
  base : Nat
  j : Jr
  op : Nat
def stS : Nat → Str
  | 0 => "open"
  | 1 => "closed"
  | _ => "accepted"
structure Sta where
  trees : List Files
  ents : List Jr
  ses : List Ses
  line : List Nat
  prot : Bool
  nck : Nat
structure Ad where
  t : Addr
  dt : Addr
  tl : Addr
  el : Addr
  sl : Addr
  ln : Addr
  dl : Addr
  ll : Addr
  ck : Addr
  vd : Addr
  ss : List Addr
/-! ### how heaps go on: by roles -/
/-- what may change has a role in X; trees stay -/
structure Go (K : PySem.W.Frag) (D : List Addr) (ro : Addr → Nat) (X : Nat → Bool) (H H' : Hp) : Prop where
  kp : ∀ a o, H a = some o → X (ro a) = false → H' a = some o
  kn : ∀ a o, H a = some o → ∃ o', H' a = some o'
  ev : Ev (CT K) D H H'
section
variable {K : PySem.W.Frag} {D : List Addr} {ro : Addr → Nat} {X Y : Nat → Bool}
theorem Go.refl (H : Hp) : Go K D ro X H H := ⟨fun _ _ h _ => h, fun _ o h => ⟨o, h⟩, Ev.refl _ _ _⟩
theorem Go.trans {H H1 H2 : Hp} (a : Go K D ro X H H1) (b : Go K D ro X H1 H2) : Go K D ro X H H2 :=
  ⟨fun x o h n => b.kp x o (a.kp x o h n) n, fun x o h => by
    obtain ⟨o1, h1⟩ := a.kn x o h
    exact b.kn x o1 h1, a.ev.trans b.ev⟩
theorem go_same {H H' : Hp} (s : Same H H') : Go K D ro X H H' := ⟨fun a o h _ => s a o h, fun a o h => ⟨o, s a o h⟩, ev_same s⟩
theorem Go.mono {H H' : Hp} (g : Go K D ro X H H') (h : ∀ n, Y n = false → X n = false) : Go K D ro Y H H' := ⟨fun a o e n => g.kp a o e (h _ n), g.kn, g.ev⟩
theorem go_upd {H : Hp} {p : Addr} {o : HO} (hx : X (ro p) = true) (he : evB (CT K) (decide (p ∈ D)) (H p) = true) : Go K D ro X H (upd H p o) := by
  refine ⟨fun a u e n => ?_, fun a u e => ?_, ev_upd he⟩
  · have ne : a ≠ p := fun z => by
      rw [z, hx] at n
      cases n
    rw [upd_ne ne]
    exact e
  · by_cases z : a = p
    · rw [z]
      exact ⟨o, upd_same⟩
    · rw [upd_ne z]
      exact ⟨u, e⟩
theorem ne_ro {a b : Addr} {m n : Nat} (h1 : ro a = m) (h2 : ro b = n) (h : m ≠ n) : a ≠ b := fun z => h (by rw [← h1, ← h2, z])
/-! ### the parts -/
abbrev tkF (A : Ad) (p al r : Int) : List (Str × V) :=
  [("_patience", .int p), ("_allowance", .int al), ("_trees", .ref A.tl), ("_entries", .ref A.el), ("_sessions", .ref A.sl), ("_line", .ref A.ln), ("_checks", .ref A.ck), ("_verdicts", .ref A.vd), ("_runs", .int r)]
abbrev seF (nm : Str) (b : Nat) (jx : V) (rf : Int) (st : Str) : List (Str × V) := [("name", .str nm), ("base", .int (b : Int)), ("journal", jx), ("refusals", .int rf), ("state", .str st)]
def TkAt (K : PySem.W.Frag) (H : Hp) (A : Ad) : Prop := ∃ p al r : Int, H A.t = some (.ins (CK K) A.dt (tkF A p al r))
def TlAt (K : PySem.W.Frag) (D : List Addr) (H : Hp) (A : Ad) (ts : List Files) : Prop := ∃ tvs, H A.tl = some (.lst tvs) ∧ Paired (fun v F => TrAt K (CT K) D H v F) tvs ts
def EnAt (K : PySem.W.Frag) (H : Hp) (v : V) (j : Jr) : Prop := ∃ (a : Addr) (nm jx : V), v = .ref a ∧ H a = some (.tup [nm, jx]) ∧ Dt K H jx (dJ j)
def ElAt (K : PySem.W.Frag) (H : Hp) (A : Ad) (es : List Jr) : Prop := ∃ evs, H A.el = some (.lst evs) ∧ Paired (fun v j => EnAt K H v j) evs es
def SeAt (K : PySem.W.Frag) (H : Hp) (a : Addr) (s : Ses) : Prop := ∃ (dx : Addr) (nm : Str) (jx : V) (rf : Int), H a = some (.ins (CS K) dx (seF nm s.base jx rf (stS s.op))) ∧ Dt K H jx (dJ s.j)
def SlAt (K : PySem.W.Frag) (H : Hp) (A : Ad) (ss : List Ses) : Prop := H A.sl = some (.lst (A.ss.map .ref)) ∧ Paired (fun a s => SeAt K H a s) A.ss ss
/-- a list of verdicts -/
def VlAt (K : PySem.W.Frag) (ro : Addr → Nat) (H : Hp) (v : V) : Prop := ∃ a us, v = .ref a ∧ ro a = 0 ∧ H a = some (.lst us) ∧ us.length ≤ 5 ∧ ∀ u ∈ us, ∃ (b : Addr) (k : Bool) (jx : V) (j : Jr), u = .ref b ∧ H b = some (.tup [.bl k, jx]) ∧ Dt K H jx (dJ j) ∧ GoodJ j
structure CkAt (K : PySem.W.Frag) (ro : Addr → Nat) (H : Hp) (A : Ad) (cks vks : List (Key × V)) (ks : List Str) : Prop where
  ck : H A.ck = some (.dK cks)
  vd : H A.vd = some (.dK vks)
  keys : cks.map (·.1) = ks.map Sum.inr
  len : ks.length ≤ 4
  vkeys : vks.map (·.1) = ks.map Sum.inr
  nd : ks.Nodup
  one : ∀ k ∈ ks, ∃ (cv vv : V) (c : List CRow), valV cks (.inr k) = some cv ∧ Dt K H cv (dCk c) ∧ GoodCk c ∧ valV vks (.inr k) = some vv ∧ VlAt K ro H vv
/-- roles -/
structure Ro (ro : Addr → Nat) (H : Hp) (A : Ad) : Prop where
  t : ro A.t = 51
  tl : ro A.tl = 52
  el : ro A.el = 53
  sl : ro A.sl = 54
  ln : ro A.ln = 55
  ll : ro A.ll = 56
  ck : ro A.ck = 57
  vd : ro A.vd = 58
  ss : ∀ i a, A.ss[i]? = some a → ro a = 100 + i
  kn : ∀ a, ro a ≠ 0 → ∃ o, H a = some o
structure TW (K : PySem.W.Frag) (D : List Addr) (ro : Addr → Nat) (H : Hp) (A : Ad) (S : Sta) : Prop where
  r : Ro ro H A
  d : Dok D H
  dc : A.ck ∈ D
  dv : A.vd ∈ D
  tk : TkAt K H A
  tl : TlAt K D H A S.trees
  el : ElAt K H A S.ents
  sl : SlAt K H A S.ses
  ln : LnAt K H A.ln A.dl A.ll S.line S.prot
  ck : ∃ cks vks ks, CkAt K ro H A cks vks ks ∧ ks.length ≤ S.nck
/-! ### the parts stay -/
theorem pair_mono {α β : Type} {R R' : α → β → Prop} (h : ∀ a b, R a b → R' a b) : ∀ {xs : List α} {ys : List β}, Paired R xs ys → Paired R' xs ys
  | _, _, .nil => .nil
  | _, _, .cons a r => .cons (h _ _ a) (pair_mono h r)
theorem pair_get {α β : Type} {R : α → β → Prop} : ∀ {xs : List α} {ys : List β} {i : Nat} {y : β}, Paired R xs ys → ys[i]? = some y → ∃ x, xs[i]? = some x ∧ R x y
  | _, _, _, _, .nil, h => by cases h
  | _, _, 0, _, .cons a r, h => by
    cases h
    exact ⟨_, rfl, a⟩
  | _, _, i + 1, _, .cons a r, h => by
    obtain ⟨x, h1, h2⟩ := pair_get (i := i) r (by simpa using h)
    exact ⟨x, by simpa using h1, h2⟩
theorem pair_getL {α β : Type} {R : α → β → Prop} : ∀ {xs : List α} {ys : List β} {i : Nat} {x : α}, Paired R xs ys → xs[i]? = some x → ∃ y, ys[i]? = some y ∧ R x y
  | _, _, _, _, .nil, h => by cases h
  | _, _, 0, _, .cons a r, h => by
    cases h
    exact ⟨_, rfl, a⟩
  | _, _, i + 1, _, .cons a r, h => by
    obtain ⟨x, h1, h2⟩ := pair_getL (i := i) r (by simpa using h)
    exact ⟨x, by simpa using h1, h2⟩
theorem pair_len {α β : Type} {R : α → β → Prop} : ∀ {xs : List α} {ys : List β}, Paired R xs ys → xs.length = ys.length
  | _, _, .nil => rfl
  | _, _, .cons _ r => congrArg Nat.succ (pair_len r)
theorem pair_snoc {α β : Type} {R : α → β → Prop} {a : α} {b : β} (h : R a b) : ∀ {xs : List α} {ys : List β}, Paired R xs ys → Paired R (xs ++ [a]) (ys ++ [b])
  | _, _, .nil => .cons h .nil
  | _, _, .cons q r => .cons q (pair_snoc h r)
theorem pair_all {α β : Type} {R R' : α → β → Prop} : ∀ {xs : List α} {ys : List β}, Paired R xs ys → (∀ (k : Nat) (x : α) (y : β), xs[k]? = some x → R x y → R' x y) → Paired R' xs ys
  | _, _, .nil, _ => .nil
  | _, _, .cons q r, h => .cons (h 0 _ _ rfl q) (pair_all r fun k x y hk => h (k + 1) x y (by simpa using hk))
/-- item i changes, the rest goes on -/
theorem pair_set {α β : Type} {R R' : α → β → Prop} : ∀ {xs : List α} {ys : List β} {i : Nat} {a : α} {b : β}, Paired R xs ys → xs[i]? = some a → R' a b → (∀ (k : Nat) (x : α) (y : β), k ≠ i → xs[k]? = some x → R x y → R' x y) → Paired R' xs (ys.set i b)
  | _, _, _, _, _, .nil, h, _, _ => by cases h
  | _, _, 0, _, _, .cons q r, h, hb, hs => by
    cases h
    exact .cons hb (pair_all r fun k x y hk => hs (k + 1) x y (by omega) (by simpa using hk))
  | _, _, i + 1, _, _, .cons q r, h, hb, hs => .cons (hs 0 _ _ (by omega) rfl q) (pair_set (i := i) r (by simpa using h) hb fun k x y hk hx => hs (k + 1) x y (by omega) (by simpa using hx))
variable {H H' : Hp} {A : Ad} {S : Sta}
theorem TkAt.mv (r : Ro ro H A) (g : Go K D ro X H H') (h : TkAt K H A) (x : X 51 = false) : TkAt K H' A := by
  obtain ⟨p, al, n, h⟩ := h
  exact ⟨p, al, n, g.kp _ _ h (by rw [r.t]; exact x)⟩
theorem TlAt.mv {ts : List Files} (r : Ro ro H A) (g : Go K D ro X H H') (h : TlAt K D H A ts) (x : X 52 = false) : TlAt K D H' A ts := by
  obtain ⟨tvs, h1, h2⟩ := h
  exact ⟨tvs, g.kp _ _ h1 (by rw [r.tl]; exact x), pair_mono (fun _ _ t => t.ev g.ev) h2⟩
theorem EnAt.mv {v : V} {j : Jr} (t : TX H H') (h : EnAt K H v j) : EnAt K H' v j := by
  obtain ⟨a, nm, jx, e, h1, h2⟩ := h
  exact ⟨a, nm, jx, e, t _ _ h1, h2.tx t⟩
theorem ElAt.mv {es : List Jr} (r : Ro ro H A) (g : Go K D ro X H H') (h : ElAt K H A es) (x : X 53 = false) : ElAt K H' A es := by
  obtain ⟨evs, h1, h2⟩ := h
  exact ⟨evs, g.kp _ _ h1 (by rw [r.el]; exact x), pair_mono (fun _ _ t => t.mv g.ev.t) h2⟩
theorem SeAt.mv {a : Addr} {s : Ses} (g : Go K D ro X H H') (h : SeAt K H a s) (x : X (ro a) = false) : SeAt K H' a s := by
  obtain ⟨dx, nm, jx, rf, h1, h2⟩ := h
  exact ⟨dx, nm, jx, rf, g.kp _ _ h1 x, h2.tx g.ev.t⟩
theorem SlAt.mv {ss : List Ses} (r : Ro ro H A) (g : Go K D ro X H H') (h : SlAt K H A ss) (x : X 54 = false) (xs : ∀ i, X (100 + i) = false) : SlAt K H' A ss :=
  ⟨g.kp _ _ h.1 (by rw [r.sl]; exact x), pair_all h.2 fun k a s hk q => q.mv g (by rw [r.ss k a hk]; exact xs k)⟩
theorem LnAt.mv {s : List Nat} {p : Bool} (r : Ro ro H A) (g : Go K D ro X H H') (h : LnAt K H A.ln A.dl A.ll s p) (x : X 55 = false) (y : X 56 = false) : LnAt K H' A.ln A.dl A.ll s p := by
  obtain ⟨e, h1, h2, h3⟩ := h
  exact ⟨e, g.kp _ _ h1 (by rw [r.ln]; exact x), g.kp _ _ h2 (by rw [r.ll]; exact y), h3⟩
theorem VlAt.mv {v : V} (g : Go K D ro X H H') (h : VlAt K ro H v) (x : X 0 = false) : VlAt K ro H' v := by
  obtain ⟨a, us, e, h0, h1, h2, h3⟩ := h
  refine ⟨a, us, e, h0, g.kp _ _ h1 (by rw [h0]; exact x), h2, fun u hu => ?_⟩
  obtain ⟨b, k, jx, j, e1, e2, e3, e4⟩ := h3 u hu
  exact ⟨b, k, jx, j, e1, g.ev.t _ _ e2, e3.tx g.ev.t, e4⟩
theorem CkAt.mv {cks vks : List (Key × V)} {ks : List Str} (r : Ro ro H A) (g : Go K D ro X H H') (h : CkAt K ro H A cks vks ks) (x : X 0 = false) (y : X 57 = false) (z : X 58 = false) : CkAt K ro H' A cks vks ks := by
  refine ⟨g.kp _ _ h.ck (by rw [r.ck]; exact y), g.kp _ _ h.vd (by rw [r.vd]; exact z), h.keys, h.len, h.vkeys, h.nd, fun k hk => ?_⟩
  obtain ⟨cv, vv, c, e1, e2, e3, e4, e5⟩ := h.one k hk
  exact ⟨cv, vv, c, e1, e2.tx g.ev.t, e3, e4, e5.mv g x⟩
theorem Ro.mv (r : Ro ro H A) (g : Go K D ro X H H') : Ro ro H' A := ⟨r.t, r.tl, r.el, r.sl, r.ln, r.ll, r.ck, r.vd, r.ss, fun a h => by
  obtain ⟨o, e⟩ := r.kn a h
  exact g.kn a o e⟩
theorem dok_go (d : Dok D H) (g : Go K D ro X H H') : Dok D H' := fun x hx => by
  obtain ⟨o, e⟩ := d x hx
  exact g.kn x o e
/-- nothing of the trunk changes -/
theorem TW.mv (w : TW K D ro H A S) (g : Go K D ro X H H') (x0 : X 0 = false) (x : ∀ n, 50 ≤ n → X n = false) : TW K D ro H' A S := by
  obtain ⟨cks, vks, ks, hc, hn⟩ := w.ck
  exact ⟨w.r.mv g, dok_go w.d g, w.dc, w.dv, w.tk.mv w.r g (x _ (by decide)), w.tl.mv w.r g (x _ (by decide)), w.el.mv w.r g (x _ (by decide)), w.sl.mv w.r g (x _ (by decide)) fun i => x _ (by omega),
    w.ln.mv w.r g (x _ (by decide)) (x _ (by decide)), cks, vks, ks, hc.mv w.r g x0 (x _ (by decide)) (x _ (by decide)), hn⟩
def none_ : Nat → Bool := fun _ => false
theorem TW.same (w : TW K D ro H A S) (s : Same H H') : TW K D ro H' A S := w.mv (X := none_) (go_same s) rfl fun _ _ => rfl
/-! ### new roles -/
def setR (ro : Addr → Nat) (p : Addr) (n : Nat) : Addr → Nat := fun x => if x = p then n else ro x
theorem setR_same {p : Addr} {n : Nat} : setR ro p n p = n := if_pos rfl
theorem setR_ne {p a : Addr} {n : Nat} (h : a ≠ p) : setR ro p n a = ro a := if_neg h
theorem setR_kn {p a : Addr} {n : Nat} {o : HO} (hp : H p = none) (h : H a = some o) : setR ro p n a = ro a := setR_ne (ne_of_none h hp)
theorem Ro.fresh {p : Addr} {n : Nat} {o : HO} (r : Ro ro H A) (hp : H p = none) : Ro (setR ro p n) (upd H p o) A := by
  have q : ∀ a m, ro a = m → m ≠ 0 → setR ro p n a = m := fun a m e hm => by
    obtain ⟨u, hu⟩ := r.kn a (by rw [e]; exact hm)
    rw [setR_kn hp hu]
    exact e
  refine ⟨q _ _ r.t (by decide), q _ _ r.tl (by decide), q _ _ r.el (by decide), q _ _ r.sl (by decide), q _ _ r.ln (by decide), q _ _ r.ll (by decide), q _ _ r.ck (by decide), q _ _ r.vd (by decide), fun i a e => q _ _ (r.ss i a e) (by omega), fun a h => ?_⟩
  by_cases z : a = p
  · rw [z]
    exact ⟨o, upd_same⟩
  · rw [setR_ne z] at h
    obtain ⟨u, hu⟩ := r.kn a h
    exact ⟨u, by rw [upd_ne z]; exact hu⟩
theorem VlAt.fresh {p : Addr} {n : Nat} {v : V} (hp : H p = none) (h : VlAt K ro H v) : VlAt K (setR ro p n) H v := by
  obtain ⟨a, us, e, h0, h1, h2, h3⟩ := h
  exact ⟨a, us, e, by rw [setR_kn hp h1]; exact h0, h1, h2, h3⟩
theorem CkAt.fresh {p : Addr} {n : Nat} {cks vks : List (Key × V)} {ks : List Str} (hp : H p = none) (h : CkAt K ro H A cks vks ks) : CkAt K (setR ro p n) H A cks vks ks := by
  refine ⟨h.ck, h.vd, h.keys, h.len, h.vkeys, h.nd, fun k hk => ?_⟩
  obtain ⟨cv, vv, c, e1, e2, e3, e4, e5⟩ := h.one k hk
  exact ⟨cv, vv, c, e1, e2, e3, e4, e5.fresh hp⟩
theorem TrAt.more {C p : Addr} {v : V} {F : Files} (hp : H p = none) (t : TrAt K C D H v F) : TrAt K C (p :: D) H v F := by
  obtain ⟨a, dx, d, kvs, e, h1, h2, h3, h4⟩ := t
  refine ⟨a, dx, d, kvs, e, h1, h2, fun z => ?_, h4⟩
  rcases List.mem_cons.mp z with z | z
  · rw [z, hp] at h2
    cases h2
  · exact h3 z
theorem TabAt.more {p : Addr} {v : V} {F : Files} (hp : H p = none) (t : TabAt K D H v F) : TabAt K (p :: D) H v F := by
  obtain ⟨d, kvs, e, h2, h3, h4⟩ := t
  refine ⟨d, kvs, e, h2, fun z => ?_, h4⟩
  rcases List.mem_cons.mp z with z | z
  · rw [z, hp] at h2
    cases h2
  · exact h3 z
/-- a new object gets a role -/
theorem TW.fresh {p : Addr} (n : Nat) (o : HO) (w : TW K D ro H A S) (hp : H p = none) : TW K D (setR ro p n) (upd H p o) A S := by
  have s : Same H (upd H p o) := same_new hp
  have w2 := w.same s
  have g : Go K D (setR ro p n) none_ H (upd H p o) := go_same s
  obtain ⟨cks, vks, ks, hc, hn⟩ := w.ck
  exact ⟨w.r.fresh hp, w2.d, w2.dc, w2.dv, w2.tk, w2.tl, w2.el, w2.sl, w2.ln, cks, vks, ks, by
    have r3 : Ro (setR ro p n) H A ∨ True := .inr trivial
    have q := hc.fresh (n := n) hp
    refine ⟨s _ _ q.ck, s _ _ q.vd, q.keys, q.len, q.vkeys, q.nd, fun k hk => ?_⟩
    obtain ⟨cv, vv, c, e1, e2, e3, e4, e5⟩ := q.one k hk
    exact ⟨cv, vv, c, e1, e2.same s, e3, e4, e5.mv g rfl⟩, hn⟩
/-- a new dict that is left out of what stays -/
theorem TW.freshD {p : Addr} (n : Nat) (o : HO) (w : TW K D ro H A S) (hp : H p = none) : TW K (p :: D) (setR ro p n) (upd H p o) A S := by
  have w2 := w.fresh n o hp
  have s : Same H (upd H p o) := same_new hp
  obtain ⟨tvs, h1, h2⟩ := w.tl
  refine ⟨w2.r, fun x hx => ?_, List.mem_cons_of_mem _ w2.dc, List.mem_cons_of_mem _ w2.dv, w2.tk, ⟨tvs, s _ _ h1, pair_mono (fun _ _ t => (t.more hp).same s) h2⟩, w2.el, w2.sl, w2.ln, w2.ck⟩
  rcases List.mem_cons.mp hx with z | z
  · rw [z]
    exact ⟨o, upd_same⟩
  · exact w2.d x z
end
end Sa
/-! text E3 -/
/-! trunk.Trunk: what only reads -/
namespace Sa
open PySem PySem.Spec L2 PyProof.Rows
structure InvS (S : Sta) : Prop where
  tr : ∀ F ∈ S.trees, GoodF F
  n1 : S.trees.length = S.ents.length + 1
  ch : ∀ (v : Nat) (j : Jr), S.ents[v]? = some j → ∃ F, S.trees[v]? = some F ∧ GoodJ j ∧ holdsF F j ∧ S.trees[v + 1]? = some (leadF F (j.map (·.1)))
  se : ∀ (i : Nat) (s : Ses), S.ses[i]? = some s → GoodJ s.j ∧ ∃ F, S.trees[s.base]? = some F ∧ holdsF F s.j
  ln : ∀ n ∈ S.line, n < S.ses.length
  nd : S.line.Nodup
  pr : S.prot = true → ∀ (n : Nat) (r : List Nat), S.line = n :: r → ∀ s : Ses, S.ses[n]? = some s → s.base + 1 = S.trees.length
section
variable {P : Program} {w : World} {K : PySem.W.Frag} {mg : Str → Option Value} {base : Heap}
def kFs : List Str := ["_patience", "_allowance", "_trees", "_entries", "_sessions", "_line", "_checks", "_verdicts", "_runs"]
theorem nK0 (T : Tx K mg) : NoAttr K (CK K) "_patience" := T.noat 115 rfl
theorem nK1 (T : Tx K mg) : NoAttr K (CK K) "_allowance" := T.noat 116 rfl
theorem nK2 (T : Tx K mg) : NoAttr K (CK K) "_trees" := T.noat 117 rfl
theorem nK3 (T : Tx K mg) : NoAttr K (CK K) "_entries" := T.noat 118 rfl
theorem nK4 (T : Tx K mg) : NoAttr K (CK K) "_sessions" := T.noat 119 rfl
theorem nK5 (T : Tx K mg) : NoAttr K (CK K) "_line" := T.noat 120 rfl
theorem nK6 (T : Tx K mg) : NoAttr K (CK K) "_checks" := T.noat 121 rfl
theorem nK7 (T : Tx K mg) : NoAttr K (CK K) "_verdicts" := T.noat 122 rfl
theorem nK8 (T : Tx K mg) : NoAttr K (CK K) "_runs" := T.noat 123 rfl
theorem nS0 (T : Tx K mg) : NoAttr K (CS K) "name" := T.noat 103 rfl
theorem nS1 (T : Tx K mg) : NoAttr K (CS K) "base" := T.noat 104 rfl
theorem nS2 (T : Tx K mg) : NoAttr K (CS K) "journal" := T.noat 105 rfl
theorem nS3 (T : Tx K mg) : NoAttr K (CS K) "refusals" := T.noat 106 rfl
theorem nS4 (T : Tx K mg) : NoAttr K (CS K) "state" := T.noat 107 rfl
theorem look_get {α β : Type} {R : α → β → Prop} {xs : List α} {ys : List β} {f : α → V} {i : Nat} {y : β} (h : Paired R xs ys) (e : ys[i]? = some y) : ∃ x, (xs.map f)[i]? = some (f x) ∧ xs[i]? = some x ∧ R x y := by
  obtain ⟨x, h1, h2⟩ := pair_get h e
  exact ⟨x, by rw [List.getElem?_map, h1]; rfl, h1, h2⟩
def spVersion (K : PySem.W.Frag) : Sp := fun vs H Q _ => ∃ (D : List Addr) (ro : Addr → Nat) (A : Ad) (S : Sta), vs = [.ref A.t] ∧ TW K D ro H A S ∧ 1 ≤ S.trees.length ∧ ∀ n : Nat, n + 1 = S.trees.length → Q (.int (n : Int)) H
theorem sc_Trunk_version : FnScope ["self"] ["self"] (defScope m_Trunk_version) := ⟨rfl, rfl, rfl, by decide +kernel, rfl, by decide +kernel, by decide +kernel⟩
theorem met_Trunk_version (T : Tx K mg) : Met P w K mg base 1 (CK K) "version" (spVersion K) := by
  refine T.met 45 135 113 rfl rfl rfl (N := ["self"]) (ps := ["self"]) (fun _ _ _ _ _ _ us hl => match us, hl with | [_], _ => rfl) sc_Trunk_version (fun vs H Q E h => ?_) (fun f cdv A0 outer s0 H vs Q E hr h => ?_)
  · obtain ⟨D, ro, A, S, rfl, _⟩ := h
    rfl
  · obtain ⟨D, ro, A, S, rfl, W, hp, k⟩ := h
    obtain ⟨p, al, rn, htk⟩ := id W.tk
    refine ⟨_, pss_one (ps_ret (pe_op op_sub (pe_callB call_len_seq (by rfl) (T.free 85) bv_len (pa_cons (pe_fld (pv 0) rfl) pa_nil)) (pe_int))), ?_⟩
    obtain ⟨tvs, h1, h2⟩ := W.tl
    have hl := pair_len h2
    refine ⟨_, rfl, A.t, CK K, A.dt, _, _, rfl, htk, clK T, nK2 T, rfl, A.tl, tvs, rfl, .inl (.inl (.inl h1)), _, _, rfl, rfl, ?_⟩
    have e : (tvs.length : Int) - 1 = ((S.trees.length - 1 : Nat) : Int) := by omega
    exact Eq.mp (congrArg (fun z => Q (.int z) H) e.symm) (k _ (by omega))
def spTree (K : PySem.W.Frag) : Sp := fun vs H Q _ => ∃ (D : List Addr) (ro : Addr → Nat) (A : Ad) (S : Sta) (v : Nat) (F : Files), vs = [.ref A.t, .int (v : Int)] ∧ TW K D ro H A S ∧ S.trees[v]? = some F ∧ ∀ tv, TrAt K (CT K) D H tv F → Q tv H
theorem sc_Trunk_tree : FnScope ["self", "version"] ["self", "version"] (defScope m_Trunk_tree) := ⟨rfl, rfl, rfl, by decide +kernel, rfl, by decide +kernel, by decide +kernel⟩
theorem met_Trunk_tree (T : Tx K mg) : Met P w K mg base 2 (CK K) "tree" (spTree K) := by
  refine T.met 46 136 113 rfl rfl rfl (N := ["self", "version"]) (ps := ["self", "version"]) (fun _ _ _ _ _ _ us hl => match us, hl with | [_, _], _ => rfl) sc_Trunk_tree (fun vs H Q E h => ?_) (fun f cdv A0 outer s0 H vs Q E hr h => ?_)
  · obtain ⟨D, ro, A, S, v, F, rfl, _⟩ := h
    rfl
  · obtain ⟨D, ro, A, S, v, F, rfl, W, hv, k⟩ := h
    obtain ⟨p, al, rn, htk⟩ := id W.tk
    refine ⟨_, pss_cons (ps_if (pt_not (pt_chain op_le op_le (pe_int) (pv 1) (pe_mt0 (met_Trunk_version T) hr (by decide) (pv 0)))) (pss_one (ps_never)) (pss_nil)) (pss_one (ps_ret (pe_ix ix_list (pe_fld (pv 0) rfl) (pv 1) (fun _ _ => rfl)))), ?_⟩
    obtain ⟨tvs, h1, h2⟩ := W.tl
    have hl := pair_len h2
    have hvl := (List.getElem?_eq_some_iff.mp hv).1
    have hp : 1 ≤ S.trees.length := by omega
    obtain ⟨tv, e1, e2⟩ := pair_get h2 hv
    refine ⟨_, rfl, _, _, rfl, rfl, _, rfl, iteP (by omega) ⟨_, rfl, A.t, A.dt, _, rfl, htk, rfl, D, ro, A, S, rfl, W, hp, fun n hn => ⟨_, _, rfl, rfl, _, rfl, iteEn ?_ ?_⟩⟩⟩
    · rw [decide_eq_true (by omega)]
      rfl
    · exact ⟨_, rfl, A.t, CK K, A.dt, _, _, rfl, htk, clK T, nK2 T, rfl, _, rfl, A.tl, tvs, _, tv, rfl, rfl, .inl (.inl h1), atI_nat e1, k tv e2⟩
def spEntry (K : PySem.W.Frag) : Sp := fun vs H Q _ => ∃ (D : List Addr) (ro : Addr → Nat) (A : Ad) (S : Sta) (v : Nat) (j : Jr), vs = [.ref A.t, .int ((v + 1 : Nat) : Int)] ∧ TW K D ro H A S ∧ S.trees.length = S.ents.length + 1 ∧ S.ents[v]? = some j ∧ ∀ a nm jx, H a = some (.tup [nm, jx]) → Dt K H jx (dJ j) → Q (.ref a) H
theorem sc_Trunk_entry : FnScope ["self", "version"] ["self", "version"] (defScope m_Trunk_entry) := ⟨rfl, rfl, rfl, by decide +kernel, rfl, by decide +kernel, by decide +kernel⟩
theorem met_Trunk_entry (T : Tx K mg) : Met P w K mg base 2 (CK K) "entry" (spEntry K) := by
  refine T.met 47 137 113 rfl rfl rfl (N := ["self", "version"]) (ps := ["self", "version"]) (fun _ _ _ _ _ _ us hl => match us, hl with | [_, _], _ => rfl) sc_Trunk_entry (fun vs H Q E h => ?_) (fun f cdv A0 outer s0 H vs Q E hr h => ?_)
  · obtain ⟨D, ro, A, S, v, j, rfl, _⟩ := h
    rfl
  · obtain ⟨D, ro, A, S, v, j, rfl, W, n1, hv, k⟩ := h
    obtain ⟨p, al, rn, htk⟩ := id W.tk
    refine ⟨_, pss_cons (ps_if (pt_not (pt_chain op_le op_le (pe_int) (pv 1) (pe_mt0 (met_Trunk_version T) hr (by decide) (pv 0)))) (pss_one (ps_never)) (pss_nil)) (pss_one (ps_ret (pe_ix ix_list (pe_fld (pv 0) rfl) (pe_op op_sub (pv 1) (pe_int)) (fun _ _ => rfl)))), ?_⟩
    obtain ⟨evs, h1, h2⟩ := W.el
    have hl := pair_len h2
    have hvl := (List.getElem?_eq_some_iff.mp hv).1
    have hp : 1 ≤ S.trees.length := by omega
    obtain ⟨ev, e1, a, nm, jx, rfl, e2, e3⟩ := pair_get h2 hv
    refine ⟨_, rfl, _, _, rfl, rfl, _, rfl, iteP (by omega) ⟨_, rfl, A.t, A.dt, _, rfl, htk, rfl, D, ro, A, S, rfl, W, hp, fun n hn => ⟨_, _, rfl, rfl, _, rfl, iteEn ?_ ?_⟩⟩⟩
    · rw [decide_eq_true (by omega)]
      rfl
    · refine ⟨_, rfl, A.t, CK K, A.dt, _, _, rfl, htk, clK T, nK3 T, rfl, _, rfl, _, _, rfl, rfl, A.el, evs, (v : Int), _, rfl, ?_, .inl (.inl h1), atI_nat e1, k a nm jx e2 e3⟩
      exact congrArg V.int (by omega)
def spRoom (K : PySem.W.Frag) : Sp := fun vs H Q _ => ∃ (D : List Addr) (ro : Addr → Nat) (A : Ad) (S : Sta), vs = [.ref A.t] ∧ TW K D ro H A S ∧ 1 ≤ S.trees.length ∧ S.trees.length ≤ 100 ∧ Q .non H
theorem sc_Trunk_check_room : FnScope ["self"] ["self"] (defScope m_Trunk_check_room) := ⟨rfl, rfl, rfl, by decide +kernel, rfl, by decide +kernel, by decide +kernel⟩
theorem met_Trunk_check_room (T : Tx K mg) : Met P w K mg base 2 (CK K) "_check_room" (spRoom K) := by
  refine T.met 48 138 113 rfl rfl rfl (N := ["self"]) (ps := ["self"]) (fun _ _ _ _ _ _ us hl => match us, hl with | [_], _ => rfl) sc_Trunk_check_room (fun vs H Q E h => ?_) (fun f cdv A0 outer s0 H vs Q E hr h => ?_)
  · obtain ⟨D, ro, A, S, rfl, _⟩ := h
    rfl
  · obtain ⟨D, ro, A, S, rfl, W, hp, hm, k⟩ := h
    obtain ⟨p, al, rn, htk⟩ := id W.tk
    refine ⟨_, pss_one (ps_if (pt_cmpR op_eq (pe_mt0 (met_Trunk_version T) hr (by decide) (pv 0)) (pe_gc rfl (T.gint 80)) (nomark _)) (pss_one (ps_never)) (pss_nil)), ?_⟩
    exact ⟨_, rfl, A.t, A.dt, _, rfl, htk, rfl, D, ro, A, S, rfl, W, hp, fun n hn => ⟨rfl, _, rfl, iteN (fun z => by have := V.int.inj z; omega) k⟩⟩
def spKnown (K : PySem.W.Frag) : Sp := fun vs H Q _ => ∃ (D : List Addr) (ro : Addr → Nat) (A : Ad) (S : Sta) (n : Nat) (s : Ses), vs = [.ref A.t, .int (n : Int)] ∧ TW K D ro H A S ∧ S.ses[n]? = some s ∧ ∀ a, A.ss[n]? = some a → SeAt K H a s → Q (.ref a) H
theorem sc_Trunk_known : FnScope ["self", "session"] ["self", "session"] (defScope m_Trunk_known) := ⟨rfl, rfl, rfl, by decide +kernel, rfl, by decide +kernel, by decide +kernel⟩
theorem met_Trunk_known (T : Tx K mg) : Met P w K mg base 1 (CK K) "_known" (spKnown K) := by
  refine T.met 53 143 113 rfl rfl rfl (N := ["self", "session"]) (ps := ["self", "session"]) (fun _ _ _ _ _ _ us hl => match us, hl with | [_, _], _ => rfl) sc_Trunk_known (fun vs H Q E h => ?_) (fun f cdv A0 outer s0 H vs Q E hr h => ?_)
  · obtain ⟨D, ro, A, S, n, s, rfl, _⟩ := h
    rfl
  · obtain ⟨D, ro, A, S, n, s, rfl, W, hn, k⟩ := h
    obtain ⟨p, al, rn, htk⟩ := id W.tk
    refine ⟨_, pss_cons (ps_if (pt_not (pt_chain op_le op_lt (pe_int) (pv 1) (pe_callB call_len_seq (by rfl) (T.free 85) bv_len (pa_cons (pe_fld (pv 0) rfl) pa_nil)))) (pss_one (ps_never)) (pss_nil)) (pss_one (ps_ret (pe_ix ix_list (pe_fld (pv 0) rfl) (pv 1) (fun _ _ => rfl)))), ?_⟩
    obtain ⟨h1, h2⟩ := W.sl
    have hl := pair_len h2
    have hnl := (List.getElem?_eq_some_iff.mp hn).1
    obtain ⟨a, e1, e2, e3⟩ := look_get (f := V.ref) h2 hn
    have hml : (A.ss.map V.ref).length = S.ses.length := by rw [List.length_map, hl]
    refine ⟨_, rfl, _, _, rfl, rfl, _, rfl, iteP (by omega) ⟨_, rfl, A.t, CK K, A.dt, _, _, rfl, htk, clK T, nK4 T, rfl, A.sl, _, rfl, .inl (.inl (.inl h1)), _, _, rfl, rfl, _, rfl, iteEn ?_ ?_⟩⟩
    · rw [decide_eq_true (by omega)]
      rfl
    · exact ⟨_, rfl, A.t, CK K, A.dt, _, _, rfl, htk, clK T, nK4 T, rfl, _, rfl, A.sl, _, _, .ref a, rfl, rfl, .inl (.inl h1), atI_nat e1, k a e2 e3⟩
def spOpened (K : PySem.W.Frag) : Sp := fun vs H Q _ => ∃ (D : List Addr) (ro : Addr → Nat) (A : Ad) (S : Sta) (n : Nat) (s : Ses), vs = [.ref A.t, .int (n : Int)] ∧ TW K D ro H A S ∧ S.ses[n]? = some s ∧ s.op = 0 ∧ ∀ a, A.ss[n]? = some a → SeAt K H a s → Q (.ref a) H
theorem sc_Trunk_opened : FnScope ["self", "session", "found"] ["self", "session"] (defScope m_Trunk_opened) := ⟨rfl, rfl, rfl, by decide +kernel, rfl, by decide +kernel, by decide +kernel⟩
theorem met_Trunk_opened (T : Tx K mg) : Met P w K mg base 2 (CK K) "_opened" (spOpened K) := by
  refine T.met 54 144 113 rfl rfl rfl (N := ["self", "session", "found"]) (ps := ["self", "session"]) (fun _ _ _ _ _ _ us hl => match us, hl with | [_, _], _ => rfl) sc_Trunk_opened (fun vs H Q E h => ?_) (fun f cdv A0 outer s0 H vs Q E hr h => ?_)
  · obtain ⟨D, ro, A, S, n, s, rfl, _⟩ := h
    rfl
  · obtain ⟨D, ro, A, S, n, s, rfl, W, hn, ho, k⟩ := h
    obtain ⟨p, al, rn, htk⟩ := id W.tk
    refine ⟨_, pss_cons (ps_set (i := 2) sc_Trunk_opened.nd rfl (by first | exact Or.inl rfl | exact Or.inr rfl) (pe_mt (met_Trunk_known T) hr (by decide) (pv 0) (pa_cons (pv 1) pa_nil))) (pss_cons (ps_if (pt_cmpR op_ne (pe_fld (pv 2) rfl) (pe_str) (nomark _)) (pss_one (ps_never)) (pss_nil)) (pss_one (ps_ret (pv 2)))), ?_⟩
    refine ⟨_, rfl, A.t, A.dt, _, rfl, htk, rfl, _, rfl, D, ro, A, S, n, s, rfl, W, hn, fun a ha hs => ?_⟩
    obtain ⟨dx, nm, jx, rf, q1, q2⟩ := id hs
    rw [ho] at q1
    exact ⟨_, rfl, a, CS K, dx, _, _, rfl, q1, clS T, nS4 T, rfl, rfl, _, rfl, iteEn (by decide +kernel) ⟨_, rfl, k a ha hs⟩⟩
def spState (K : PySem.W.Frag) : Sp := fun vs H Q _ => ∃ (D : List Addr) (ro : Addr → Nat) (A : Ad) (S : Sta) (n : Nat) (s : Ses), vs = [.ref A.t, .int (n : Int)] ∧ TW K D ro H A S ∧ S.ses[n]? = some s ∧ Q (.str (stS s.op)) H
theorem sc_Trunk_state : FnScope ["self", "session"] ["self", "session"] (defScope m_Trunk_state) := ⟨rfl, rfl, rfl, by decide +kernel, rfl, by decide +kernel, by decide +kernel⟩
theorem met_Trunk_state (T : Tx K mg) : Met P w K mg base 2 (CK K) "state" (spState K) := by
  refine T.met 62 152 113 rfl rfl rfl (N := ["self", "session"]) (ps := ["self", "session"]) (fun _ _ _ _ _ _ us hl => match us, hl with | [_, _], _ => rfl) sc_Trunk_state (fun vs H Q E h => ?_) (fun f cdv A0 outer s0 H vs Q E hr h => ?_)
  · obtain ⟨D, ro, A, S, n, s, rfl, _⟩ := h
    rfl
  · obtain ⟨D, ro, A, S, n, s, rfl, W, hn, k⟩ := h
    obtain ⟨p, al, rn, htk⟩ := id W.tk
    refine ⟨_, pss_one (ps_ret (pe_fld (pe_mt (met_Trunk_known T) hr (by decide) (pv 0) (pa_cons (pv 1) pa_nil)) rfl)), ?_⟩
    refine ⟨_, rfl, A.t, A.dt, _, rfl, htk, rfl, _, rfl, D, ro, A, S, n, s, rfl, W, hn, fun a ha hs => ?_⟩
    obtain ⟨dx, nm, jx, rf, q1, q2⟩ := id hs
    exact ⟨a, CS K, dx, _, _, rfl, q1, clS T, nS4 T, rfl, k⟩
def spBase (K : PySem.W.Frag) : Sp := fun vs H Q _ => ∃ (D : List Addr) (ro : Addr → Nat) (A : Ad) (S : Sta) (n : Nat) (s : Ses), vs = [.ref A.t, .int (n : Int)] ∧ TW K D ro H A S ∧ S.ses[n]? = some s ∧ Q (.int (s.base : Int)) H
theorem sc_Trunk_base : FnScope ["self", "session"] ["self", "session"] (defScope m_Trunk_base) := ⟨rfl, rfl, rfl, by decide +kernel, rfl, by decide +kernel, by decide +kernel⟩
theorem met_Trunk_base (T : Tx K mg) : Met P w K mg base 2 (CK K) "base" (spBase K) := by
  refine T.met 63 153 113 rfl rfl rfl (N := ["self", "session"]) (ps := ["self", "session"]) (fun _ _ _ _ _ _ us hl => match us, hl with | [_, _], _ => rfl) sc_Trunk_base (fun vs H Q E h => ?_) (fun f cdv A0 outer s0 H vs Q E hr h => ?_)
  · obtain ⟨D, ro, A, S, n, s, rfl, _⟩ := h
    rfl
  · obtain ⟨D, ro, A, S, n, s, rfl, W, hn, k⟩ := h
    obtain ⟨p, al, rn, htk⟩ := id W.tk
    refine ⟨_, pss_one (ps_ret (pe_fld (pe_mt (met_Trunk_known T) hr (by decide) (pv 0) (pa_cons (pv 1) pa_nil)) rfl)), ?_⟩
    refine ⟨_, rfl, A.t, A.dt, _, rfl, htk, rfl, _, rfl, D, ro, A, S, n, s, rfl, W, hn, fun a ha hs => ?_⟩
    obtain ⟨dx, nm, jx, rf, q1, q2⟩ := id hs
    exact ⟨a, CS K, dx, _, _, rfl, q1, clS T, nS1 T, rfl, k⟩
def spJournal (K : PySem.W.Frag) : Sp := fun vs H Q _ => ∃ (D : List Addr) (ro : Addr → Nat) (A : Ad) (S : Sta) (n : Nat) (s : Ses), vs = [.ref A.t, .int (n : Int)] ∧ TW K D ro H A S ∧ S.ses[n]? = some s ∧ ∀ jx, Dt K H jx (dJ s.j) → Q jx H
theorem sc_Trunk_journal : FnScope ["self", "session"] ["self", "session"] (defScope m_Trunk_journal) := ⟨rfl, rfl, rfl, by decide +kernel, rfl, by decide +kernel, by decide +kernel⟩
theorem met_Trunk_journal (T : Tx K mg) : Met P w K mg base 2 (CK K) "journal" (spJournal K) := by
  refine T.met 64 154 113 rfl rfl rfl (N := ["self", "session"]) (ps := ["self", "session"]) (fun _ _ _ _ _ _ us hl => match us, hl with | [_, _], _ => rfl) sc_Trunk_journal (fun vs H Q E h => ?_) (fun f cdv A0 outer s0 H vs Q E hr h => ?_)
  · obtain ⟨D, ro, A, S, n, s, rfl, _⟩ := h
    rfl
  · obtain ⟨D, ro, A, S, n, s, rfl, W, hn, k⟩ := h
    obtain ⟨p, al, rn, htk⟩ := id W.tk
    refine ⟨_, pss_one (ps_ret (pe_fld (pe_mt (met_Trunk_known T) hr (by decide) (pv 0) (pa_cons (pv 1) pa_nil)) rfl)), ?_⟩
    refine ⟨_, rfl, A.t, A.dt, _, rfl, htk, rfl, _, rfl, D, ro, A, S, n, s, rfl, W, hn, fun a ha hs => ?_⟩
    obtain ⟨dx, nm, jx, rf, q1, q2⟩ := id hs
    exact ⟨a, CS K, dx, _, _, rfl, q1, clS T, nS2 T, rfl, k jx q2⟩
def spSight (K : PySem.W.Frag) : Sp := fun vs H Q _ => ∃ (D : List Addr) (ro : Addr → Nat) (A : Ad) (S : Sta) (n : Nat) (s : Ses) (F : Files), vs = [.ref A.t, .int (n : Int)] ∧ TW K D ro H A S ∧ S.ses[n]? = some s ∧ S.trees[s.base]? = some F ∧ GoodF F ∧ GoodJ s.j ∧ ∀ H' tv, Same H H' → TrAt K (CT K) D H' tv (leadF F (s.j.map (·.1))) → Q tv H'
theorem sc_Trunk_sight : FnScope ["self", "session", "found"] ["self", "session"] (defScope m_Trunk_sight) := ⟨rfl, rfl, rfl, by decide +kernel, rfl, by decide +kernel, by decide +kernel⟩
theorem met_Trunk_sight (T : Tx K mg) : Met P w K mg base 11 (CK K) "sight" (spSight K) := by
  refine T.met 65 155 113 rfl rfl rfl (N := ["self", "session", "found"]) (ps := ["self", "session"]) (fun _ _ _ _ _ _ us hl => match us, hl with | [_, _], _ => rfl) sc_Trunk_sight (fun vs H Q E h => ?_) (fun f cdv A0 outer s0 H vs Q E hr h => ?_)
  · obtain ⟨D, ro, A, S, n, s, F, rfl, _⟩ := h
    rfl
  · obtain ⟨D, ro, A, S, n, s, F, rfl, W, hn, hF, gF, gj, k⟩ := h
    obtain ⟨p, al, rn, htk⟩ := id W.tk
    refine ⟨_, pss_cons (ps_set (i := 2) sc_Trunk_sight.nd rfl (by first | exact Or.inl rfl | exact Or.inr rfl) (pe_mt (met_Trunk_known T) hr (by decide) (pv 0) (pa_cons (pv 1) pa_nil))) (pss_one (ps_ret (pe_c (cal_lead T) hr (by decide) rfl (pa_cons (pe_fld (pv 2) rfl) (pa_cons (pe_ix ix_list (pe_fld (pv 0) rfl) (pe_fld (pv 2) rfl) (fun _ _ => rfl)) pa_nil))))), ?_⟩
    obtain ⟨tvs, h1, h2⟩ := W.tl
    obtain ⟨tv, e1, e2⟩ := pair_get h2 hF
    refine ⟨_, rfl, A.t, A.dt, _, rfl, htk, rfl, _, rfl, D, ro, A, S, n, s, rfl, W, hn, fun a ha hs => ?_⟩
    obtain ⟨dx, nm, jx, rf, q1, q2⟩ := id hs
    exact ⟨_, rfl, a, CS K, dx, _, _, rfl, q1, clS T, nS2 T, rfl, _, rfl, A.t, CK K, A.dt, _, _, rfl, htk, clK T, nK2 T, rfl, _, rfl, a, CS K, dx, _, _, rfl, q1, clS T, nS1 T, rfl, A.tl, tvs, _, tv, rfl, rfl, .inl (.inl h1), atI_nat e1, jx, tv, D, F, s.j, rfl, e2, gF, W.d, q2, gj, k⟩
def spIsProt (K : PySem.W.Frag) : Sp := fun vs H Q _ => ∃ (D : List Addr) (ro : Addr → Nat) (A : Ad) (S : Sta) (n : Nat) (s : Ses), vs = [.ref A.t, .int (n : Int)] ∧ TW K D ro H A S ∧ S.ses[n]? = some s ∧ ∀ b, (b = true ↔ S.prot = true ∧ ∃ r, S.line = n :: r) → Q (.bl b) H
theorem sc_Trunk_is_protected : FnScope ["self", "session"] ["self", "session"] (defScope m_Trunk_is_protected) := ⟨rfl, rfl, rfl, by decide +kernel, rfl, by decide +kernel, by decide +kernel⟩
theorem met_Trunk_is_protected (T : Tx K mg) : Met P w K mg base 2 (CK K) "is_protected" (spIsProt K) := by
  refine T.met 66 156 113 rfl rfl rfl (N := ["self", "session"]) (ps := ["self", "session"]) (fun _ _ _ _ _ _ us hl => match us, hl with | [_, _], _ => rfl) sc_Trunk_is_protected (fun vs H Q E h => ?_) (fun f cdv A0 outer s0 H vs Q E hr h => ?_)
  · obtain ⟨D, ro, A, S, n, s, rfl, _⟩ := h
    rfl
  · obtain ⟨D, ro, A, S, n, s, rfl, W, hn, k⟩ := h
    obtain ⟨p, al, rn, htk⟩ := id W.tk
    refine ⟨_, pss_cons (ps_expr (pe_mt (met_Trunk_known T) hr (by decide) (pv 0) (pa_cons (pv 1) pa_nil))) (pss_one (ps_ret (pe_and (pe_fld (pe_fld (pv 0) rfl) rfl) (pe_one (pe_cmpR op_eq (pv 1) (pe_mt0 (met_Line_first T) hr (by decide) (pe_fld (pv 0) rfl)) (nomark _)))))), ?_⟩
    obtain ⟨e, g1, g2, g3⟩ := id W.ln
    refine ⟨_, rfl, A.t, A.dt, _, rfl, htk, rfl, _, rfl, D, ro, A, S, n, s, rfl, W, hn, fun a ha hs => ?_⟩
    refine ⟨_, rfl, A.t, CK K, A.dt, _, _, rfl, htk, clK T, nK5 T, rfl, A.ln, CL K, A.dl, _, _, rfl, g1, clL T, nL_p T, rfl, _, rfl, ?_⟩
    cases hp : S.prot with
    | false => exact iteEn rfl (k false ⟨fun z => (nomatch z), fun z => by rw [hp] at z; cases z.1⟩)
    | true =>
      refine iteE rfl ⟨_, rfl, _, rfl, A.t, CK K, A.dt, _, _, rfl, htk, clK T, nK5 T, rfl, A.ln, A.dl, _, rfl, g1, rfl, A.ln, A.dl, A.ll, S.line, S.prot, rfl, W.ln, fun hl => ?_, fun m r hl => ?_⟩
      · refine ⟨rfl, k _ ⟨fun z => ?_, fun z => ?_⟩⟩
        · cases of_decide_eq_true z
        · obtain ⟨r, e⟩ := z.2
          rw [hl] at e
          cases e
      · refine ⟨rfl, k _ ⟨fun z => ?_, fun z => ?_⟩⟩
        · have := V.int.inj (of_decide_eq_true z)
          have e : n = m := by omega
          exact ⟨hp, r, by rw [e]; exact hl⟩
        · obtain ⟨r', e⟩ := z.2
          rw [hl] at e
          cases e
          exact decide_eq_true rfl
end
end Sa
/-! text E4 -/
/-! trunk: what is made -/
namespace Sa
open PySem PySem.Spec L2 PyProof.Rows
section
variable {P : Program} {w : World} {K : PySem.W.Frag} {mg : Str → Option Value} {base : Heap}
theorem putF_len {f : Str} {v : V} : ∀ fs : List (Str × V), (putF f v fs).length ≤ fs.length + 1
  | [] => Nat.le_refl _
  | (g, x) :: r => by
    unfold putF
    split
    · exact Nat.le_succ _
    · exact Nat.succ_le_succ (putF_len r)
theorem p0 : ([] : List (Str × V)).length ≤ 0 := Nat.le_refl _
theorem pS {f : Str} {v : V} {fs : List (Str × V)} {n : Nat} (h : fs.length ≤ n) : (putF f v fs).length ≤ n + 1 := Nat.le_trans (putF_len fs) (Nat.succ_le_succ h)
theorem pLt {fs : List (Str × V)} {n : Nat} (h : fs.length ≤ n) (hn : n < 1000 := by decide) : fs.length < 1000 := Nat.lt_of_le_of_lt h hn
def spSesInit (K : PySem.W.Frag) : Sp := fun vs H Q _ => ∃ (p dx : Addr) (nm : Str) (b : Nat) (jx : V), vs = [.ref p, .str nm, .int (b : Int), jx] ∧ H p = some (.ins (CS K) dx []) ∧ ∀ H', (∀ a, a ≠ p → H' a = H a) → H' p = some (.ins (CS K) dx (seF nm b jx 0 "open")) → Q .non H'
theorem sc_Session_init : FnScope ["self", "name", "base", "journal"] ["self", "name", "base", "journal"] (defScope m_Session_init) := ⟨rfl, rfl, rfl, by decide +kernel, rfl, by decide +kernel, by decide +kernel⟩
theorem mak_Session (T : Tx K mg) : Mak P w K mg base 1 "Session" (CS K) (spSesInit K) := by
  refine T.mak 38 102 56 rfl rfl rfl (N := ["self", "name", "base", "journal"]) (ps := ["self", "name", "base", "journal"]) (fun _ _ _ _ _ _ us hl => match us, hl with | [_, _, _, _], _ => rfl) sc_Session_init (fun vs H Q E h => ?_) (fun f cdv A0 outer s0 H vs Q E hr h => ?_)
  · obtain ⟨p, dx, nm, b, jx, rfl, _⟩ := h
    rfl
  · obtain ⟨p, dx, nm, b, jx, rfl, hp, k⟩ := h
    refine ⟨_, pss_cons (ps_fld (pv 0) (pv 1) rfl) (pss_cons (ps_fld (pv 0) (pv 2) rfl) (pss_cons (ps_fld (pv 0) (pv 3) rfl) (pss_cons (ps_fld (pv 0) (pe_int) rfl) (pss_one (ps_fld (pv 0) (pe_str) rfl))))), ?_⟩
    have q : ∀ (H0 : Hp) (fs : List (Str × V)), upd H0 p (.ins (CS K) dx fs) p = some (.ins (CS K) dx fs) := fun _ _ => upd_same
    refine ⟨_, rfl, _, rfl, p, CS K, dx, _, rfl, hp, clS T, nS0 T, pLt (p0), ?_⟩
    refine ⟨_, rfl, _, rfl, p, CS K, dx, _, rfl, q _ _, clS T, nS1 T, pLt (pS (p0)), ?_⟩
    refine ⟨_, rfl, _, rfl, p, CS K, dx, _, rfl, q _ _, clS T, nS2 T, pLt (pS (pS (p0))), ?_⟩
    refine ⟨_, rfl, p, CS K, dx, _, rfl, q _ _, clS T, nS3 T, pLt (pS (pS (pS (p0)))), ?_⟩
    refine ⟨_, rfl, p, CS K, dx, _, rfl, q _ _, clS T, nS4 T, pLt (pS (pS (pS (pS (p0))))), ?_⟩
    refine k _ (fun a ha => ?_) ?_
    · rw [upd_ne ha, upd_ne ha, upd_ne ha, upd_ne ha, upd_ne ha]
    · rw [upd_same]
      rfl
def spLineInit (K : PySem.W.Frag) : Sp := fun vs H Q _ => ∃ (p dx : Addr), vs = [.ref p] ∧ H p = some (.ins (CL K) dx []) ∧ ∀ H' ll, H ll = none → (∀ a, a ≠ p → a ≠ ll → H' a = H a) → LnAt K H' p dx ll [] false → Q .non H'
theorem sc_Line_init : FnScope ["self"] ["self"] (defScope m_Line_init) := ⟨rfl, rfl, rfl, by decide +kernel, rfl, by decide +kernel, by decide +kernel⟩
theorem mak_Line (T : Tx K mg) : Mak P w K mg base 1 "Line" (CL K) (spLineInit K) := by
  refine T.mak 39 109 57 rfl rfl rfl (N := ["self"]) (ps := ["self"]) (fun _ _ _ _ _ _ us hl => match us, hl with | [_], _ => rfl) sc_Line_init (fun vs H Q E h => ?_) (fun f cdv A0 outer s0 H vs Q E hr h => ?_)
  · obtain ⟨p, dx, rfl, _⟩ := h
    rfl
  · obtain ⟨p, dx, rfl, hp, k⟩ := h
    refine ⟨_, pss_cons (ps_fld (pv 0) (pe_lst (pa_nil)) rfl) (pss_cons (ps_fld (pv 0) (pe_bl) rfl) (pss_one (ps_fld (pv 0) (pe_int) rfl))), ?_⟩
    have q : ∀ (H0 : Hp) (fs : List (Str × V)), upd H0 p (.ins (CL K) dx fs) p = some (.ins (CL K) dx fs) := fun _ _ => upd_same
    refine ⟨small (m := 0) (Nat.le_refl 0), fun ll hll => ?_⟩
    have hne : p ≠ ll := ne_of_none hp hll
    refine ⟨_, rfl, p, CL K, dx, _, rfl, by rw [upd_ne hne]; exact hp, clL T, nL_s T, pLt (p0), ?_⟩
    refine ⟨_, rfl, p, CL K, dx, _, rfl, q _ _, clL T, nL_p T, pLt (pS (p0)), ?_⟩
    refine ⟨_, rfl, p, CL K, dx, _, rfl, q _ _, clL T, nL_e T, pLt (pS (pS (p0))), ?_⟩
    refine k _ ll hll (fun a ha hb => ?_) ⟨0, ?_, ?_, by decide⟩
    · rw [upd_ne ha, upd_ne ha, upd_ne ha, upd_ne hb]
    · rw [upd_same]
      rfl
    · rw [upd_ne (Ne.symm hne), upd_ne (Ne.symm hne), upd_ne (Ne.symm hne), upd_same]
      rfl
/-- a new trunk's objects -/
structure NewK (K : PySem.W.Frag) (H H' : Hp) (p dt : Addr) (tv : V) (A : Ad) : Prop where
  t : A.t = p
  dt : A.dt = dt
  ss : A.ss = []
  kp : ∀ a o, H a = some o → a ≠ p → H' a = some o
  tk : TkAt K H' A
  tl : H' A.tl = some (.lst [tv])
  el : H' A.el = some (.lst [])
  sl : H' A.sl = some (.lst [])
  ln : LnAt K H' A.ln A.dl A.ll [] false
  ck : H' A.ck = some (.dK [])
  vd : H' A.vd = some (.dK [])
  new : ∀ a ∈ [A.tl, A.el, A.sl, A.ln, A.ll, A.ck, A.vd], H a = none
  ne : [A.tl, A.el, A.sl, A.ln, A.ll, A.ck, A.vd].Nodup
def spTrunkInit (K : PySem.W.Frag) : Sp := fun vs H Q _ => ∃ (p dt : Addr) (tv : V) (pa al : Int), vs = [.ref p, tv, .int pa, .int al] ∧ H p = some (.ins (CK K) dt []) ∧ 1 ≤ pa ∧ pa ≤ 9 ∧ 1 ≤ al ∧ al ≤ 9 ∧ ∀ H' A, NewK K H H' p dt tv A → Q .non H'
theorem sc_Trunk_init : FnScope ["self", "tree", "patience", "allowance"] ["self", "tree", "patience", "allowance"] (defScope m_Trunk_init) := ⟨rfl, rfl, rfl, by decide +kernel, rfl, by decide +kernel, by decide +kernel⟩
theorem mak_Trunk (T : Tx K mg) : Mak P w K mg base 3 "Trunk" (CK K) (spTrunkInit K) := by
  refine T.mak 44 114 58 rfl rfl rfl (N := ["self", "tree", "patience", "allowance"]) (ps := ["self", "tree", "patience", "allowance"]) (fun _ _ _ _ _ _ us hl => match us, hl with | [_, _, _, _], _ => rfl) sc_Trunk_init (fun vs H Q E h => ?_) (fun f cdv A0 outer s0 H vs Q E hr h => ?_)
  · obtain ⟨p, dt, tv, pa, al, rfl, _⟩ := h
    rfl
  · obtain ⟨p, dt, tv, pa, al, rfl, hp, p1, p9, a1, a9, k⟩ := h
    refine ⟨_, pss_cons (ps_if (pt_not (pt_chain op_le op_le (pe_int) (pv 2) (pe_gc rfl (T.gint 84)))) (pss_one (ps_never)) (pss_nil)) (pss_cons (ps_if (pt_not (pt_chain op_le op_le (pe_int) (pv 3) (pe_gc rfl (T.gint 84)))) (pss_one (ps_never)) (pss_nil)) (pss_cons (ps_fld (pv 0) (pv 2) rfl) (pss_cons (ps_fld (pv 0) (pv 3) rfl) (pss_cons (ps_fld (pv 0) (pe_lst (pa_cons (pv 1) pa_nil)) rfl) (pss_cons (ps_fld (pv 0) (pe_lst (pa_nil)) rfl) (pss_cons (ps_fld (pv 0) (pe_lst (pa_nil)) rfl) (pss_cons (ps_fld (pv 0) (pe_mk0 (mak_Line T) hr (by decide) rfl) rfl) (pss_cons (ps_fld (pv 0) (pe_dnewK) rfl) (pss_cons (ps_fld (pv 0) (pe_dnewK) rfl) (pss_one (ps_fld (pv 0) (pe_int) rfl))))))))))), ?_⟩
    have q : ∀ (H0 : Hp) (fs : List (Str × V)), upd H0 p (.ins (CK K) dt fs) p = some (.ins (CK K) dt fs) := fun _ _ => upd_same
    have e1 : (!decide (pa ≤ 9)) = false := by rw [decide_eq_true p9]; rfl
    have e2 : (!decide (al ≤ 9)) = false := by rw [decide_eq_true a9]; rfl
    refine ⟨_, rfl, _, _, rfl, rfl, _, rfl, iteP p1 ⟨_, _, rfl, rfl, _, rfl, iteEn e1 ?_⟩⟩
    refine ⟨_, rfl, _, _, rfl, rfl, _, rfl, iteP a1 ⟨_, _, rfl, rfl, _, rfl, iteEn e2 ?_⟩⟩
    refine ⟨_, rfl, _, rfl, p, CK K, dt, _, rfl, hp, clK T, nK0 T, pLt (p0), ?_⟩
    refine ⟨_, rfl, _, rfl, p, CK K, dt, _, rfl, q _ _, clK T, nK1 T, pLt (pS (p0)), ?_⟩
    have q2 : ∀ (H0 : Hp) (fs : List (Str × V)) (a : Addr) (u : HO), H0 a = some u → a ≠ p → upd H0 p (.ins (CK K) dt fs) a = some u := fun H0 fs a u h n => by rw [upd_ne n]; exact h
    have q3 : ∀ (H0 : Hp) (x : Addr) (o : HO) (fs : List (Str × V)) (a : Addr) (u : HO), H0 x = none → H0 a = some u → a ≠ p → upd (upd H0 x o) p (.ins (CK K) dt fs) a = some u := fun H0 x o fs a u hx h n => by rw [upd_ne n, upd_ne (ne_of_none h hx)]; exact h
    have kp0 : ∀ a o, H a = some o → a ≠ p → upd (upd H p (HO.ins (CK K) dt (putF "_patience" (V.int pa) []))) p (HO.ins (CK K) dt (putF "_allowance" (V.int al) (putF "_patience" (V.int pa) []))) a = some o := fun a o h n => q2 _ _ _ _ (q2 _ _ _ _ h n) n
    have hp0 := q (upd H p (HO.ins (CK K) dt (putF "_patience" (V.int pa) []))) (putF "_allowance" (V.int al) (putF "_patience" (V.int pa) []))
    generalize upd (upd H p (HO.ins (CK K) dt (putF "_patience" (V.int pa) []))) p (HO.ins (CK K) dt (putF "_allowance" (V.int al) (putF "_patience" (V.int pa) []))) = H0 at kp0 hp0 ⊢
    -- trees
    refine ⟨_, rfl, small (m := 1) (Nat.le_refl 1), fun tl htl => ?_⟩
    have n1 : p ≠ tl := ne_of_none hp0 htl
    refine ⟨_, rfl, p, CK K, dt, _, rfl, by rw [upd_ne n1]; exact hp0, clK T, nK2 T, pLt (pS (pS (p0))), ?_⟩
    have f1 : H tl = none := by
      cases e : H tl with
      | none => rfl
      | some o => rw [kp0 tl o e (Ne.symm n1)] at htl; cases htl
    generalize eH1 : upd (upd H0 tl (HO.lst [tv])) p (HO.ins (CK K) dt (putF "_trees" (V.ref tl) (putF "_allowance" (V.int al) (putF "_patience" (V.int pa) [])))) = H1
    have kp1 : ∀ a o, H a = some o → a ≠ p → H1 a = some o := fun a o h n => by rw [← eH1]; exact q3 _ _ _ _ _ _ htl (kp0 a o h n) n
    have hp1 : H1 p = some (HO.ins (CK K) dt (putF "_trees" (V.ref tl) (putF "_allowance" (V.int al) (putF "_patience" (V.int pa) [])))) := by rw [← eH1]; exact upd_same
    have tl1 : H1 tl = some (.lst [tv]) := by rw [← eH1, upd_ne (Ne.symm n1)]; exact upd_same
    clear eH1
    -- entries
    refine ⟨small (m := 0) (Nat.le_refl 0), fun el hel => ?_⟩
    have n2 : p ≠ el := ne_of_none hp1 hel
    refine ⟨_, rfl, p, CK K, dt, _, rfl, by rw [upd_ne n2]; exact hp1, clK T, nK3 T, pLt (pS (pS (pS (p0)))), ?_⟩
    have f2 : H el = none := by
      cases e : H el with
      | none => rfl
      | some o => rw [kp1 el o e (Ne.symm n2)] at hel; cases hel
    have x21 : tl ≠ el := ne_of_none tl1 hel
    generalize eH2 : upd (upd H1 el (HO.lst [])) p (HO.ins (CK K) dt (putF "_entries" (V.ref el) (putF "_trees" (V.ref tl) (putF "_allowance" (V.int al) (putF "_patience" (V.int pa) []))))) = H2
    have kp2 : ∀ a o, H a = some o → a ≠ p → H2 a = some o := fun a o h n => by rw [← eH2]; exact q3 _ _ _ _ _ _ hel (kp1 a o h n) n
    have hp2 : H2 p = some (HO.ins (CK K) dt (putF "_entries" (V.ref el) (putF "_trees" (V.ref tl) (putF "_allowance" (V.int al) (putF "_patience" (V.int pa) []))))) := by rw [← eH2]; exact upd_same
    have tl2 : H2 tl = some (.lst [tv]) := by rw [← eH2]; exact q3 _ _ _ _ _ _ hel tl1 (Ne.symm n1)
    have el2 : H2 el = some (.lst []) := by rw [← eH2, upd_ne (Ne.symm n2)]; exact upd_same
    clear eH2
    -- sessions
    refine ⟨small (m := 0) (Nat.le_refl 0), fun sl hsl => ?_⟩
    have n3 : p ≠ sl := ne_of_none hp2 hsl
    refine ⟨_, rfl, p, CK K, dt, _, rfl, by rw [upd_ne n3]; exact hp2, clK T, nK4 T, pLt (pS (pS (pS (pS (p0))))), ?_⟩
    have f3 : H sl = none := by
      cases e : H sl with
      | none => rfl
      | some o => rw [kp2 sl o e (Ne.symm n3)] at hsl; cases hsl
    have x31 : tl ≠ sl := ne_of_none tl2 hsl
    have x32 : el ≠ sl := ne_of_none el2 hsl
    generalize eH3 : upd (upd H2 sl (HO.lst [])) p (HO.ins (CK K) dt (putF "_sessions" (V.ref sl) (putF "_entries" (V.ref el) (putF "_trees" (V.ref tl) (putF "_allowance" (V.int al) (putF "_patience" (V.int pa) [])))))) = H3
    have kp3 : ∀ a o, H a = some o → a ≠ p → H3 a = some o := fun a o h n => by rw [← eH3]; exact q3 _ _ _ _ _ _ hsl (kp2 a o h n) n
    have hp3 : H3 p = some (HO.ins (CK K) dt (putF "_sessions" (V.ref sl) (putF "_entries" (V.ref el) (putF "_trees" (V.ref tl) (putF "_allowance" (V.int al) (putF "_patience" (V.int pa) [])))))) := by rw [← eH3]; exact upd_same
    have tl3 : H3 tl = some (.lst [tv]) := by rw [← eH3]; exact q3 _ _ _ _ _ _ hsl tl2 (Ne.symm n1)
    have el3 : H3 el = some (.lst []) := by rw [← eH3]; exact q3 _ _ _ _ _ _ hsl el2 (Ne.symm n2)
    have sl3 : H3 sl = some (.lst []) := by rw [← eH3, upd_ne (Ne.symm n3)]; exact upd_same
    clear eH3
    -- the line
    refine fun ln dl hln hdl hdn => ?_
    have n4 : p ≠ ln := ne_of_none hp3 hln
    have n4' : p ≠ dl := ne_of_none hp3 hdl
    refine ⟨ln, dl, rfl, upd_same, fun H4 ll hll hk4 hat => ⟨rfl, ?_⟩⟩
    replace hll : upd (upd H3 dl (.own ln)) ln (.ins (CL K) dl []) ll = none := hll
    have mv : ∀ a o, H3 a = some o → H4 a = some o := fun a o h => by
      have a1 : a ≠ ln := ne_of_none h hln
      have a2 : a ≠ dl := ne_of_none h hdl
      have h2 : upd (upd H3 dl (.own ln)) ln (.ins (CL K) dl []) a = some o := by rw [upd_ne a1, upd_ne a2]; exact h
      rw [hk4 a a1 (ne_of_none h2 hll)]
      exact h2
    have hp4 := mv _ _ hp3
    have n5 : p ≠ ll := fun z => by
      have : upd (upd H3 dl (.own ln)) ln (.ins (CL K) dl []) p = some _ := (by rw [upd_ne n4, upd_ne n4']; exact hp3)
      rw [z, hll] at this
      cases this
    refine ⟨_, rfl, p, CK K, dt, _, rfl, hp4, clK T, nK5 T, pLt (pS (pS (pS (pS (pS (p0)))))), ?_⟩
    have f4 : H ln = none := by
      cases e : H ln with
      | none => rfl
      | some o => rw [kp3 ln o e (Ne.symm n4)] at hln; cases hln
    have f5 : H ll = none := by
      cases e : H ll with
      | none => rfl
      | some o =>
        have h3 := kp3 ll o e (Ne.symm n5)
        have : upd (upd H3 dl (.own ln)) ln (.ins (CL K) dl []) ll = some o := by rw [upd_ne (ne_of_none h3 hln), upd_ne (ne_of_none h3 hdl)]; exact h3
        rw [hll] at this
        cases this
    have hml : ∀ a o, H3 a = some o → a ≠ ll := fun a o h z => by
      have : upd (upd H3 dl (.own ln)) ln (.ins (CL K) dl []) a = some o := by rw [upd_ne (ne_of_none h hln), upd_ne (ne_of_none h hdl)]; exact h
      rw [z, hll] at this
      cases this
    have y1 := hml _ _ tl3
    have y2 := hml _ _ el3
    have y3 := hml _ _ sl3
    have z1 : tl ≠ ln := ne_of_none tl3 hln
    have z2 : el ≠ ln := ne_of_none el3 hln
    have z3 : sl ≠ ln := ne_of_none sl3 hln
    have z4 := hat.ne
    obtain ⟨ev, g1, g2, g3⟩ := hat
    generalize eH5 : upd H4 p (HO.ins (CK K) dt (putF "_line" (V.ref ln) (putF "_sessions" (V.ref sl) (putF "_entries" (V.ref el) (putF "_trees" (V.ref tl) (putF "_allowance" (V.int al) (putF "_patience" (V.int pa) []))))))) = H5
    have mv5 : ∀ a o, H4 a = some o → a ≠ p → H5 a = some o := fun a o h n => by rw [← eH5]; exact q2 _ _ _ _ h n
    have hp5 : H5 p = some (HO.ins (CK K) dt (putF "_line" (V.ref ln) (putF "_sessions" (V.ref sl) (putF "_entries" (V.ref el) (putF "_trees" (V.ref tl) (putF "_allowance" (V.int al) (putF "_patience" (V.int pa) []))))))) := by rw [← eH5]; exact upd_same
    have kp5 : ∀ a o, H a = some o → a ≠ p → H5 a = some o := fun a o h n => mv5 _ _ (mv _ _ (kp3 a o h n)) n
    have tl5 := mv5 _ _ (mv _ _ tl3) (Ne.symm n1)
    have el5 := mv5 _ _ (mv _ _ el3) (Ne.symm n2)
    have sl5 := mv5 _ _ (mv _ _ sl3) (Ne.symm n3)
    have ln5 := mv5 _ _ g1 (Ne.symm n4)
    have ll5 := mv5 _ _ g2 (Ne.symm n5)
    clear eH5
    -- checks
    refine fun ck hck => ?_
    have n6 : p ≠ ck := ne_of_none hp5 hck
    refine ⟨_, rfl, p, CK K, dt, _, rfl, by rw [upd_ne n6]; exact hp5, clK T, nK6 T, pLt (pS (pS (pS (pS (pS (pS (p0))))))), ?_⟩
    have f6 : H ck = none := by
      cases e : H ck with
      | none => rfl
      | some o => rw [kp5 ck o e (Ne.symm n6)] at hck; cases hck
    generalize eH6 : upd (upd H5 ck (HO.dK [])) p (HO.ins (CK K) dt (putF "_checks" (V.ref ck) (putF "_line" (V.ref ln) (putF "_sessions" (V.ref sl) (putF "_entries" (V.ref el) (putF "_trees" (V.ref tl) (putF "_allowance" (V.int al) (putF "_patience" (V.int pa) [])))))))) = H6
    have mv6 : ∀ a o, H5 a = some o → a ≠ p → H6 a = some o := fun a o h n => by rw [← eH6]; exact q3 _ _ _ _ _ _ hck h n
    have hp6 : H6 p = some (HO.ins (CK K) dt (putF "_checks" (V.ref ck) (putF "_line" (V.ref ln) (putF "_sessions" (V.ref sl) (putF "_entries" (V.ref el) (putF "_trees" (V.ref tl) (putF "_allowance" (V.int al) (putF "_patience" (V.int pa) [])))))))) := by rw [← eH6]; exact upd_same
    have ck6 : H6 ck = some (.dK []) := by rw [← eH6, upd_ne (Ne.symm n6)]; exact upd_same
    clear eH6
    -- verdicts
    refine fun vd hvd => ?_
    have n7 : p ≠ vd := ne_of_none hp6 hvd
    refine ⟨_, rfl, p, CK K, dt, _, rfl, by rw [upd_ne n7]; exact hp6, clK T, nK7 T, pLt (pS (pS (pS (pS (pS (pS (pS (p0)))))))), ?_⟩
    have f7 : H vd = none := by
      cases e : H vd with
      | none => rfl
      | some o => rw [mv6 _ _ (kp5 vd o e (Ne.symm n7)) (Ne.symm n7)] at hvd; cases hvd
    generalize eH7 : upd (upd H6 vd (HO.dK [])) p (HO.ins (CK K) dt (putF "_verdicts" (V.ref vd) (putF "_checks" (V.ref ck) (putF "_line" (V.ref ln) (putF "_sessions" (V.ref sl) (putF "_entries" (V.ref el) (putF "_trees" (V.ref tl) (putF "_allowance" (V.int al) (putF "_patience" (V.int pa) []))))))))) = H7
    have mv7 : ∀ a o, H6 a = some o → a ≠ p → H7 a = some o := fun a o h n => by rw [← eH7]; exact q3 _ _ _ _ _ _ hvd h n
    have hp7 : H7 p = some (HO.ins (CK K) dt (putF "_verdicts" (V.ref vd) (putF "_checks" (V.ref ck) (putF "_line" (V.ref ln) (putF "_sessions" (V.ref sl) (putF "_entries" (V.ref el) (putF "_trees" (V.ref tl) (putF "_allowance" (V.int al) (putF "_patience" (V.int pa) []))))))))) := by rw [← eH7]; exact upd_same
    have vd7 : H7 vd = some (.dK []) := by rw [← eH7, upd_ne (Ne.symm n7)]; exact upd_same
    clear eH7
    refine ⟨_, rfl, p, CK K, dt, _, rfl, hp7, clK T, nK8 T, pLt (pS (pS (pS (pS (pS (pS (pS (pS (p0))))))))), ?_⟩
    have x : ∀ a o, H5 a = some o → a ≠ p → H6 a = some o ∧ a ≠ ck := fun a o h n => ⟨mv6 a o h n, ne_of_none h hck⟩
    have fin : ∀ a o, H7 a = some o → a ≠ p → upd H7 p (HO.ins (CK K) dt (putF "_runs" (V.int 0) (putF "_verdicts" (V.ref vd) (putF "_checks" (V.ref ck) (putF "_line" (V.ref ln) (putF "_sessions" (V.ref sl) (putF "_entries" (V.ref el) (putF "_trees" (V.ref tl) (putF "_allowance" (V.int al) (putF "_patience" (V.int pa) [])))))))))) a = some o := fun a o h n => q2 _ _ _ _ h n
    have go : ∀ a o, H5 a = some o → a ≠ p → upd H7 p (HO.ins (CK K) dt (putF "_runs" (V.int 0) (putF "_verdicts" (V.ref vd) (putF "_checks" (V.ref ck) (putF "_line" (V.ref ln) (putF "_sessions" (V.ref sl) (putF "_entries" (V.ref el) (putF "_trees" (V.ref tl) (putF "_allowance" (V.int al) (putF "_patience" (V.int pa) [])))))))))) a = some o := fun a o h n => fin a o (mv7 a o (mv6 a o h n) n) n
    have nck : ∀ a o, H5 a = some o → a ≠ ck := fun a o h => ne_of_none h hck
    have nvd : ∀ a o, H5 a = some o → a ≠ p → a ≠ vd := fun a o h n => ne_of_none (mv6 a o h n) hvd
    have nvc : ck ≠ vd := ne_of_none ck6 hvd
    refine k _ ⟨p, dt, tl, el, sl, ln, dl, ll, ck, vd, []⟩ ⟨rfl, rfl, rfl, fun a o h n => go a o (kp5 a o h n) n, ⟨pa, al, 0, by rw [upd_same]; rfl⟩, go _ _ tl5 (Ne.symm n1), go _ _ el5 (Ne.symm n2), go _ _ sl5 (Ne.symm n3),
      ⟨ev, go _ _ ln5 (Ne.symm n4), go _ _ ll5 (Ne.symm n5), g3⟩, fin _ _ (mv7 _ _ ck6 (Ne.symm n6)) (Ne.symm n6), fin _ _ vd7 (Ne.symm n7), ?_, ?_⟩
    · intro a ha
      simp only [List.mem_cons, List.not_mem_nil, or_false] at ha
      rcases ha with rfl | rfl | rfl | rfl | rfl | rfl | rfl <;> assumption
    · simp only [List.nodup_cons, List.mem_cons, List.not_mem_nil, or_false, not_or, not_false_eq_true, and_true, List.nodup_nil]
      exact ⟨⟨x21, x31, z1, y1, nck _ _ tl5, nvd _ _ tl5 (Ne.symm n1)⟩, ⟨x32, z2, y2, nck _ _ el5, nvd _ _ el5 (Ne.symm n2)⟩, ⟨z3, y3, nck _ _ sl5, nvd _ _ sl5 (Ne.symm n3)⟩, ⟨z4, nck _ _ ln5, nvd _ _ ln5 (Ne.symm n4)⟩, ⟨nck _ _ ll5, nvd _ _ ll5 (Ne.symm n5)⟩, nvc⟩
end
end Sa
/-! text E5 -/
/-! trunk.Trunk: begin, require -/
namespace Sa
open PySem PySem.Spec L2 PyProof.Rows
/-- what the trunk may change -/
def X50 (n : Nat) : Bool := decide (50 ≤ n)
theorem stS_open (n : Nat) : decide (V.str (stS n) = V.str "open") = decide (n = 0) := by
  match n with
  | 0 => decide +kernel
  | 1 => decide +kernel
  | n + 2 =>
    rw [decide_eq_false (show ¬ (n + 2 = 0) by omega)]
    show decide (V.str "accepted" = V.str "open") = false
    decide +kernel
def openN (S : Sta) : Nat := S.ses.countP fun s => decide (s.op = 0)
section
variable {P : Program} {w : World} {K : PySem.W.Frag} {mg : Str → Option Value} {base : Heap}
theorem CkAt.role {ro ro' : Addr → Nat} {H : Hp} {A A' : Ad} {cks vks : List (Key × V)} {ks : List Str} (h : CkAt K ro H A cks vks ks) (hr : ∀ a us, H a = some (.lst us) → ro' a = ro a) (e1 : A'.ck = A.ck := by rfl) (e2 : A'.vd = A.vd := by rfl) : CkAt K ro' H A' cks vks ks := by
  refine ⟨by rw [e1]; exact h.ck, by rw [e2]; exact h.vd, h.keys, h.len, h.vkeys, h.nd, fun k hk => ?_⟩
  obtain ⟨cv, vv, c, q1, q2, q3, q4, a, us, q5, h0, h1, h2, h3⟩ := h.one k hk
  exact ⟨cv, vv, c, q1, q2, q3, q4, a, us, q5, by rw [hr a us h1]; exact h0, h1, h2, h3⟩
def spAdd (K : PySem.W.Frag) : Sp := fun vs H Q _ => ∃ (D : List Addr) (ro : Addr → Nat) (A : Ad) (S : Sta) (p : Addr), vs = [.ref A.t, .ref p] ∧ TW K D ro H A S ∧ openN S < 6 ∧ S.ses.length < 100 ∧ ∀ H1, Same H H1 → Q (.int (S.ses.length : Int)) (upd H1 A.sl (.lst (A.ss.map .ref ++ [.ref p])))
theorem sc_Trunk_add : FnScope ["self", "session", "other"] ["self", "session"] (defScope m_Trunk_add) := ⟨rfl, rfl, rfl, by decide +kernel, rfl, by decide +kernel, by decide +kernel⟩
theorem met_Trunk_add (T : Tx K mg) : Met P w K mg base 1 (CK K) "_add" (spAdd K) := by
  refine T.met 51 141 113 rfl rfl rfl (N := ["self", "session", "other"]) (ps := ["self", "session"]) (fun _ _ _ _ _ _ us hl => match us, hl with | [_, _], _ => rfl) sc_Trunk_add (fun vs H Q E h => ?_) (fun f cdv A0 outer s0 H vs Q E hr h => ?_)
  · obtain ⟨D, ro, A, S, p, rfl, _⟩ := h
    rfl
  · obtain ⟨D, ro, A, S, p, rfl, W, h6, h100, k⟩ := h
    obtain ⟨pp, al, rn, htk⟩ := id W.tk
    obtain ⟨h1, h2⟩ := W.sl
    have hl := pair_len h2
    have hml : (A.ss.map V.ref).length = S.ses.length := by rw [List.length_map, hl]
    refine ⟨_, pss_cons (ps_if (pt_cmpR op_eq (pe_callB call_len_seq (by rfl) (T.free 85) bv_len (pa_cons (pe_lc (own := [("other", 2)]) (g := gName 2) rfl sc_Trunk_add.nd (pi_list (pe_fld (pv 0) rfl)) (blkOk_by (own := [("other", 2)]) (N := ["self", "session", "other"]) (sc := defScope m_Trunk_add) (by decide +kernel)) (fun _ _ _ _ _ => pg_name (i := 2) sc_Trunk_add.nd rfl (by first | exact Or.inl rfl | exact Or.inr rfl)) (fun _ _ _ _ _ => pts_one (pt_cmpR op_eq (pe_fldK K rfl (pv 2) rfl) (pe_str) (nomark _))) (fun _ _ _ _ _ => pv 2)) pa_nil)) (pe_gc rfl (T.gint 79)) (nomark _)) (pss_one (ps_never)) (pss_nil)) (pss_cons (ps_expr (pe_bm PySem.F.plainAttrs_list PySem.F.slot_list_append PySem.F.type_list_append mt_append (pe_fld (pv 0) rfl) (pa_cons (pv 1) pa_nil))) (pss_one (ps_ret (pe_op op_sub (pe_callB call_len_seq (by rfl) (T.free 85) bv_len (pa_cons (pe_fld (pv 0) rfl) pa_nil)) (pe_int))))), ?_⟩
    refine ⟨_, rfl, A.t, CK K, A.dt, _, _, rfl, htk, clK T, nK4 T, rfl, A.sl, rfl, ⟨_, .inl (.inl h1)⟩, fun B hB => lc_list (xs := A.ss.map V.ref) (fun i H' => Same H H' ∧ ∃ vs, H' B = some (.lst vs) ∧ vs.length = (S.ses.take i).countP fun s => decide (s.op = 0)) ⟨same_new hB, [], upd_same, rfl⟩ (fun i H' _ q => .inl (.inl (q.1 _ _ h1))) ?_ ?_⟩
    · rintro i y H1 hi ⟨s1, vs, hl1, hc⟩
      rw [List.getElem?_map] at hi
      obtain ⟨a, ha, rfl⟩ := Option.map_eq_some_iff.mp hi
      obtain ⟨q, hq, hs⟩ := pair_getL h2 ha
      obtain ⟨dx, nm, jx, rf, q1, q2⟩ := hs
      have hi' : i < S.ses.length := (List.getElem?_eq_some_iff.mp hq).1
      have hcl : (S.ses.take i).countP (fun s => decide (s.op = 0)) ≤ 100 := Nat.le_trans List.countP_le_length (by rw [List.length_take]; omega)
      have et : (S.ses.take (i + 1)).countP (fun s => decide (s.op = 0)) = (S.ses.take i).countP (fun s => decide (s.op = 0)) + (if decide (q.op = 0) = true then 1 else 0) := by
        rw [List.take_succ, hq, List.countP_append]
        congr 1
        show List.countP _ [q] = _
        rw [List.countP_singleton]
      refine ⟨rfl, _, rfl, a, CS K, dx, _, _, rfl, s1 _ _ q1, clS T, nS4 T, rfl, rfl, _, rfl, ?_⟩
      have es := stS_open q.op
      by_cases e : q.op = 0
      · rw [decide_eq_true e] at et es
        refine iteE es ⟨_, rfl, vs, hl1, smallt (m := 200) (by omega), same_mut s1 hB, _, upd_same, ?_⟩
        rw [List.length_append, et, hc]
        rfl
      · rw [decide_eq_false e] at et es
        refine iteEn es ⟨s1, vs, hl1, ?_⟩
        rw [et, hc]
        rfl
    rintro H1 ⟨s1, vs, hl1, hc⟩
    rw [hml, List.take_length] at hc
    have h6' : vs.length < 6 := by rw [hc]; exact h6
    refine ⟨B, vs, rfl, .inl (.inl (.inl hl1)), rfl, _, rfl, iteN (fun z => by have := V.int.inj z; omega) ?_⟩
    have htk1 := s1 _ _ htk
    refine ⟨_, rfl, A.t, CK K, A.dt, _, _, rfl, htk1, clK T, nK4 T, rfl, .inl ⟨rfl, _, .inl (.inl (s1 _ _ h1))⟩, _, rfl, A.sl, _, _, rfl, rfl, s1 _ _ h1, smallt (m := 100) (by omega), ?_⟩
    have ne : A.t ≠ A.sl := ne_ro W.r.t W.r.sl (by decide)
    have htk2 : upd H1 A.sl (.lst (A.ss.map .ref ++ [.ref p])) A.t = some (.ins (CK K) A.dt (tkF A pp al rn)) := by rw [upd_ne ne]; exact htk1
    refine ⟨_, rfl, A.t, CK K, A.dt, _, _, rfl, htk2, clK T, nK4 T, rfl, A.sl, _, rfl, .inl (.inl (.inl upd_same)), _, _, rfl, rfl, ?_⟩
    have en : (((A.ss.map V.ref ++ [V.ref p]).length : Nat) : Int) - 1 = (S.ses.length : Int) := by
      rw [List.length_append, hml]
      show (((S.ses.length + 1 : Nat) : Int)) - 1 = _
      omega
    exact Eq.mp (congrArg (fun z => Q (.int z) (upd H1 A.sl (.lst (A.ss.map .ref ++ [.ref p])))) en.symm) (k H1 s1)
/-- the trunk behind begin -/
def begun (S : Sta) : Sta := { S with ses := S.ses ++ [⟨S.trees.length - 1, [], 0⟩] }
theorem InvS.begun {S : Sta} (i : InvS S) : InvS (begun S) := by
  have hp : S.trees.length = S.ents.length + 1 := i.n1
  refine ⟨i.tr, i.n1, i.ch, fun n s h => ?_, fun n h => ?_, i.nd, fun hpr n r hl s hs => ?_⟩
  · change (S.ses ++ _)[n]? = some s at h
    by_cases hn : n < S.ses.length
    · rw [List.getElem?_append_left hn] at h
      exact i.se n s h
    · rw [List.getElem?_append_right (by omega)] at h
      have hm : s = ⟨S.trees.length - 1, [], 0⟩ := List.mem_singleton.mp (List.mem_of_getElem? h)
      subst hm
      refine ⟨⟨fun _ h => absurd h (by simp), Nat.zero_le _⟩, S.trees[S.trees.length - 1], List.getElem?_eq_getElem _, rfl⟩
  · have := i.ln n h
    show n < (S.ses ++ [_]).length
    rw [List.length_append]
    omega
  · have hn := i.ln n (by
      have hl' : S.line = n :: r := hl
      rw [hl']
      exact List.mem_cons_self)
    change (S.ses ++ _)[n]? = some s at hs
    rw [List.getElem?_append_left hn] at hs
    exact i.pr hpr n r hl s hs
def spBegin (K : PySem.W.Frag) : Sp := fun vs H Q _ => ∃ (D : List Addr) (ro : Addr → Nat) (A : Ad) (S : Sta) (nm : Str), vs = [.ref A.t, .str nm] ∧ nm ∈ NMS ∧ TW K D ro H A S ∧ 1 ≤ S.trees.length ∧ openN S < 6 ∧ S.ses.length < 100 ∧
  ∀ H' A' ro', Go K D ro X50 H H' → (∀ a o, H a = some o → ro' a = ro a) → A'.t = A.t → TW K D ro' H' A' (begun S) → Q (.int (S.ses.length : Int)) H'
theorem sc_Trunk_begin : FnScope ["self", "name"] ["self", "name"] (defScope m_Trunk_begin) := ⟨rfl, rfl, rfl, by decide +kernel, rfl, by decide +kernel, by decide +kernel⟩
theorem met_Trunk_begin (T : Tx K mg) : Met P w K mg base 3 (CK K) "begin" (spBegin K) := by
  refine T.met 52 142 113 rfl rfl rfl (N := ["self", "name"]) (ps := ["self", "name"]) (fun _ _ _ _ _ _ us hl => match us, hl with | [_, _], _ => rfl) sc_Trunk_begin (fun vs H Q E h => ?_) (fun f cdv A0 outer s0 H vs Q E hr h => ?_)
  · obtain ⟨D, ro, A, S, nm, rfl, _⟩ := h
    rfl
  · obtain ⟨D, ro, A, S, nm, rfl, hnm, W, hp, h6, h100, k⟩ := h
    obtain ⟨pp, al, rn, htk⟩ := id W.tk
    refine ⟨_, pss_cons (ps_if (pt_not (pt_val (pe_c (cal_is_name T) hr (by decide) rfl (pa_cons (pv 1) pa_nil)))) (pss_one (ps_never)) (pss_nil)) (pss_one (ps_ret (pe_mt (met_Trunk_add T) hr (by decide) (pv 0) (pa_cons (pe_mk (mak_Session T) hr (by decide) rfl (pa_cons (pv 1) (pa_cons (pe_mt0 (met_Trunk_version T) hr (by decide) (pv 0)) (pa_cons (pe_tup (pa_nil)) pa_nil)))) pa_nil)))), ?_⟩
    refine ⟨_, rfl, nm, rfl, hnm, fun H1 s1 => ⟨_, rfl, iteEn rfl ?_⟩⟩
    have htk1 := s1 _ _ htk
    have W1 := W.same s1
    refine ⟨_, rfl, A.t, A.dt, _, rfl, htk1, rfl, _, rfl, _, rfl, A.t, A.dt, _, rfl, htk1, rfl, D, ro, A, S, rfl, W1, hp, fun n hn => ?_⟩
    have hn' : S.trees.length - 1 = n := by omega
    refine ⟨small (m := 0) (Nat.le_refl 0), fun e he => ?_⟩
    have sE : Same H1 (upd H1 e (.tup [])) := same_new he
    refine fun x dx hx hdx hne => ⟨x, dx, nm, n, .ref e, rfl, upd_same, fun H2 hk2 hx2 => ⟨rfl, ?_⟩⟩
    have mv2 : Same (upd H1 e (.tup [])) H2 := fun a o h => by
      have a1 : a ≠ x := ne_of_none h hx
      rw [hk2 a a1, upd_ne a1, upd_ne (ne_of_none h hdx)]
      exact h
    have s2 : Same H1 H2 := sE.trans mv2
    have W2 := W1.same s2
    have he2 : H2 e = some (.tup []) := mv2 _ _ upd_same
    have hxn : H x = none := by
      refine s1.free ?_
      cases q : H1 x with
      | none => rfl
      | some o => rw [sE _ _ q] at hx; cases hx
    refine ⟨D, ro, A, S, x, rfl, W2, h6, h100, fun H3 s3 => ?_⟩
    have W3 := W2.same s3
    obtain ⟨g1, g2⟩ := W3.sl
    have hx3 := s3 _ _ hx2
    have he3 := s3 _ _ he2
    have ssl : A.ss.length = S.ses.length := pair_len g2
    have slx : A.sl ≠ x := ne_of g1 hx3 (by intro z; cases z)
    have gO : Go K D ro (fun n => decide (n = 54)) H3 (upd H3 A.sl (.lst (A.ss.map .ref ++ [.ref x]))) := go_upd (by rw [W.r.sl]; rfl) (by rw [g1]; rfl)
    have hxf : upd H3 A.sl (.lst (A.ss.map .ref ++ [.ref x])) x = some (.ins (CS K) dx (seF nm n (.ref e) 0 "open")) := by rw [upd_ne (Ne.symm slx)]; exact hx3
    have gF : Go K D ro X50 H (upd H3 A.sl (.lst (A.ss.map .ref ++ [.ref x]))) := (go_same (s1.trans (s2.trans s3))).trans (gO.mono fun n h => by
      refine decide_eq_false fun z => ?_
      subst z
      cases h)
    have roK : ∀ a o, H a = some o → setR ro x (100 + S.ses.length) a = ro a := fun a o h => setR_kn hxn h
    refine k _ { A with ss := A.ss ++ [x] } (setR ro x (100 + S.ses.length)) gF roK rfl ?_
    have rK : ∀ a m, ro a = m → m ≠ 0 → setR ro x (100 + S.ses.length) a = m := fun a m q hm => by
      obtain ⟨u, hu⟩ := W.r.kn a (by rw [q]; exact hm)
      rw [roK _ _ hu]
      exact q
    obtain ⟨cks, vks, ks, hc, hnk⟩ := W3.ck
    have hc2 := hc.mv W3.r gO rfl rfl rfl
    refine ⟨⟨rK _ _ W.r.t (by decide), rK _ _ W.r.tl (by decide), rK _ _ W.r.el (by decide), rK _ _ W.r.sl (by decide), rK _ _ W.r.ln (by decide), rK _ _ W.r.ll (by decide), rK _ _ W.r.ck (by decide), rK _ _ W.r.vd (by decide), fun i a hi => ?_, fun a ha => ?_⟩, dok_go W3.d gO, W.dc, W.dv, TkAt.mv (A := A) W3.r gO W3.tk rfl, TlAt.mv (A := A) W3.r gO W3.tl rfl, ElAt.mv (A := A) W3.r gO W3.el rfl, ⟨?_, ?_⟩, LnAt.mv (A := A) W3.r gO W3.ln rfl rfl, cks, vks, ks, hc2.role fun a us q => ?_, hnk⟩
    · change (A.ss ++ [x])[i]? = some a at hi
      by_cases hlt : i < A.ss.length
      · rw [List.getElem?_append_left hlt] at hi
        exact rK _ _ (W.r.ss i a hi) (by omega)
      · rw [List.getElem?_append_right (by omega)] at hi
        have hm : a = x := List.mem_singleton.mp (List.mem_of_getElem? hi)
        have hi0 : i - A.ss.length < 1 := (List.getElem?_eq_some_iff.mp hi).1
        rw [hm, setR_same]
        omega
    · by_cases z : a = x
      · rw [z]
        exact ⟨_, hxf⟩
      · rw [setR_ne z] at ha
        obtain ⟨u, hu⟩ := W.r.kn a ha
        exact gF.kn a u hu
    · show upd H3 A.sl (.lst (A.ss.map .ref ++ [.ref x])) A.sl = some (.lst ((A.ss ++ [x]).map .ref))
      rw [upd_same, List.map_append]
      rfl
    · refine pair_snoc ?_ (pair_all g2 fun i a s hi q => q.mv gO ?_)
      · refine ⟨dx, nm, .ref e, 0, ?_, ?_⟩
        · rw [hxf, hn']
          rfl
        · refine Dt.new (xs := []) ?_ .nil
          rw [upd_ne (Ne.symm (ne_of g1 he3 (by intro z; cases z)))]
          exact he3
      · show decide (ro a = 54) = false
        rw [W.r.ss i a hi]
        exact decide_eq_false (by omega)
    · refine setR_ne fun z => ?_
      rw [z, hxf] at q
      cases q
end
end Sa
/-! text E6 -/
/-! trunk.Trunk: single changes; require, close, act -/
namespace Sa
open PySem PySem.Spec L2 PyProof.Rows
theorem keys_putK {κ : Type} [DecidableEq κ] (kvs : List (κ × V)) (k : κ) (v : V) : (putK kvs k v).map (·.1) = if (valV kvs k).isSome then kvs.map (·.1) else kvs.map (·.1) ++ [k] := by
  cases h : valV kvs k with
  | none =>
    rw [putK_new v h, List.map_append]
    rfl
  | some x =>
    have ha := valV_any k kvs
    rw [h] at ha
    unfold putK
    rw [if_pos (by rw [ha]; rfl), List.map_map]
    show _ = kvs.map _
    refine List.map_congr_left fun p _ => ?_
    show (if p.1 = k then (p.1, v) else p).1 = p.1
    split <;> rfl
section
variable {P : Program} {w : World} {K : PySem.W.Frag} {mg : Str → Option Value} {base : Heap}
variable {D : List Addr} {ro : Addr → Nat} {H H' : Hp} {A : Ad} {S : Sta}
theorem ne_meth {C C' f : Addr} {m : Str} (h : Meth K C m f) (n : NoAttr K C' m) : C' ≠ C := fun z => by
  have e := h.at_
  rw [← z] at e
  rw [show PySem.W.findIn K (.ref C') m = some none from n] at e
  cases e
theorem ne_st (T : Tx K mg) : CS K ≠ CT K := ne_meth (T.meth 124 rfl) (T.noat 159 rfl)
theorem ne_lt (T : Tx K mg) : CL K ≠ CT K := ne_meth (T.meth 124 rfl) (T.noat 160 rfl)
theorem ne_kt (T : Tx K mg) : CK K ≠ CT K := ne_meth (T.meth 124 rfl) (T.noat 161 rfl)
theorem ro_ss (r : Ro ro H A) {n : Nat} {a : Addr} (h : A.ss[n]? = some a) : ro a = 100 + n := r.ss n a h
theorem ss_other (r : Ro ro H A) {n k : Nat} {a b : Addr} (h : A.ss[n]? = some a) (h2 : A.ss[k]? = some b) (hk : k ≠ n) : b ≠ a := ne_ro (r.ss k b h2) (r.ss n a h) (by omega)
/-- session n changes -/
theorem TW.ses {n : Nat} {s : Ses} {a dx : Addr} {nm : Str} {jx : V} {rf : Int} (T : Tx K mg) (W : TW K D ro H A S) (hn : S.ses[n]? = some s) (ha : A.ss[n]? = some a) (b : Nat) (j : Jr) (op : Nat) (hd : Dt K H jx (dJ j)) :
    Go K D ro X50 H (upd H a (.ins (CS K) dx (seF nm b jx rf (stS op)))) ∧ TW K D ro (upd H a (.ins (CS K) dx (seF nm b jx rf (stS op)))) A { S with ses := S.ses.set n ⟨b, j, op⟩ } := by
  have hr := W.r.ss n a ha
  obtain ⟨s', hs', dx0, nm0, jx0, rf0, q1, q2⟩ := pair_getL W.sl.2 ha
  have g : Go K D ro (fun m => decide (m = 100 + n)) H (upd H a (.ins (CS K) dx (seF nm b jx rf (stS op)))) := go_upd (by rw [hr]; exact decide_eq_true rfl) (by rw [q1]; show decide (CS K ≠ CT K) = true; exact decide_eq_true (ne_st T))
  have x : ∀ m, m < 100 → (fun m => decide (m = 100 + n)) m = false := fun m hm => decide_eq_false (by omega)
  obtain ⟨cks, vks, ks, hc, hk⟩ := W.ck
  refine ⟨g.mono fun m hm => decide_eq_false fun z => ?_, W.r.mv g, dok_go W.d g, W.dc, W.dv, W.tk.mv W.r g (x _ (by decide)), W.tl.mv W.r g (x _ (by decide)), W.el.mv W.r g (x _ (by decide)), ⟨?_, ?_⟩, W.ln.mv W.r g (x _ (by decide)) (x _ (by decide)), cks, vks, ks, hc.mv W.r g (x _ (by decide)) (x _ (by decide)) (x _ (by decide)), hk⟩
  · have := of_decide_eq_false hm
    omega
  · exact g.kp _ _ W.sl.1 (by rw [W.r.sl]; exact x _ (by decide))
  · refine pair_set W.sl.2 ha ⟨dx, nm, jx, rf, upd_same, hd.tx g.ev.t⟩ fun k a' s' hk ha' q => q.mv g ?_
    rw [W.r.ss k a' ha']
    exact decide_eq_false (by omega)
/-- the line changes -/
theorem go_ln {s s' : List Nat} {p p' : Bool} (T : Tx K mg) (W : TW K D ro H A S) (h : LnK A.ln A.ll H H') (h1 : LnAt K H A.ln A.dl A.ll s p) (h2 : LnAt K H' A.ln A.dl A.ll s' p') : Go K D ro (fun m => decide (m = 55 ∨ m = 56)) H H' := by
  obtain ⟨e, a1, a2, a3⟩ := h1
  obtain ⟨e', b1, b2, b3⟩ := h2
  refine ⟨fun a o q n => ?_, fun a o q => ?_, ⟨fun a xs q => ?_, fun a dx fs q => ?_, fun a kvs _ q => ?_⟩⟩
  · have n' := of_decide_eq_false n
    rw [h a (fun z => n' (.inl (by rw [z]; exact W.r.ln))) (fun z => n' (.inr (by rw [z]; exact W.r.ll)))]
    exact q
  · by_cases z : a = A.ln
    · rw [z]
      exact ⟨_, b1⟩
    · by_cases z2 : a = A.ll
      · rw [z2]
        exact ⟨_, b2⟩
      · rw [h a z z2]
        exact ⟨o, q⟩
  · rw [h a (ne_of q a1 (by intro z; cases z)) (ne_of q a2 (by intro z; cases z))]
    exact q
  · rw [h a (fun z => ?_) (ne_of q a2 (by intro z; cases z))]
    · exact q
    · rw [z, a1] at q
      have q2 := HO.ins.inj (Option.some.inj q)
      exact ne_lt T q2.1
  · rw [h a (ne_of q a1 (by intro z; cases z)) (ne_of q a2 (by intro z; cases z))]
    exact q
theorem TW.line {s' : List Nat} {p' : Bool} (T : Tx K mg) (W : TW K D ro H A S) (h : LnK A.ln A.ll H H') (h2 : LnAt K H' A.ln A.dl A.ll s' p') : Go K D ro X50 H H' ∧ TW K D ro H' A { S with line := s', prot := p' } := by
  have g := go_ln T W h W.ln h2
  have x : ∀ m, m ≠ 55 → m ≠ 56 → (fun m => decide (m = 55 ∨ m = 56)) m = false := fun m a b => decide_eq_false (by omega)
  obtain ⟨cks, vks, ks, hc, hk⟩ := W.ck
  refine ⟨g.mono fun m hm => decide_eq_false fun z => ?_, W.r.mv g, dok_go W.d g, W.dc, W.dv, W.tk.mv W.r g (x _ (by decide) (by decide)), W.tl.mv W.r g (x _ (by decide) (by decide)), W.el.mv W.r g (x _ (by decide) (by decide)), W.sl.mv W.r g (x _ (by decide) (by decide)) (fun i => x _ (by omega) (by omega)), h2, cks, vks, ks, hc.mv W.r g (x _ (by decide) (by decide)) (x _ (by decide) (by decide)) (x _ (by decide) (by decide)), hk⟩
  have := of_decide_eq_false hm
  omega
theorem x50_of {r : Nat} (h : 50 ≤ r) {m : Nat} (hm : X50 m = false) : (fun m => decide (m = r)) m = false := decide_eq_false fun z => by
  have := of_decide_eq_false hm
  omega
theorem TW.trees {tvs : List V} {tv : V} {F : Files} (W : TW K D ro H A S) (h1 : H A.tl = some (.lst tvs)) (ht : TrAt K (CT K) D H tv F) :
    Go K D ro X50 H (upd H A.tl (.lst (tvs ++ [tv]))) ∧ TW K D ro (upd H A.tl (.lst (tvs ++ [tv]))) A { S with trees := S.trees ++ [F] } := by
  have g : Go K D ro (fun m => decide (m = 52)) H (upd H A.tl (.lst (tvs ++ [tv]))) := go_upd (by rw [W.r.tl]; rfl) (by rw [h1]; rfl)
  obtain ⟨cks, vks, ks, hc, hk⟩ := W.ck
  obtain ⟨tvs', h1', h2⟩ := W.tl
  rw [h1] at h1'
  cases h1'
  exact ⟨g.mono fun m hm => x50_of (by decide) hm, W.r.mv g, dok_go W.d g, W.dc, W.dv, W.tk.mv W.r g rfl, ⟨_, upd_same, pair_snoc (ht.ev g.ev) (pair_mono (fun _ _ t => t.ev g.ev) h2)⟩, W.el.mv W.r g rfl, W.sl.mv W.r g rfl fun i => decide_eq_false (by omega), W.ln.mv W.r g rfl rfl, cks, vks, ks, hc.mv W.r g rfl rfl rfl, hk⟩
theorem TW.ents {evs : List V} {v : V} {j : Jr} (W : TW K D ro H A S) (h1 : H A.el = some (.lst evs)) (ht : EnAt K H v j) :
    Go K D ro X50 H (upd H A.el (.lst (evs ++ [v]))) ∧ TW K D ro (upd H A.el (.lst (evs ++ [v]))) A { S with ents := S.ents ++ [j] } := by
  have g : Go K D ro (fun m => decide (m = 53)) H (upd H A.el (.lst (evs ++ [v]))) := go_upd (by rw [W.r.el]; rfl) (by rw [h1]; rfl)
  obtain ⟨cks, vks, ks, hc, hk⟩ := W.ck
  obtain ⟨evs', h1', h2⟩ := W.el
  rw [h1] at h1'
  cases h1'
  exact ⟨g.mono fun m hm => x50_of (by decide) hm, W.r.mv g, dok_go W.d g, W.dc, W.dv, W.tk.mv W.r g rfl, W.tl.mv W.r g rfl, ⟨_, upd_same, pair_snoc (ht.mv g.ev.t) (pair_mono (fun _ _ t => t.mv g.ev.t) h2)⟩, W.sl.mv W.r g rfl fun i => decide_eq_false (by omega), W.ln.mv W.r g rfl rfl, cks, vks, ks, hc.mv W.r g rfl rfl rfl, hk⟩
theorem TW.runs {p al r : Int} (T : Tx K mg) (W : TW K D ro H A S) (h1 : H A.t = some (.ins (CK K) A.dt (tkF A p al r))) (r' : Int) :
    Go K D ro X50 H (upd H A.t (.ins (CK K) A.dt (tkF A p al r'))) ∧ TW K D ro (upd H A.t (.ins (CK K) A.dt (tkF A p al r'))) A S := by
  have g : Go K D ro (fun m => decide (m = 51)) H (upd H A.t (.ins (CK K) A.dt (tkF A p al r'))) := go_upd (by rw [W.r.t]; rfl) (by rw [h1]; exact decide_eq_true (ne_kt T))
  obtain ⟨cks, vks, ks, hc, hk⟩ := W.ck
  exact ⟨g.mono fun m hm => x50_of (by decide) hm, W.r.mv g, dok_go W.d g, W.dc, W.dv, ⟨p, al, r', upd_same⟩, W.tl.mv W.r g rfl, W.el.mv W.r g rfl, W.sl.mv W.r g rfl fun i => decide_eq_false (by omega), W.ln.mv W.r g rfl rfl, cks, vks, ks, hc.mv W.r g rfl rfl rfl, hk⟩
/-- the verdicts of k are told anew -/
theorem TW.verd {cks vks : List (Key × V)} {ks : List Str} {k : Str} {v : V} (W : TW K D ro H A S) (hc : CkAt K ro H A cks vks ks) (hk : ks.length ≤ S.nck) (hm : k ∈ ks) (hv : VlAt K ro H v) :
    Go K D ro X50 H (upd H A.vd (.dK (putK vks (.inr k) v))) ∧ TW K D ro (upd H A.vd (.dK (putK vks (.inr k) v))) A S := by
  have g : Go K D ro (fun m => decide (m = 58)) H (upd H A.vd (.dK (putK vks (.inr k) v))) := go_upd (by rw [W.r.vd]; rfl) (by rw [hc.vd]; exact decide_eq_true W.dv)
  refine ⟨g.mono fun m hm => x50_of (by decide) hm, W.r.mv g, dok_go W.d g, W.dc, W.dv, W.tk.mv W.r g rfl, W.tl.mv W.r g rfl, W.el.mv W.r g rfl, W.sl.mv W.r g rfl fun i => decide_eq_false (by omega), W.ln.mv W.r g rfl rfl, cks, putK vks (.inr k) v, ks, ?_, hk⟩
  have hin : (valV vks (.inr k)).isSome = true := by
    obtain ⟨_, _, _, _, _, _, q, _⟩ := hc.one k hm
    rw [q]
    rfl
  refine ⟨g.kp _ _ hc.ck (by rw [W.r.ck]; rfl), upd_same, hc.keys, hc.len, by rw [keys_putK, if_pos hin]; exact hc.vkeys, hc.nd, fun k' hk' => ?_⟩
  obtain ⟨cv, vv, c, e1, e2, e3, e4, e5⟩ := hc.one k' hk'
  by_cases z : k' = k
  · exact ⟨cv, v, c, e1, e2.tx g.ev.t, e3, by rw [valV_put, if_pos (by rw [z])], hv.mv g rfl⟩
  · exact ⟨cv, vv, c, e1, e2.tx g.ev.t, e3, by rw [valV_put, if_neg (fun q => z (Sum.inr.inj q))]; exact e4, e5.mv g rfl⟩
end
end Sa
/-! text E7 -/
/-! trunk.Trunk: require, close, act -/
namespace Sa
open PySem PySem.Spec L2 PyProof.Rows
section
variable {P : Program} {w : World} {K : PySem.W.Frag} {mg : Str → Option Value} {base : Heap}
def spRequire (K : PySem.W.Frag) : Sp := fun vs H Q _ => ∃ (D : List Addr) (ro : Addr → Nat) (A : Ad) (S : Sta) (nm : Str) (x : V) (c : List CRow), vs = [.ref A.t, .str nm, x] ∧ nm ∈ NMS ∧ TW K D ro H A S ∧ A.ck ≠ A.vd ∧ Dt K H x (dCk c) ∧ GoodCk c ∧ S.nck < 4 ∧
  ∀ H', Go K D ro X50 H H' → TW K D ro H' A { S with nck := S.nck + 1 } → Q .non H'
theorem sc_Trunk_require : FnScope ["self", "name", "check"] ["self", "name", "check"] (defScope m_Trunk_require) := ⟨rfl, rfl, rfl, by decide +kernel, rfl, by decide +kernel, by decide +kernel⟩
theorem met_Trunk_require (T : Tx K mg) : Met P w K mg base 8 (CK K) "require" (spRequire K) := by
  refine T.met 67 157 113 rfl rfl rfl (N := ["self", "name", "check"]) (ps := ["self", "name", "check"]) (fun _ _ _ _ _ _ us hl => match us, hl with | [_, _, _], _ => rfl) sc_Trunk_require (fun vs H Q E h => ?_) (fun f cdv A0 outer s0 H vs Q E hr h => ?_)
  · obtain ⟨D, ro, A, S, nm, x, c, rfl, _⟩ := h
    rfl
  · obtain ⟨D, ro, A, S, nm, x, c, rfl, hnm, W, cvne, hx, gc, hn4, k⟩ := h
    refine ⟨_, pss_cons (ps_if (pt_not (pt_val (pe_c (cal_is_name T) hr (by decide) rfl (pa_cons (pv 1) pa_nil)))) (pss_one (ps_never)) (pss_nil)) (pss_cons (ps_expr (pe_c (cal_check_check T) hr (by decide) rfl (pa_cons (pv 2) pa_nil))) (pss_cons (ps_if (PW.pt (pw_and (pt_cmp (pc_dnotin (u1 hr) (pv 1) (pe_fld (pv 0) rfl))) (pw_and1 (pt_cmpR op_eq (pe_callB call_lenD (by rfl) (T.free 85) bv_len (pa_cons (pe_fld (pv 0) rfl) pa_nil)) (pe_gc rfl (T.gint 82)) (nomark _))))) (pss_one (ps_never)) (pss_nil)) (pss_cons (ps_dput (u1 hr) (pe_fld (pv 0) rfl) (pv 1) (pv 2) rfl) (pss_one (ps_dput (u1 hr) (pe_fld (pv 0) rfl) (pv 1) (pe_lst (pa_nil)) rfl))))), ?_⟩
    refine ⟨_, rfl, nm, rfl, hnm, fun H1 s1 => ⟨_, rfl, iteEn rfl ?_⟩⟩
    refine ⟨_, rfl, x, c, rfl, hx.same s1, gc, fun H2 s2 => ?_⟩
    have s12 := s1.trans s2
    have W2 := W.same s12
    obtain ⟨pp, al, rn, htk⟩ := id W2.tk
    obtain ⟨cks, vks, ks, hc, hk⟩ := W2.ck
    have ckl : cks.length = ks.length := by
      have := congrArg List.length hc.keys
      rw [List.length_map, List.length_map] at this
      exact this
    have vkl : vks.length = ks.length := by
      have := congrArg List.length hc.vkeys
      rw [List.length_map, List.length_map] at this
      exact this
    have hks4 := hc.len
    have inI : nm ∉ ks → valV cks (Sum.inr nm) = none ∧ valV vks (Sum.inr nm) = none := fun hno => by
      refine ⟨?_, ?_⟩
      · cases q : valV cks (Sum.inr nm) with
        | none => rfl
        | some v =>
          have := valV_in q
          rw [hc.keys] at this
          obtain ⟨y, hy, e⟩ := List.mem_map.mp this
          cases e
          exact absurd hy hno
      · cases q : valV vks (Sum.inr nm) with
        | none => rfl
        | some v =>
          have := valV_in q
          rw [hc.vkeys] at this
          obtain ⟨y, hy, e⟩ := List.mem_map.mp this
          cases e
          exact absurd hy hno
    -- the two stores
    have fin : ∀ va, upd H2 A.ck (.dK (putK cks (Sum.inr nm) x)) va = none →
        Go K D ro X50 H2 (upd (upd (upd H2 A.ck (.dK (putK cks (Sum.inr nm) x))) va (.lst [])) A.vd (.dK (putK vks (Sum.inr nm) (.ref va)))) ∧
        TW K D ro (upd (upd (upd H2 A.ck (.dK (putK cks (Sum.inr nm) x))) va (.lst [])) A.vd (.dK (putK vks (Sum.inr nm) (.ref va)))) A { S with nck := S.nck + 1 } := fun va hva => by
      have vck : va ≠ A.ck := fun z => by rw [z, upd_same] at hva; cases hva
      have vn : H2 va = none := by rw [upd_ne vck] at hva; exact hva
      have vvd : A.vd ≠ va := ne_of_none hc.vd vn
      have g1 : Go K D ro (fun m => decide (m = 57 ∨ m = 58)) H2 (upd H2 A.ck (.dK (putK cks (Sum.inr nm) x))) := go_upd (by rw [W.r.ck]; rfl) (by rw [hc.ck]; exact decide_eq_true W.dc)
      have g2 : Go K D ro (fun m => decide (m = 57 ∨ m = 58)) (upd H2 A.ck (.dK (putK cks (Sum.inr nm) x))) (upd (upd H2 A.ck (.dK (putK cks (Sum.inr nm) x))) va (.lst [])) := go_same (same_new hva)
      have hvd3 : upd (upd H2 A.ck (.dK (putK cks (Sum.inr nm) x))) va (.lst []) A.vd = some (.dK vks) := by rw [upd_ne vvd, upd_ne (Ne.symm cvne)]; exact hc.vd
      have g3 : Go K D ro (fun m => decide (m = 57 ∨ m = 58)) (upd (upd H2 A.ck (.dK (putK cks (Sum.inr nm) x))) va (.lst [])) (upd (upd (upd H2 A.ck (.dK (putK cks (Sum.inr nm) x))) va (.lst [])) A.vd (.dK (putK vks (Sum.inr nm) (.ref va)))) := go_upd (by rw [W.r.vd]; rfl) (by rw [hvd3]; exact decide_eq_true W.dv)
      have g := (g1.trans g2).trans g3
      have hro : ro va = 0 := by
        cases q : ro va with
        | zero => rfl
        | succ n =>
          obtain ⟨o, e⟩ := W2.r.kn va (by rw [q]; omega)
          rw [vn] at e
          cases e
      have hVl : VlAt K ro (upd (upd (upd H2 A.ck (.dK (putK cks (Sum.inr nm) x))) va (.lst [])) A.vd (.dK (putK vks (Sum.inr nm) (.ref va)))) (.ref va) := ⟨va, [], rfl, hro, by rw [upd_ne (Ne.symm vvd)]; exact upd_same, Nat.zero_le _, fun u hu => absurd hu (by simp)⟩
      have x' : ∀ m, m ≠ 57 → m ≠ 58 → (fun m => decide (m = 57 ∨ m = 58)) m = false := fun m a b => decide_eq_false (by omega)
      refine ⟨g.mono fun m hm => decide_eq_false fun z => ?_, W2.r.mv g, dok_go W2.d g, W2.dc, W2.dv, W2.tk.mv W2.r g rfl, W2.tl.mv W2.r g rfl, W2.el.mv W2.r g rfl, W2.sl.mv W2.r g rfl (fun i => x' _ (by omega) (by omega)), W2.ln.mv W2.r g rfl rfl, putK cks (Sum.inr nm) x, putK vks (Sum.inr nm) (.ref va), if nm ∈ ks then ks else ks ++ [nm], ?_, ?_⟩
      · have := of_decide_eq_false hm
        omega
      · have kold : ∀ k' ∈ ks, k' ≠ nm → ∃ (cv vv : V) (c : List CRow), valV (putK cks (Sum.inr nm) x) (Sum.inr k') = some cv ∧ Dt K (upd (upd (upd H2 A.ck (.dK (putK cks (Sum.inr nm) x))) va (.lst [])) A.vd (.dK (putK vks (Sum.inr nm) (.ref va)))) cv (dCk c) ∧ GoodCk c ∧ valV (putK vks (Sum.inr nm) (.ref va)) (Sum.inr k') = some vv ∧ VlAt K ro (upd (upd (upd H2 A.ck (.dK (putK cks (Sum.inr nm) x))) va (.lst [])) A.vd (.dK (putK vks (Sum.inr nm) (.ref va)))) vv := fun k' hk' hne => by
          obtain ⟨cv, vv, c, e1, e2, e3, e4, e5⟩ := hc.one k' hk'
          exact ⟨cv, vv, c, by rw [valV_put, if_neg (fun q => hne (Sum.inr.inj q))]; exact e1, e2.tx g.ev.t, e3, by rw [valV_put, if_neg (fun q => hne (Sum.inr.inj q))]; exact e4, e5.mv g rfl⟩
        have knew : ∃ (cv vv : V) (c : List CRow), valV (putK cks (Sum.inr nm) x) (Sum.inr nm) = some cv ∧ Dt K (upd (upd (upd H2 A.ck (.dK (putK cks (Sum.inr nm) x))) va (.lst [])) A.vd (.dK (putK vks (Sum.inr nm) (.ref va)))) cv (dCk c) ∧ GoodCk c ∧ valV (putK vks (Sum.inr nm) (.ref va)) (Sum.inr nm) = some vv ∧ VlAt K ro (upd (upd (upd H2 A.ck (.dK (putK cks (Sum.inr nm) x))) va (.lst [])) A.vd (.dK (putK vks (Sum.inr nm) (.ref va)))) vv :=
          ⟨x, .ref va, c, by rw [valV_put, if_pos rfl], (hx.same s12).tx g.ev.t, gc, by rw [valV_put, if_pos rfl], hVl⟩
        have hck5 : upd (upd (upd H2 A.ck (.dK (putK cks (Sum.inr nm) x))) va (.lst [])) A.vd (.dK (putK vks (Sum.inr nm) (.ref va))) A.ck = some (.dK (putK cks (Sum.inr nm) x)) := by rw [upd_ne cvne, upd_ne (Ne.symm vck)]; exact upd_same
        by_cases hm : nm ∈ ks
        · rw [if_pos hm]
          obtain ⟨_, _, _, w1, _, _, w2, _⟩ := hc.one nm hm
          refine ⟨hck5, upd_same, by rw [keys_putK, w1]; exact hc.keys, hc.len, by rw [keys_putK, w2]; exact hc.vkeys, hc.nd, fun k' hk' => ?_⟩
          by_cases z : k' = nm
          · rw [z]
            exact knew
          · exact kold k' hk' z
        · rw [if_neg hm]
          obtain ⟨w1, w2⟩ := inI hm
          refine ⟨hck5, upd_same, by rw [keys_putK, w1, hc.keys, List.map_append]; rfl, by rw [List.length_append]; show ks.length + 1 ≤ 4; omega, by rw [keys_putK, w2, hc.vkeys, List.map_append]; rfl, List.nodup_append.mpr ⟨hc.nd, by simp, fun a ha b hb => by rw [List.mem_singleton.mp hb]; rintro rfl; exact hm ha⟩, fun k' hk' => ?_⟩
          by_cases z : k' = nm
          · rw [z]
            exact knew
          · rcases List.mem_append.mp hk' with h | h
            · exact kold k' h z
            · exact absurd (List.mem_singleton.mp h) z
      · split
        · show ks.length ≤ S.nck + 1
          omega
        · rw [List.length_append]
          show ks.length + 1 ≤ S.nck + 1
          omega
    have last : ∀ {E' : Prop}, (∀ H3, H3 = upd H2 A.ck (.dK (putK cks (Sum.inr nm) x)) → E') → E' := fun h => h _ rfl
    have ntc : A.t ≠ A.ck := ne_ro W.r.t W.r.ck (by decide)
    have htk3 : upd H2 A.ck (.dK (putK cks (Sum.inr nm) x)) A.t = some (.ins (CK K) A.dt (tkF A pp al rn)) := by rw [upd_ne ntc]; exact htk
    refine ⟨_, rfl, _, rfl, A.t, CK K, A.dt, _, _, rfl, htk, clK T, nK6 T, rfl, A.ck, _, rfl, DGet.k (k := Sum.inr nm) hc.ck, _, rfl, ?_⟩
    cases hv : valV cks (Sum.inr nm) with
    | some v0 =>
      refine iteEn rfl (iteEn rfl ?_)
      refine ⟨_, rfl, _, rfl, A.t, CK K, A.dt, _, _, rfl, htk, clK T, nK6 T, rfl, _, rfl, A.ck, _, rfl, DPut.k (k := Sum.inr nm) hc.ck (smallt (m := 10) (by omega)), ?_⟩
      refine ⟨small (m := 0) (Nat.le_refl 0), fun va hva => ?_⟩
      obtain ⟨gF, wF⟩ := fin va hva
      have ntv : A.t ≠ va := ne_of_none htk3 hva
      have htk4 : upd (upd H2 A.ck (.dK (putK cks (Sum.inr nm) x))) va (.lst []) A.t = some (.ins (CK K) A.dt (tkF A pp al rn)) := by rw [upd_ne ntv]; exact htk3
      have hvd4 : upd (upd H2 A.ck (.dK (putK cks (Sum.inr nm) x))) va (.lst []) A.vd = some (.dK vks) := by
        have q : upd H2 A.ck (.dK (putK cks (Sum.inr nm) x)) A.vd = some (.dK vks) := by rw [upd_ne (Ne.symm cvne)]; exact hc.vd
        rw [upd_ne (ne_of_none q hva)]
        exact q
      refine ⟨_, rfl, A.t, CK K, A.dt, _, _, rfl, htk4, clK T, nK7 T, rfl, _, rfl, A.vd, _, rfl, DPut.k (k := Sum.inr nm) hvd4 (smallt (m := 10) (by omega)), ?_⟩
      exact k _ ((go_same s12).trans gF) wF
    | none =>
      refine iteE rfl ⟨_, rfl, A.t, CK K, A.dt, _, _, rfl, htk, clK T, nK6 T, rfl, A.ck, cks, rfl, hc.ck, rfl, _, rfl, iteN (fun z => by have := V.int.inj z; omega) ?_⟩
      refine ⟨_, rfl, _, rfl, A.t, CK K, A.dt, _, _, rfl, htk, clK T, nK6 T, rfl, _, rfl, A.ck, _, rfl, DPut.k (k := Sum.inr nm) hc.ck (smallt (m := 10) (by omega)), ?_⟩
      refine ⟨small (m := 0) (Nat.le_refl 0), fun va hva => ?_⟩
      obtain ⟨gF, wF⟩ := fin va hva
      have ntv : A.t ≠ va := ne_of_none htk3 hva
      have htk4 : upd (upd H2 A.ck (.dK (putK cks (Sum.inr nm) x))) va (.lst []) A.t = some (.ins (CK K) A.dt (tkF A pp al rn)) := by rw [upd_ne ntv]; exact htk3
      have hvd4 : upd (upd H2 A.ck (.dK (putK cks (Sum.inr nm) x))) va (.lst []) A.vd = some (.dK vks) := by
        have q : upd H2 A.ck (.dK (putK cks (Sum.inr nm) x)) A.vd = some (.dK vks) := by rw [upd_ne (Ne.symm cvne)]; exact hc.vd
        rw [upd_ne (ne_of_none q hva)]
        exact q
      refine ⟨_, rfl, A.t, CK K, A.dt, _, _, rfl, htk4, clK T, nK7 T, rfl, _, rfl, A.vd, _, rfl, DPut.k (k := Sum.inr nm) hvd4 (smallt (m := 10) (by omega)), ?_⟩
      exact k _ ((go_same s12).trans gF) wF
end
end Sa
/-! text E8 -/
/-! trunk.Trunk: close, act -/
namespace Sa
open PySem PySem.Spec L2 PyProof.Rows
/-- session n leaves the line -/
def leftS (S : Sta) (n : Nat) : Sta := { S with line := S.line.erase n, prot := if S.line.head? = some n then false else S.prot }
def closedS (S : Sta) (n : Nat) (s : Ses) : Sta := leftS { S with ses := S.ses.set n ⟨s.base, s.j, 1⟩ } n
def actedS (S : Sta) (n : Nat) (s : Ses) (a : Act) (r : Ans) : Sta := { S with ses := S.ses.set n ⟨s.base, s.j ++ [(a, r)], 0⟩ }
theorem InvS.left {S : Sta} (i : InvS S) (n : Nat) : InvS (leftS S n) := by
  refine ⟨i.tr, i.n1, i.ch, i.se, fun m h => i.ln m (List.mem_of_mem_erase h), i.nd.erase n, fun hp m r hl s hs => ?_⟩
  change (if S.line.head? = some n then false else S.prot) = true at hp
  change S.line.erase n = m :: r at hl
  split at hp
  · cases hp
  · rename_i hh
    cases e : S.line with
    | nil =>
      rw [e] at hl
      cases hl
    | cons k t =>
      rw [e] at hl hh
      have hk : k ≠ n := fun z => hh (by rw [z]; rfl)
      rw [List.erase_cons_tail (by simpa using hk)] at hl
      cases hl
      exact i.pr hp _ _ e s hs
/-- session n changes, its base stays -/
theorem InvS.setS {S : Sta} (i : InvS S) {n : Nat} {s : Ses} (hn : S.ses[n]? = some s) (j : Jr) (op : Nat) (gj : GoodJ j) (hj : ∀ F, S.trees[s.base]? = some F → holdsF F j) : InvS { S with ses := S.ses.set n ⟨s.base, j, op⟩ } := by
  have hlt := (List.getElem?_eq_some_iff.mp hn).1
  refine ⟨i.tr, i.n1, i.ch, fun m q h => ?_, fun m h => ?_, i.nd, fun hp m r hl q hq => ?_⟩
  · change (S.ses.set n _)[m]? = some q at h
    by_cases z : n = m
    · subst z
      rw [List.getElem?_set_self hlt] at h
      cases h
      obtain ⟨_, F, hF, _⟩ := i.se n s hn
      exact ⟨gj, F, hF, hj F hF⟩
    · rw [List.getElem?_set_ne z] at h
      exact i.se m q h
  · have := i.ln m h
    show m < (S.ses.set n _).length
    rw [List.length_set]
    exact this
  · change (S.ses.set n _)[m]? = some q at hq
    by_cases z : n = m
    · subst z
      rw [List.getElem?_set_self hlt] at hq
      cases hq
      exact i.pr hp n r hl s hn
    · rw [List.getElem?_set_ne z] at hq
      exact i.pr hp m r hl q hq
theorem InvS.closed {S : Sta} (i : InvS S) {n : Nat} {s : Ses} (hn : S.ses[n]? = some s) : InvS (closedS S n s) := by
  refine InvS.left (i.setS hn s.j 1 (i.se n s hn).1 fun F hF => ?_) n
  obtain ⟨_, F', hF', h⟩ := i.se n s hn
  rw [hF] at hF'
  cases hF'
  exact h
theorem holds_snoc {F : Files} {j : Jr} {a : Act} (h : holdsF F j) : holdsF F (j ++ [(a, (actF (leadF F (j.map (·.1))) a).1)]) := by
  rw [holds_append]
  refine ⟨h, ?_⟩
  show changeF _ 0 [_] = none
  unfold changeF
  rw [if_pos rfl]
  rfl
theorem InvS.acted {S : Sta} (i : InvS S) {n : Nat} {s : Ses} {F : Files} {a : Act} (hn : S.ses[n]? = some s) (hF : S.trees[s.base]? = some F) (ga : GoodA a) (hl : s.j.length < 40) :
    InvS (actedS S n s a (actF (leadF F (s.j.map (·.1))) a).1) := by
  obtain ⟨gj, F', hF', h⟩ := i.se n s hn
  have gF := i.tr F (List.mem_of_getElem? hF)
  have gL : GoodF (leadF F (s.j.map (·.1))) := goodF_lead gF fun b hb => by
    obtain ⟨e, he, rfl⟩ := List.mem_map.mp hb
    exact (gj.1 e he).a
  refine i.setS hn _ 0 ⟨fun e he => ?_, ?_⟩ fun F2 hF2 => ?_
  · rcases List.mem_append.mp he with q | q
    · exact gj.1 e q
    · rw [List.mem_singleton.mp q]
      exact ⟨ga, goodR_act gL ga⟩
  · rw [List.length_append]
    show s.j.length + 1 ≤ 40
    omega
  · rw [hF] at hF2
    cases hF2
    rw [hF] at hF'
    cases hF'
    exact holds_snoc h
section
variable {P : Program} {w : World} {K : PySem.W.Frag} {mg : Str → Option Value} {base : Heap}
def spClose (K : PySem.W.Frag) : Sp := fun vs H Q _ => ∃ (D : List Addr) (ro : Addr → Nat) (A : Ad) (S : Sta) (n : Nat) (s : Ses), vs = [.ref A.t, .int (n : Int)] ∧ TW K D ro H A S ∧ S.ses[n]? = some s ∧ s.op = 0 ∧
  ∀ H', Go K D ro X50 H H' → TW K D ro H' A (closedS S n s) → Q .non H'
theorem sc_Trunk_close : FnScope ["self", "session", "found"] ["self", "session"] (defScope m_Trunk_close) := ⟨rfl, rfl, rfl, by decide +kernel, rfl, by decide +kernel, by decide +kernel⟩
theorem met_Trunk_close (T : Tx K mg) : Met P w K mg base 3 (CK K) "close" (spClose K) := by
  refine T.met 55 145 113 rfl rfl rfl (N := ["self", "session", "found"]) (ps := ["self", "session"]) (fun _ _ _ _ _ _ us hl => match us, hl with | [_, _], _ => rfl) sc_Trunk_close (fun vs H Q E h => ?_) (fun f cdv A0 outer s0 H vs Q E hr h => ?_)
  · obtain ⟨D, ro, A, S, n, s, rfl, _⟩ := h
    rfl
  · obtain ⟨D, ro, A, S, n, s, rfl, W, hn, ho, k⟩ := h
    obtain ⟨p, al, rn, htk⟩ := id W.tk
    refine ⟨_, pss_cons (ps_set (i := 2) sc_Trunk_close.nd rfl (by first | exact Or.inl rfl | exact Or.inr rfl) (pe_mt (met_Trunk_opened T) hr (by decide) (pv 0) (pa_cons (pv 1) pa_nil))) (pss_cons (ps_fld (pv 2) (pe_str) rfl) (pss_one (ps_expr (pe_mt (met_Line_leave T) hr (by decide) (pe_fld (pv 0) rfl) (pa_cons (pv 1) pa_nil))))), ?_⟩
    refine ⟨_, rfl, A.t, A.dt, _, rfl, htk, rfl, _, rfl, D, ro, A, S, n, s, rfl, W, hn, ho, fun a ha hs => ?_⟩
    obtain ⟨dx, nm, jx, rf, q1, q2⟩ := id hs
    refine ⟨_, rfl, a, CS K, dx, _, rfl, q1, clS T, nS4 T, pLt (n := 5) (Nat.le_refl 5), ?_⟩
    obtain ⟨g1, W1⟩ := W.ses T hn ha s.base s.j 1 q2 (nm := nm) (rf := rf) (dx := dx)
    have ef : putF "state" (V.str "closed") (seF nm s.base jx rf (stS s.op)) = seF nm s.base jx rf (stS 1) := rfl
    rw [ef]
    have htk1 : upd H a (.ins (CS K) dx (seF nm s.base jx rf (stS 1))) A.t = some (.ins (CK K) A.dt (tkF A p al rn)) := by
      rw [upd_ne (ne_ro W.r.t (W.r.ss n a ha) (by omega))]
      exact htk
    obtain ⟨ev, l1, l2, l3⟩ := id W1.ln
    refine ⟨_, rfl, A.t, CK K, A.dt, _, _, rfl, htk1, clK T, nK5 T, rfl, A.ln, A.dl, _, rfl, l1, rfl, _, rfl, A.ln, A.dl, A.ll, S.line, S.prot, n, rfl, W1.ln, fun H' lk lat => ?_⟩
    obtain ⟨g2, W2⟩ := W1.line T lk lat
    exact k H' (g1.trans g2) W2
theorem catD {H : Hp} {a b : Addr} {xs ys : List V} {ds es : List PyData} {Q : VK} (ha : St1 K H a xs) (hda : DtAll K H xs ds) (hb : St1 K H b ys) (hdb : DtAll K H ys es) (hz : ds.length + es.length ≤ 100)
    (k : ∀ c H', Same H H' → Dt K H' (.ref c) (.tuple (ds ++ es)) → Q (.ref c) H') : rCatA K (.ref a) (.ref b) H Q := by
  have l1 := hda.length
  have l2 := hdb.length
  refine ⟨a, b, _, _, rfl, rfl, ha.sq, hb.sq, small (m := 100) (by omega), fun h => ?_, fun _ h => ?_, fun _ _ p hp => ?_⟩
  · subst h
    have e : ds = [] := List.length_eq_zero_iff.mp l1.symm
    subst e
    exact k b H (Same.refl H) (.tup hb hdb)
  · subst h
    have e : es = [] := List.length_eq_zero_iff.mp l2.symm
    subst e
    rw [List.append_nil] at k
    exact k a H (Same.refl H) (.tup ha hda)
  · exact k p _ (same_new hp) (Dt.new upd_same ((hda.append hdb).same (same_new hp)))
def spTAct (K : PySem.W.Frag) : Sp := fun vs H Q _ => ∃ (D : List Addr) (ro : Addr → Nat) (A : Ad) (S : Sta) (n : Nat) (s : Ses) (F : Files) (x : V) (ac : Act), vs = [.ref A.t, .int (n : Int), .int (s.j.length : Int), x] ∧ TW K D ro H A S ∧ S.ses[n]? = some s ∧ s.op = 0 ∧ s.j.length < 40 ∧
  S.trees[s.base]? = some F ∧ GoodF F ∧ GoodJ s.j ∧ Dt K H x (dA ac) ∧ GoodA ac ∧
  ∀ H' y, Go K D ro X50 H H' → TW K D ro H' A (actedS S n s ac (actF (leadF F (s.j.map (·.1))) ac).1) → Dt K H' y (dR (actF (leadF F (s.j.map (·.1))) ac).1) → Q y H'
theorem sc_Trunk_act : FnScope ["self", "session", "position", "action", "found", "answer", "_"] ["self", "session", "position", "action"] (defScope m_Trunk_act) := ⟨rfl, rfl, rfl, by decide +kernel, rfl, by decide +kernel, by decide +kernel⟩
theorem met_Trunk_act (T : Tx K mg) : Met P w K mg base 12 (CK K) "act" (spTAct K) := by
  refine T.met 56 146 113 rfl rfl rfl (N := ["self", "session", "position", "action", "found", "answer", "_"]) (ps := ["self", "session", "position", "action"]) (fun _ _ _ _ _ _ us hl => match us, hl with | [_, _, _, _], _ => rfl) sc_Trunk_act (fun vs H Q E h => ?_) (fun f cdv A0 outer s0 H vs Q E hr h => ?_)
  · obtain ⟨D, ro, A, S, n, s, F, x, ac, rfl, _⟩ := h
    rfl
  · obtain ⟨D, ro, A, S, n, s, F, x, ac, rfl, W, hn, ho, h40, hF, gF, gj, hx, ga, k⟩ := h
    obtain ⟨p, al, rn, htk⟩ := id W.tk
    have gL : GoodF (leadF F (s.j.map (·.1))) := goodF_lead gF fun b hb => by
      obtain ⟨e, he, rfl⟩ := List.mem_map.mp hb
      exact (gj.1 e he).a
    generalize hL : leadF F (s.j.map (·.1)) = L at k gL
    generalize hR : actF L ac = o at k
    refine ⟨_, pss_cons (ps_set (i := 4) sc_Trunk_act.nd rfl (by first | exact Or.inl rfl | exact Or.inr rfl) (pe_mt (met_Trunk_opened T) hr (by decide) (pv 0) (pa_cons (pv 1) pa_nil))) (pss_cons (ps_expr (pe_c (cal_check_action T) hr (by decide) rfl (pa_cons (pv 3) pa_nil))) (pss_cons (ps_if (pt_cmpR op_ne (pv 2) (pe_callB call_len_seq (by rfl) (T.free 85) bv_len (pa_cons (pe_fld (pv 4) rfl) pa_nil)) (nomark _)) (pss_one (ps_never)) (pss_nil)) (pss_cons (ps_if (pt_cmpR op_eq (pe_callB call_len_seq (by rfl) (T.free 85) bv_len (pa_cons (pe_fld (pv 4) rfl) pa_nil)) (pe_gc rfl (T.gint 81)) (nomark _)) (pss_one (ps_never)) (pss_nil)) (pss_cons (ps_asg (pe_c (cal_act_actions T) hr (by decide) rfl (pa_cons (pe_mt (met_Trunk_sight T) hr (by decide) (pv 0) (pa_cons (pv 1) pa_nil)) (pa_cons (pv 3) pa_nil))) (pg_tup rfl (pgs_cons (pg_name (i := 5) sc_Trunk_act.nd rfl (by first | exact Or.inl rfl | exact Or.inr rfl)) (pgs_cons (pg_name (i := 6) sc_Trunk_act.nd rfl (by first | exact Or.inl rfl | exact Or.inr rfl)) (pgs_nil))))) (pss_cons (ps_fld (pv 4) (pe_op op_catA (pe_fld (pv 4) rfl) (pe_tup (pa_cons (pe_tup (pa_cons (pv 3) (pa_cons (pv 5) pa_nil))) pa_nil))) rfl) (pss_one (ps_ret (pv 5)))))))), ?_⟩
    refine ⟨_, rfl, A.t, A.dt, _, rfl, htk, rfl, _, rfl, D, ro, A, S, n, s, rfl, W, hn, ho, fun a ha hs => ?_⟩
    obtain ⟨dx, nm, jx, rf, q1, q2⟩ := id hs
    obtain ⟨jt, js, rfl, hjt, hjd⟩ := Dt.tupI q2
    have jl : js.length = s.j.length := by rw [hjd.length, List.length_map]
    refine ⟨_, rfl, x, ac, rfl, hx, ga, fun H1 s1 => ?_⟩
    have q1' := s1 _ _ q1
    refine ⟨_, rfl, _, rfl, a, CS K, dx, _, _, rfl, q1', clS T, nS2 T, rfl, jt, js, rfl, .inr (file_stt s1 hjt), rfl, _, rfl, iteEn ?_ ?_⟩
    · rw [jl, decide_eq_true rfl]
      rfl
    refine ⟨_, rfl, a, CS K, dx, _, _, rfl, q1', clS T, nS2 T, rfl, jt, js, rfl, .inr (file_stt s1 hjt), rfl, _, rfl, iteN (fun z => by have := V.int.inj z; omega) ?_⟩
    have W1 := W.same s1
    refine ⟨_, rfl, A.t, A.dt, _, rfl, (s1 _ _ htk), rfl, _, rfl, D, ro, A, S, n, s, F, rfl, W1, hn, hF, gF, gj, fun H2 tv s2 ht => ?_⟩
    rw [hL] at ht
    have s12 := s1.trans s2
    refine ⟨_, rfl, tv, x, D, L, ac, rfl, ht, gL, W.d.same s12, hx.same s12, ga, fun H3 b y t s3 hb hy ht3 => ?_⟩
    rw [hR] at hy
    refine ⟨b, _, rfl, .inl (.inl hb), rfl, _, _, rfl, _, _, rfl, rfl, ?_⟩
    have s13 := s12.trans s3
    have q13 := s13 _ _ q1
    refine ⟨_, rfl, a, CS K, dx, _, _, rfl, q13, clS T, nS2 T, rfl, _, rfl, _, rfl, small (m := 2) (Nat.le_refl 2), fun e1 he1 => ⟨small (m := 1) (Nat.le_refl 1), fun e2 he2 => ?_⟩⟩
    have s4 : Same H3 (upd H3 e1 (.tup [x, y])) := same_new he1
    have s5 : Same (upd H3 e1 (.tup [x, y])) (upd (upd H3 e1 (.tup [x, y])) e2 (.tup [.ref e1])) := same_new he2
    have s35 := s4.trans s5
    have s15 := s13.trans s35
    have hent : Dt K (upd (upd H3 e1 (.tup [x, y])) e2 (.tup [.ref e1])) (.ref e1) (dE (ac, o.1)) := (Dt.two upd_same ((hx.same s13).same s4) (hy.same s4)).same s5
    refine catD (es := [dE (ac, o.1)]) (hjt.tx (tx_same s15)) (hjd.same s15) (.inl upd_same) (.cons hent .nil) (by rw [List.length_map]; show s.j.length + 1 ≤ 100; omega) fun c H6 s6 hc => ?_
    have s16 := s15.trans s6
    have W6 := W.same s16
    have ej : s.j.map dE ++ [dE (ac, o.1)] = (s.j ++ [(ac, o.1)]).map dE := by
      rw [List.map_append]
      rfl
    rw [ej] at hc
    obtain ⟨g7, W7⟩ := W6.ses T hn ha s.base (s.j ++ [(ac, o.1)]) 0 hc (nm := nm) (rf := rf) (dx := dx)
    refine ⟨_, rfl, a, CS K, dx, _, rfl, s16 _ _ q1, clS T, nS2 T, pLt (n := 5) (Nat.le_refl 5), ?_⟩
    have ef : putF "journal" (V.ref c) (seF nm s.base (.ref jt) rf (stS s.op)) = seF nm s.base (.ref c) rf (stS 0) := by rw [ho]; rfl
    rw [ef]
    exact ⟨_, rfl, k _ y ((go_same s16).trans g7) W7 (((hy.same s35).same s6).tx g7.ev.t)⟩
end
end Sa
/-! text E9 -/
/-! trunk.Trunk: _count_event, _make -/
namespace Sa
open PySem PySem.Spec L2 PyProof.Rows
theorem set_self {α : Type} : ∀ {l : List α} {n : Nat} {x : α}, l[n]? = some x → l.set n x = l
  | [], _, _, h => by cases h
  | a :: l, 0, x, h => by cases h; rfl
  | a :: l, n + 1, x, h => by
    rw [List.set_cons_succ, set_self (by simpa using h)]
theorem ses_self {S : Sta} {n : Nat} {s : Ses} (h : S.ses[n]? = some s) : { S with ses := S.ses.set n ⟨s.base, s.j, s.op⟩ } = S := by
  have e : (⟨s.base, s.j, s.op⟩ : Ses) = s := rfl
  rw [e, set_self h]
/-- a version more; the line is not yet told -/
def grown (S : Sta) (j : Jr) (F : Files) : Sta := { S with trees := S.trees ++ [F], ents := S.ents ++ [j] }
theorem grown_inv {S : Sta} {j : Jr} {Fn F : Files} (i : InvS S) (hF : S.trees[S.ents.length]? = some Fn) (gj : GoodJ j) (hh : holdsF Fn j) (he : F = leadF Fn (j.map (·.1))) (gF : GoodF F) : InvS { grown S j F with prot := false } := by
  have n1 := i.n1
  refine ⟨fun G hG => ?_, ?_, fun v q h => ?_, fun n s h => ?_, i.ln, i.nd, fun hp => nomatch hp⟩
  · rcases List.mem_append.mp hG with h | h
    · exact i.tr G h
    · rw [List.mem_singleton.mp h]
      exact gF
  · show (S.trees ++ [F]).length = (S.ents ++ [j]).length + 1
    rw [List.length_append, List.length_append]
    show S.trees.length + 1 = S.ents.length + 1 + 1
    omega
  · change (S.ents ++ [j])[v]? = some q at h
    show ∃ F', (S.trees ++ [F])[v]? = some F' ∧ GoodJ q ∧ holdsF F' q ∧ (S.trees ++ [F])[v + 1]? = some (leadF F' (q.map (·.1)))
    by_cases hv : v < S.ents.length
    · rw [List.getElem?_append_left hv] at h
      obtain ⟨F', h1, h2, h3, h4⟩ := i.ch v q h
      exact ⟨F', by rw [List.getElem?_append_left (by omega)]; exact h1, h2, h3, by rw [List.getElem?_append_left (by omega)]; exact h4⟩
    · rw [List.getElem?_append_right (by omega)] at h
      have hv0 : v - S.ents.length < 1 := (List.getElem?_eq_some_iff.mp h).1
      have hq : q = j := List.mem_singleton.mp (List.mem_of_getElem? h)
      have hv1 : v = S.ents.length := by omega
      subst hv1
      subst hq
      refine ⟨Fn, by rw [List.getElem?_append_left (by omega)]; exact hF, gj, hh, ?_⟩
      rw [List.getElem?_append_right (by omega), ← he]
      have e0 : S.ents.length + 1 - S.trees.length = 0 := by omega
      rw [e0]
      rfl
  · obtain ⟨h1, F', h2, h3⟩ := i.se n s h
    have hlt := (List.getElem?_eq_some_iff.mp h2).1
    refine ⟨h1, F', ?_, h3⟩
    show (S.trees ++ [F])[s.base]? = some F'
    rw [List.getElem?_append_left hlt]
    exact h2
structure MadeR (S S' : Sta) (j : Jr) (F : Files) : Prop where
  trees : S'.trees = S.trees ++ [F]
  ents : S'.ents = S.ents ++ [j]
  inv : InvS S'
  nck : S'.nck = S.nck
  len : S'.ses.length = S.ses.length
  ses : ∀ (i : Nat) (q : Ses), S.ses[i]? = some q → ∃ q', S'.ses[i]? = some q' ∧ q'.j = q.j ∧ q'.op = q.op
theorem ses_set {S : Sta} {n : Nat} {s : Ses} {b : Nat} (hn : S.ses[n]? = some s) (i : Nat) (q : Ses) (h : S.ses[i]? = some q) : ∃ q', (S.ses.set n ⟨b, s.j, s.op⟩)[i]? = some q' ∧ q'.j = q.j ∧ q'.op = q.op := by
  by_cases z : n = i
  · subst z
    rw [hn] at h
    cases h
    exact ⟨_, List.getElem?_set_self (List.getElem?_eq_some_iff.mp hn).1, rfl, rfl⟩
  · exact ⟨q, by rw [List.getElem?_set_ne z]; exact h, rfl, rfl⟩
section
variable {P : Program} {w : World} {K : PySem.W.Frag} {mg : Str → Option Value} {base : Heap}
def spCount (K : PySem.W.Frag) : Sp := fun vs H Q _ => ∃ (D : List Addr) (ro : Addr → Nat) (A : Ad) (S : Sta) (n : Nat) (r : List Nat), vs = [.ref A.t] ∧ TW K D ro H A S ∧ S.line = n :: r ∧ n < S.ses.length ∧
  ∀ H' S', Go K D ro X50 H H' → TW K D ro H' A S' → (S' = S ∨ S' = { S with line := r, prot := false }) → Q .non H'
theorem sc_Trunk_count_event : FnScope ["self", "gone"] ["self"] (defScope m_Trunk_count_event) := ⟨rfl, rfl, rfl, by decide +kernel, rfl, by decide +kernel, by decide +kernel⟩
theorem met_Trunk_count_event (T : Tx K mg) : Met P w K mg base 3 (CK K) "_count_event" (spCount K) := by
  refine T.met 50 140 113 rfl rfl rfl (N := ["self", "gone"]) (ps := ["self"]) (fun _ _ _ _ _ _ us hl => match us, hl with | [_], _ => rfl) sc_Trunk_count_event (fun vs H Q E h => ?_) (fun f cdv A0 outer s0 H vs Q E hr h => ?_)
  · obtain ⟨D, ro, A, S, n, r, rfl, _⟩ := h
    rfl
  · obtain ⟨D, ro, A, S, n, r, rfl, W, hl, hn, k⟩ := h
    obtain ⟨p, al, rn, htk⟩ := id W.tk
    refine ⟨_, pss_cons (ps_set (i := 1) sc_Trunk_count_event.nd rfl (by first | exact Or.inl rfl | exact Or.inr rfl) (pe_mt (met_Line_count T) hr (by decide) (pe_fld (pv 0) rfl) (pa_cons (pe_fld (pv 0) rfl) pa_nil))) (pss_one (ps_if (pt_cmp (pc_notN (pv 1))) (pss_one (ps_fld (pe_ix ix_list (pe_fld (pv 0) rfl) (pv 1) (fun _ _ => rfl)) (pe_int) rfl)) (pss_nil))), ?_⟩
    obtain ⟨ev, l1, l2, l3⟩ := id W.ln
    have lat := W.ln
    rw [hl] at lat
    have rb : ∀ H', LnK A.ln A.ll H H' → H' A.t = some (.ins (CK K) A.dt (tkF A p al rn)) := fun H' lk => by
      rw [lk A.t (ne_ro W.r.t W.r.ln (by decide)) (ne_ro W.r.t W.r.ll (by decide))]
      exact htk
    refine ⟨_, rfl, A.t, CK K, A.dt, _, _, rfl, htk, clK T, nK5 T, rfl, A.ln, A.dl, _, rfl, l1, rfl, _, rfl, A.t, CK K, A.dt, _, _, rfl, htk, clK T, nK1 T, rfl, A.ln, A.dl, A.ll, n, r, S.prot, al, rfl, lat, fun H1 lk lat1 => ?_, fun H1 lk lat1 => ?_⟩
    · obtain ⟨g1, W1⟩ := W.line T lk lat1
      refine ⟨_, rfl, _, rfl, iteEn rfl (k H1 S g1 ?_ (.inl rfl))⟩
      rw [← hl] at W1
      exact W1
    · obtain ⟨g1, W1⟩ := W.line T lk lat1
      have hn' : ∃ s, S.ses[n]? = some s := ⟨_, List.getElem?_eq_getElem hn⟩
      obtain ⟨s, hs⟩ := hn'
      obtain ⟨a, e1, ha, dx, nm, jx, rf, q1, q2⟩ := look_get (f := V.ref) W1.sl.2 hs
      refine ⟨_, rfl, _, rfl, iteE rfl ⟨_, rfl, A.t, CK K, A.dt, _, _, rfl, (rb _ lk), clK T, nK4 T, rfl, _, rfl, A.sl, _, (n : Int), .ref a, rfl, rfl, .inl (.inl W1.sl.1), atI_nat e1, a, CS K, dx, _, rfl, q1, clS T, nS3 T, pLt (n := 5) (Nat.le_refl 5), ?_⟩⟩
      obtain ⟨g2, W2⟩ := W1.ses T (S := { S with line := r, prot := false }) hs ha s.base s.j s.op q2 (nm := nm) (rf := 0) (dx := dx)
      have ef : putF "refusals" (V.int 0) (seF nm s.base jx rf (stS s.op)) = seF nm s.base jx 0 (stS s.op) := rfl
      rw [ef]
      refine k _ { S with line := r, prot := false } (g1.trans g2) ?_ (.inr rfl)
      rw [ses_self (S := { S with line := r, prot := false }) hs] at W2
      exact W2
end
end Sa
/-! text E10 -/
/-! trunk.Trunk: _make -/
namespace Sa
open PySem PySem.Spec L2 PyProof.Rows
/-- the line is told of the new version -/
theorem made_none {S : Sta} {j : Jr} {F : Files} {n : Nat} (i : InvS { grown S j F with prot := false }) (h : S.prot = false ∨ S.line = [] ∨ S.line.head? = some n) : MadeR S (leftS (grown S j F) n) j F := by
  refine ⟨rfl, rfl, ?_, rfl, rfl, fun i q h => ⟨q, h, rfl, rfl⟩⟩
  have il := i.left n
  refine ⟨il.tr, il.n1, il.ch, il.se, il.ln, il.nd, fun hp m r hl s hs => ?_⟩
  change (if S.line.head? = some n then false else S.prot) = true at hp
  change S.line.erase n = m :: r at hl
  rcases h with h | h | h
  · rw [h] at hp
    split at hp <;> cases hp
  · rw [h] at hl
    cases hl
  · rw [if_pos h] at hp
    cases hp
theorem made_base {S : Sta} {j : Jr} {F : Files} {n m : Nat} {r : List Nat} {q : Ses} (i : InvS { grown S j F with prot := false }) (hl : S.line = m :: r) (hne : m ≠ n) (hq : S.ses[m]? = some q) (hh : holdsF F q.j) :
    MadeR S (leftS { grown S j F with ses := S.ses.set m ⟨S.trees.length, q.j, q.op⟩ } n) j F := by
  refine ⟨rfl, rfl, InvS.left ?_ n, rfl, by show (S.ses.set m _).length = _; rw [List.length_set], ses_set hq⟩
  have hlt := (List.getElem?_eq_some_iff.mp hq).1
  refine ⟨i.tr, i.n1, i.ch, fun k s h => ?_, fun k h => ?_, i.nd, fun hp k r' hl' s hs => ?_⟩
  · change (S.ses.set m _)[k]? = some s at h
    by_cases z : m = k
    · subst z
      rw [List.getElem?_set_self hlt] at h
      cases h
      refine ⟨(i.se m q hq).1, F, ?_, hh⟩
      show (S.trees ++ [F])[S.trees.length]? = some F
      rw [List.getElem?_append_right (Nat.le_refl _), Nat.sub_self]
      rfl
    · rw [List.getElem?_set_ne z] at h
      exact i.se k s h
  · have := i.ln k h
    show k < (S.ses.set m _).length
    rw [List.length_set]
    exact this
  · have hl2 : S.line = k :: r' := hl'
    rw [hl] at hl2
    cases hl2
    change (S.ses.set m _)[m]? = some s at hs
    rw [List.getElem?_set_self hlt] at hs
    cases hs
    show S.trees.length + 1 = (S.trees ++ [F]).length
    rw [List.length_append]
    rfl
section
variable {P : Program} {w : World} {K : PySem.W.Frag} {mg : Str → Option Value} {base : Heap}
def spMake (K : PySem.W.Frag) : Sp := fun vs H Q _ => ∃ (D : List Addr) (ro : Addr → Nat) (A : Ad) (S : Sta) (nm jx tv : V) (n : Nat) (j : Jr) (F : Files), vs = [.ref A.t, nm, jx, tv, .int (n : Int)] ∧ TW K D ro H A S ∧ InvS { grown S j F with prot := false } ∧ InvS S ∧ S.trees.length ≤ 100 ∧
  Dt K H jx (dJ j) ∧ TrAt K (CT K) D H tv F ∧ (S.prot = true → ∀ (m : Nat) (r : List Nat) (q : Ses), S.line = m :: r → m ≠ n → S.ses[m]? = some q → holdsF F q.j) ∧
  ∀ H' S', Go K D ro X50 H H' → TW K D ro H' A S' → MadeR S S' j F → Q (.int (S.trees.length : Int)) H'
theorem sc_Trunk_make : FnScope ["self", "name", "journal", "tree", "session", "first"] ["self", "name", "journal", "tree", "session"] (defScope m_Trunk_make) := ⟨rfl, rfl, rfl, by decide +kernel, rfl, by decide +kernel, by decide +kernel⟩
theorem met_Trunk_make (T : Tx K mg) : Met P w K mg base 4 (CK K) "_make" (spMake K) := by
  refine T.met 49 139 113 rfl rfl rfl (N := ["self", "name", "journal", "tree", "session", "first"]) (ps := ["self", "name", "journal", "tree", "session"]) (fun _ _ _ _ _ _ us hl => match us, hl with | [_, _, _, _, _], _ => rfl) sc_Trunk_make (fun vs H Q E h => ?_) (fun f cdv A0 outer s0 H vs Q E hr h => ?_)
  · obtain ⟨D, ro, A, S, nm, jx, tv, n, j, F, rfl, _⟩ := h
    rfl
  · obtain ⟨D, ro, A, S, nm, jx, tv, n, j, F, rfl, W, iG, iS, h100, hj, ht, hprot, k⟩ := h
    obtain ⟨p, al, rn, htk⟩ := id W.tk
    refine ⟨_, pss_cons (ps_expr (pe_bm PySem.F.plainAttrs_list PySem.F.slot_list_append PySem.F.type_list_append mt_append (pe_fld (pv 0) rfl) (pa_cons (pv 3) pa_nil))) (pss_cons (ps_expr (pe_bm PySem.F.plainAttrs_list PySem.F.slot_list_append PySem.F.type_list_append mt_append (pe_fld (pv 0) rfl) (pa_cons (pe_tup (pa_cons (pv 1) (pa_cons (pv 2) pa_nil))) pa_nil))) (pss_cons (ps_set (i := 5) sc_Trunk_make.nd rfl (by first | exact Or.inl rfl | exact Or.inr rfl) (pe_mt0 (met_Line_first T) hr (by decide) (pe_fld (pv 0) rfl))) (Evl.pss_cut (ps_if (PW.pt (pw_and (pt_cmp (pc_notN (pv 5))) (pw_and1 (pt_cmpR op_ne (pv 5) (pv 4) (nomark _))))) (pss_one (ps_if (pt_val (pe_fld (pe_fld (pv 0) rfl) rfl)) (pss_one (ps_fld (pe_ix ix_list (pe_fld (pv 0) rfl) (pv 5) (fun _ _ => rfl)) (pe_mt0 (met_Trunk_version T) hr (by decide) (pv 0)) rfl)) (pss_one (ps_expr (pe_mt0 (met_Trunk_count_event T) hr (by decide) (pv 0)))))) (pss_nil)) (pss_cons (ps_expr (pe_mt (met_Line_leave T) hr (by decide) (pe_fld (pv 0) rfl) (pa_cons (pv 4) pa_nil))) (pss_one (ps_ret (pe_mt0 (met_Trunk_version T) hr (by decide) (pv 0)))))))), ?_⟩
    obtain ⟨tvs, h1, h2⟩ := W.tl
    have htl := pair_len h2
    obtain ⟨g1, W1⟩ := W.trees h1 ht
    refine ⟨_, rfl, A.t, CK K, A.dt, _, _, rfl, htk, clK T, nK2 T, rfl, .inl ⟨rfl, tvs, .inl (.inl h1)⟩, _, rfl, A.tl, tvs, tv, rfl, rfl, h1, smallt (m := 100) (by omega), ?_⟩
    obtain ⟨p1, al1, rn1, htk1⟩ := id W1.tk
    obtain ⟨evs, h3, h4⟩ := W1.el
    have hel : evs.length = S.ents.length := pair_len h4
    have n1 := iS.n1
    have hj1 := hj.tx g1.ev.t
    generalize upd H A.tl (.lst (tvs ++ [tv])) = H1 at g1 W1 htk1 h3 h4 hj1 ⊢
    refine ⟨_, rfl, A.t, CK K, A.dt, _, _, rfl, htk1, clK T, nK3 T, rfl, .inl ⟨rfl, evs, .inl (.inl h3)⟩, _, rfl, _, rfl, small (m := 2) (Nat.le_refl 2), fun e he => ?_⟩
    have s2 : Same H1 (upd H1 e (.tup [nm, jx])) := same_new he
    have W2 := W1.same s2
    have h3' := s2 _ _ h3
    have hent : EnAt K (upd H1 e (.tup [nm, jx])) (.ref e) j := ⟨e, nm, jx, rfl, upd_same, hj1.same s2⟩
    obtain ⟨g3, W3⟩ := W2.ents h3' hent
    have g13 := (g1.trans (go_same s2)).trans g3
    refine ⟨A.el, evs, .ref e, rfl, rfl, h3', smallt (m := 100) (by omega), ?_⟩
    generalize upd (upd H1 e (.tup [nm, jx])) A.el (.lst (evs ++ [.ref e])) = H3 at g3 W3 g13 ⊢
    have W3' : TW K D ro H3 A (grown S j F) := W3
    obtain ⟨p3, al3, rn3, htk3⟩ := id W3.tk
    obtain ⟨ev3, l1, l2, l3⟩ := id W3.ln
    have key : ∀ (σ0 : Option V), True := fun _ => trivial
    refine ⟨_, rfl, A.t, CK K, A.dt, _, _, rfl, htk3, clK T, nK5 T, rfl, A.ln, A.dl, _, rfl, l1, rfl, A.ln, A.dl, A.ll, S.line, S.prot, rfl, W3.ln, fun hl0 => ?_, fun m r hl0 => ?_⟩
    · -- no one stands in the line
      refine ⟨fun σ' H' => (∃ v5, σ' = [some (.ref A.t), some nm, some jx, some tv, some (.int (n : Int)), v5]) ∧ ∃ S2, Go K D ro X50 H H' ∧ TW K D ro H' A S2 ∧ S2.trees = S.trees ++ [F] ∧ MadeR S (leftS S2 n) j F, ?_, ?_⟩
      · exact ⟨_, rfl, _, rfl, iteEn rfl (iteEn rfl ⟨⟨_, rfl⟩, grown S j F, g13, W3', rfl, made_none iG (.inr (.inl hl0))⟩)⟩
      · rintro σ' H4 ⟨⟨v5, rfl⟩, S2, g4, W4, hT2, hM⟩
        obtain ⟨p4, al4, rn4, htk4⟩ := id W4.tk
        obtain ⟨ev4, m1, m2, m3⟩ := id W4.ln
        refine ⟨_, rfl, A.t, CK K, A.dt, _, _, rfl, htk4, clK T, nK5 T, rfl, A.ln, A.dl, _, rfl, m1, rfl, _, rfl, A.ln, A.dl, A.ll, S2.line, S2.prot, n, rfl, W4.ln, fun H5 lk lat => ?_⟩
        obtain ⟨g5, W5⟩ := W4.line T lk lat
        obtain ⟨p5, al5, rn5, htk5⟩ := id W5.tk
        refine ⟨_, rfl, A.t, A.dt, _, rfl, htk5, rfl, D, ro, A, leftS S2 n, rfl, W5, ?_, fun v hv => ?_⟩
        · show 1 ≤ S2.trees.length
          rw [hT2, List.length_append]
          show 1 ≤ S.trees.length + 1
          omega
        · have hv' : v = S.trees.length := by
            have h0 : v + 1 = S2.trees.length := hv
            rw [hT2, List.length_append] at h0
            have h1 : [F].length = 1 := rfl
            omega
          subst hv'
          exact k H5 (leftS S2 n) (g4.trans g5) W5 hM
    · by_cases hmn : m = n
      · refine ⟨fun σ' H' => (∃ v5, σ' = [some (.ref A.t), some nm, some jx, some tv, some (.int (n : Int)), v5]) ∧ ∃ S2, Go K D ro X50 H H' ∧ TW K D ro H' A S2 ∧ S2.trees = S.trees ++ [F] ∧ MadeR S (leftS S2 n) j F, ?_, ?_⟩
        · exact ⟨_, rfl, _, rfl, iteE rfl ⟨_, rfl, _, rfl, rfl, _, rfl, iteEn (by rw [hmn, decide_eq_true rfl]; rfl) ⟨⟨_, rfl⟩, grown S j F, g13, W3', rfl, made_none iG (.inr (.inr (by rw [hl0, hmn]; rfl)))⟩⟩⟩
        · rintro σ' H4 ⟨⟨v5, rfl⟩, S2, g4, W4, hT2, hM⟩
          obtain ⟨p4, al4, rn4, htk4⟩ := id W4.tk
          obtain ⟨ev4, m1, m2, m3⟩ := id W4.ln
          refine ⟨_, rfl, A.t, CK K, A.dt, _, _, rfl, htk4, clK T, nK5 T, rfl, A.ln, A.dl, _, rfl, m1, rfl, _, rfl, A.ln, A.dl, A.ll, S2.line, S2.prot, n, rfl, W4.ln, fun H5 lk lat => ?_⟩
          obtain ⟨g5, W5⟩ := W4.line T lk lat
          obtain ⟨p5, al5, rn5, htk5⟩ := id W5.tk
          refine ⟨_, rfl, A.t, A.dt, _, rfl, htk5, rfl, D, ro, A, leftS S2 n, rfl, W5, ?_, fun v hv => ?_⟩
          · show 1 ≤ S2.trees.length
            rw [hT2, List.length_append]
            show 1 ≤ S.trees.length + 1
            omega
          · have hv' : v = S.trees.length := by
              have h0 : v + 1 = S2.trees.length := hv
              rw [hT2, List.length_append] at h0
              have h1 : [F].length = 1 := rfl
              omega
            subst hv'
            exact k H5 (leftS S2 n) (g4.trans g5) W5 hM
      · have hml : m < S.ses.length := iS.ln m (by rw [hl0]; exact List.mem_cons_self)
        refine ⟨fun σ' H' => (∃ v5, σ' = [some (.ref A.t), some nm, some jx, some tv, some (.int (n : Int)), v5]) ∧ ∃ S2, Go K D ro X50 H H' ∧ TW K D ro H' A S2 ∧ S2.trees = S.trees ++ [F] ∧ MadeR S (leftS S2 n) j F, ?_, ?_⟩
        · refine ⟨_, rfl, _, rfl, iteE rfl ⟨_, rfl, _, rfl, rfl, _, rfl, iteE (by rw [decide_eq_false (fun z => hmn (by have := V.int.inj z; omega))]; rfl) ?_⟩⟩
          refine ⟨_, rfl, A.t, CK K, A.dt, _, _, rfl, htk3, clK T, nK5 T, rfl, A.ln, CL K, A.dl, _, _, rfl, l1, clL T, nL_p T, rfl, _, rfl, ?_⟩
          cases hpr : S.prot with
          | true =>
            obtain ⟨q, hq⟩ : ∃ s, S.ses[m]? = some s := ⟨_, List.getElem?_eq_getElem hml⟩
            obtain ⟨a, e1, ha, dx, nm0, jx0, rf, q1, q2⟩ := look_get (f := V.ref) W3.sl.2 hq
            refine iteE rfl ⟨_, rfl, A.t, A.dt, _, rfl, htk3, rfl, D, ro, A, grown S j F, rfl, W3', ?_, fun v hv => ?_⟩
            · show 1 ≤ (S.trees ++ [F]).length
              rw [List.length_append]
              show 1 ≤ S.trees.length + 1
              omega
            have hv' : v = S.trees.length := by
              have : v + 1 = (S.trees ++ [F]).length := hv
              rw [List.length_append] at this
              have h1 : [F].length = 1 := rfl
              omega
            subst hv'
            refine ⟨_, rfl, A.t, CK K, A.dt, _, _, rfl, htk3, clK T, nK4 T, rfl, _, rfl, A.sl, _, (m : Int), .ref a, rfl, rfl, .inl (.inl W3.sl.1), atI_nat e1, a, CS K, dx, _, rfl, q1, clS T, nS1 T, pLt (n := 5) (Nat.le_refl 5), ?_⟩
            obtain ⟨g4, W4⟩ := W3'.ses T hq ha S.trees.length q.j q.op q2 (nm := nm0) (rf := rf) (dx := dx)
            have ef : putF "base" (V.int ((S.trees.length : Nat) : Int)) (seF nm0 q.base jx0 rf (stS q.op)) = seF nm0 S.trees.length jx0 rf (stS q.op) := rfl
            rw [ef]
            exact ⟨⟨_, rfl⟩, _, g13.trans g4, W4, rfl, made_base iG hl0 hmn hq (hprot hpr m r q hl0 hmn hq)⟩
          | false =>
            refine iteEn rfl ⟨_, rfl, A.t, A.dt, _, rfl, htk3, rfl, D, ro, A, grown S j F, m, r, rfl, W3', hl0, hml, fun H4 S4 g4 W4 hS4 => ⟨⟨_, rfl⟩, S4, g13.trans g4, W4, ?_⟩⟩
            rcases hS4 with rfl | rfl
            · exact ⟨rfl, made_none iG (.inl hpr)⟩
            · refine ⟨rfl, rfl, rfl, InvS.left ?_ n, rfl, rfl, fun i q h => ⟨q, h, rfl, rfl⟩⟩
              exact ⟨iG.tr, iG.n1, iG.ch, iG.se, fun x hx => iG.ln x (by show x ∈ S.line; rw [hl0]; exact List.mem_cons_of_mem _ hx), (by have := iG.nd; rw [show ({ grown S j F with prot := false } : Sta).line = m :: r from hl0] at this; exact (List.nodup_cons.mp this).2), fun hp => nomatch hp⟩
        · rintro σ' H4 ⟨⟨v5, rfl⟩, S2, g4, W4, hT2, hM⟩
          obtain ⟨p4, al4, rn4, htk4⟩ := id W4.tk
          obtain ⟨ev4, m1, m2, m3⟩ := id W4.ln
          refine ⟨_, rfl, A.t, CK K, A.dt, _, _, rfl, htk4, clK T, nK5 T, rfl, A.ln, A.dl, _, rfl, m1, rfl, _, rfl, A.ln, A.dl, A.ll, S2.line, S2.prot, n, rfl, W4.ln, fun H5 lk lat => ?_⟩
          obtain ⟨g5, W5⟩ := W4.line T lk lat
          obtain ⟨p5, al5, rn5, htk5⟩ := id W5.tk
          refine ⟨_, rfl, A.t, A.dt, _, rfl, htk5, rfl, D, ro, A, leftS S2 n, rfl, W5, ?_, fun v hv => ?_⟩
          · show 1 ≤ S2.trees.length
            rw [hT2, List.length_append]
            show 1 ≤ S.trees.length + 1
            omega
          · have hv' : v = S.trees.length := by
              have h0 : v + 1 = S2.trees.length := hv
              rw [hT2, List.length_append] at h0
              have h1 : [F].length = 1 := rfl
              omega
            subst hv'
            exact k H5 (leftS S2 n) (g4.trans g5) W5 hM
end
end Sa
/-! text E11 -/
/-! trunk.Trunk: standing -/
namespace Sa
open PySem PySem.Spec L2 PyProof.Rows
section
variable {P : Program} {w : World} {K : PySem.W.Frag} {mg : Str → Option Value} {base : Heap}
theorem slD_pre {H : Hp} {a : Addr} {xs : List V} {ds : List PyData} {i : Nat} {x : Int} {Q : VK} (hx : x = (i : Int)) (ha : St1 K H a xs) (hd : DtAll K H xs ds) (h : i ≤ ds.length)
    (k : ∀ c H', Same H H' → Dt K H' (.ref c) (.tuple (ds.take i)) → Q (.ref c) H') : rSlA K (.ref a) none (some x) H Q := by
  subst hx
  have hl := hd.length
  refine ⟨a, _, rfl, ha.sq, fun hw => ?_, fun hw p hp => ?_⟩
  · refine k a H (Same.refl H) ?_
    have h2 := hw.2
    rw [HT.sIx_nat, Nat.min_eq_left (by omega)] at h2
    rw [List.take_of_length_le (by omega)]
    exact .tup ha hd
  · refine k p _ (same_new hp) ?_
    have e : cutV xs none (some (i : Int)) = xs.take i := by
      unfold cutV
      rw [HT.sIx_none, HT.sIx_nat, Nat.min_eq_left (by omega), List.drop_zero, Nat.sub_zero]
    rw [e]
    exact Dt.new upd_same ((hd.take i).same (same_new hp))
theorem last_at {S : Sta} {Fn : Files} (i : InvS S) (h : S.trees[S.ents.length]? = some Fn) : S.trees[S.trees.length - 1]? = some Fn := by
  have := i.n1
  rw [show S.trees.length - 1 = S.ents.length by omega]
  exact h
theorem good_take {j : Jr} (g : GoodJ j) (n : Nat) : GoodJ (j.take n) := ⟨fun e he => g.1 e (List.mem_of_mem_take he), by rw [List.length_take]; have := g.2; omega⟩
def spStanding (K : PySem.W.Frag) : Sp := fun vs H Q _ => ∃ (D : List Addr) (ro : Addr → Nat) (A : Ad) (S : Sta) (n : Nat) (s : Ses) (Fn : Files), vs = [.ref A.t, .int (n : Int)] ∧ TW K D ro H A S ∧ InvS S ∧ S.ses[n]? = some s ∧ s.op = 0 ∧ S.trees[S.ents.length]? = some Fn ∧
  (∀ H', Same H H' → holdsF Fn s.j → Q .non H') ∧ ∀ (H' : Hp) (a : Addr) (k : Nat) (r : Ans) (y : V) (m : Nat), Same H H' → changeF Fn 0 s.j = some (k, r) → H' a = some (.tup [.int (k : Int), y, .int (m : Int)]) → Dt K H' y (dR r) → s.base < m → m + 1 ≤ S.trees.length → Q (.ref a) H'
theorem sc_Trunk_standing : FnScope ["self", "session", "journal", "change", "at", "answer", "since"] ["self", "session"] (defScope m_Trunk_standing) := ⟨rfl, rfl, rfl, by decide +kernel, rfl, by decide +kernel, by decide +kernel⟩
theorem met_Trunk_standing (T : Tx K mg) : Met P w K mg base 12 (CK K) "standing" (spStanding K) := by
  refine T.met 57 147 113 rfl rfl rfl (N := ["self", "session", "journal", "change", "at", "answer", "since"]) (ps := ["self", "session"]) (fun _ _ _ _ _ _ us hl => match us, hl with | [_, _], _ => rfl) sc_Trunk_standing (fun vs H Q E h => ?_) (fun f cdv A0 outer s0 H vs Q E hr h => ?_)
  · obtain ⟨D, ro, A, S, n, s, Fn, rfl, _⟩ := h
    rfl
  · obtain ⟨D, ro, A, S, n, s, Fn, rfl, W, iS, hn, ho, hF, k1, k2⟩ := h
    obtain ⟨p, al, rn, htk⟩ := id W.tk
    obtain ⟨tvs, h1, h2⟩ := W.tl
    have htl := pair_len h2
    have n1 := iS.n1
    obtain ⟨gj, Fb, hFb, hb⟩ := iS.se n s hn
    have hbl := (List.getElem?_eq_some_iff.mp hFb).1
    have gFn := iS.tr Fn (List.mem_of_getElem? hF)
    obtain ⟨tv, t1, t2⟩ := pair_get h2 (last_at iS hF)
    have hlast : atI tvs (-1) = some tv := atI_end htl (by omega) t1
    refine ⟨_, pss_cons (ps_set (i := 2) sc_Trunk_standing.nd rfl (by first | exact Or.inl rfl | exact Or.inr rfl) (pe_fld (pe_mt (met_Trunk_opened T) hr (by decide) (pv 0) (pa_cons (pv 1) pa_nil)) rfl)) (pss_cons (ps_set (i := 3) sc_Trunk_standing.nd rfl (by first | exact Or.inl rfl | exact Or.inr rfl) (pe_c (cal_first_change T) hr (by decide) rfl (pa_cons (pv 2) (pa_cons (pe_ix ix_list (pe_fld (pv 0) rfl) (pe_un un_neg (pe_int)) (fun _ _ => rfl)) pa_nil)))) (pss_cons (ps_if (pt_cmp (pc_isN (pv 3))) (pss_one (ps_ret (pe_non))) (pss_nil)) (pss_cons (ps_asg (pv 3) (pg_tup rfl (pgs_cons (pg_name (i := 4) sc_Trunk_standing.nd rfl (by first | exact Or.inl rfl | exact Or.inr rfl)) (pgs_cons (pg_name (i := 5) sc_Trunk_standing.nd rfl (by first | exact Or.inl rfl | exact Or.inr rfl)) (pgs_nil))))) (pss_cons (ps_set (i := 6) sc_Trunk_standing.nd rfl (by first | exact Or.inl rfl | exact Or.inr rfl) (pe_mt0 (met_Trunk_version T) hr (by decide) (pv 0))) (pss_cons (ps_while PassesOwn.never (PW.pt (pw_and (pt_cmpR op_gt (pv 6) (pe_int) (nomark _)) (pw_and1 (pt_not (pt_val (pe_c (cal_holds T) hr (by decide) rfl (pa_cons (pe_slice sl_tupA (pv 2) (po_none) (po_some (pe_op op_add (pv 4) (pe_int)))) (pa_cons (pe_ix ix_list (pe_fld (pv 0) rfl) (pe_op op_sub (pv 6) (pe_int)) (fun _ _ => rfl)) pa_nil)))))))) (pss_one (ps_set (i := 6) sc_Trunk_standing.nd rfl (by first | exact Or.inl rfl | exact Or.inr rfl) (pe_op op_sub (pv 6) (pe_int))))) (pss_one (ps_ret (pe_tup (pa_cons (pv 4) (pa_cons (pv 5) (pa_cons (pv 6) pa_nil))))))))))), ?_⟩
    refine ⟨_, rfl, A.t, A.dt, _, rfl, htk, rfl, _, rfl, D, ro, A, S, n, s, rfl, W, hn, ho, fun a ha hs => ?_⟩
    obtain ⟨dx, nm, jx, rf, q1, q2⟩ := id hs
    obtain ⟨jt, js, rfl, hjt, hjd⟩ := Dt.tupI q2
    refine ⟨a, CS K, dx, _, _, rfl, q1, clS T, nS2 T, rfl, ?_⟩
    refine ⟨_, rfl, _, rfl, A.t, CK K, A.dt, _, _, rfl, htk, clK T, nK2 T, rfl, _, rfl, A.tl, tvs, (-1 : Int), tv, rfl, rfl, .inl (.inl h1), hlast, .ref jt, tv, D, Fn, s.j, rfl, t2, gFn, W.d, q2, gj, fun H1 s1 hh => ?_, fun H1 c m r y s1 hch hc hy => ?_⟩
    · exact ⟨_, rfl, _, rfl, iteE rfl (k1 H1 s1 hh)⟩
    · refine ⟨_, rfl, _, rfl, iteEn rfl ?_⟩
      refine ⟨_, rfl, c, _, rfl, .inl (.inl hc), rfl, _, _, rfl, _, _, rfl, rfl, ?_⟩
      have htk1 := s1 _ _ htk
      have W1 := W.same s1
      refine ⟨_, rfl, A.t, A.dt, _, rfl, htk1, rfl, D, ro, A, S, rfl, W1, by omega, fun v hv => ?_⟩
      obtain ⟨_, en, c1, c2, c3⟩ := change_some hch
      rw [Nat.sub_zero] at c1 c3
      have hml : m < s.j.length := (List.getElem?_eq_some_iff.mp c1).1
      have hbn : s.base ≠ v := fun z => by
        have e1 : Fb = Fn := by
          have h0 : S.trees[S.ents.length]? = some Fb := by rw [show S.ents.length = s.base by omega]; exact hFb
          rw [hF] at h0
          exact (Option.some.inj h0).symm
        rw [e1] at hb
        rw [show changeF Fn 0 s.j = none from hb] at hch
        cases hch
      refine ⟨fun mm σ H' => ∃ m2 : Nat, σ = [some (.ref A.t), some (.int (n : Int)), some (.ref jt), some (.ref c), some (.int (m : Int)), some y, some (.int (m2 : Int))] ∧ mm = m2 ∧ s.base < m2 ∧ m2 + 1 ≤ S.trees.length ∧ Same H1 H', ⟨v, v, rfl, rfl, by omega, by omega, Same.refl H1⟩, ?_⟩
      rintro m2 σ H2 ⟨_, rfl, rfl, hm1, hm2, s2'⟩
      have s2 := s1.trans s2'
      obtain ⟨Fm, hFm⟩ : ∃ F, S.trees[m2 - 1]? = some F := ⟨_, List.getElem?_eq_getElem (by omega)⟩
      obtain ⟨tm, u1, u2⟩ := pair_get h2 hFm
      refine ⟨_, rfl, _, _, rfl, rfl, _, rfl, iteP (by omega) ?_⟩
      have em : (m : Int) + 1 = ((m + 1 : Nat) : Int) := by omega
      refine ⟨_, rfl, _, rfl, _, _, rfl, rfl, _, rfl, ?_⟩
      refine slD_pre (i := m + 1) em (hjt.tx (tx_same s2)) (hjd.same s2) (by rw [List.length_map]; omega) fun c2 H3 s3 hc2 => ?_
      have s23 := s2.trans s3
      have ej : (s.j.map dE).take (m + 1) = (s.j.take (m + 1)).map dE := List.map_take.symm
      rw [ej] at hc2
      have em2 : (m2 : Int) - 1 = ((m2 - 1 : Nat) : Int) := by omega
      refine ⟨_, rfl, A.t, CK K, A.dt, _, _, rfl, (s23 _ _ htk), clK T, nK2 T, rfl, _, rfl, _, _, rfl, rfl, A.tl, tvs, (m2 : Int) - 1, tm, rfl, rfl, .inl (.inl (s23 _ _ h1)), ?_, _, tm, D, Fm, s.j.take (m + 1), rfl, u2.same s23, iS.tr Fm (List.mem_of_getElem? hFm), W.d.same s23, hc2, good_take gj _, fun H4 b s4 hb4 => ?_⟩
      · rw [em2]
        exact atI_nat u1
      have s24 := s23.trans s4
      refine ⟨_, rfl, ?_⟩
      cases b with
      | true =>
        refine iteEn rfl ⟨_, rfl, _, rfl, _, rfl, small (m := 3) (Nat.le_refl 3), fun q hq => ?_⟩
        exact k2 _ q m r y m2 (s24.trans (same_new hq)) hch upd_same ((hy.same ((s2'.trans s3).trans s4)).same (same_new hq)) hm1 hm2
      | false =>
        have hno : ¬ holdsF Fm (s.j.take (m + 1)) := fun h => nomatch hb4.mpr h
        have hne : s.base ≠ m2 - 1 := fun z => hno (by
          have e1 : Fb = Fm := by
            rw [z, hFm] at hFb
            exact (Option.some.inj hFb).symm
          rw [e1] at hb
          exact holds_take _ hb)
        refine iteE rfl ⟨fun σ' H' => ∃ m', m' < m2 ∧ ∃ m2 : Nat, σ' = [some (.ref A.t), some (.int (n : Int)), some (.ref jt), some (.ref c), some (.int (m : Int)), some y, some (.int (m2 : Int))] ∧ m' = m2 ∧ s.base < m2 ∧ m2 + 1 ≤ S.trees.length ∧ Same H1 H', fun σ' H' h => h, ?_⟩
        refine ⟨_, rfl, _, _, rfl, rfl, m2 - 1, by omega, m2 - 1, ?_, rfl, by omega, by omega, (s2'.trans s3).trans s4⟩
        rw [← em2]
        rfl
end
end Sa
/-! text E12 -/
/-! trunk.Trunk: _refuse, _is_barred -/
namespace Sa
open PySem PySem.Spec L2 PyProof.Rows
theorem nodup_le : ∀ (m : Nat) {l : List Nat}, l.Nodup → (∀ n ∈ l, n < m) → l.length ≤ m
  | 0, l, nd, h => by
    cases l with
    | nil => exact Nat.le_refl 0
    | cons a r => exact absurd (h a List.mem_cons_self) (Nat.not_lt_zero _)
  | m + 1, l, nd, h => by
    have ih := nodup_le m (nd.erase m) fun n hn => by
      have h1 := h n (List.mem_of_mem_erase hn)
      have h2 := (nd.mem_erase_iff.mp hn).1
      omega
    by_cases hm : m ∈ l
    · rw [List.length_erase_of_mem hm] at ih
      omega
    · rw [List.erase_of_not_mem hm] at ih
      omega
theorem iteGe {i j : Int} {A B : Prop} (h : j ≤ i) (a : A) : if decide (i ≥ j) = true then A else B := by
  rw [if_pos (decide_eq_true h)]
  exact a
theorem iteGeN {i j : Int} {A B : Prop} (h : ¬ j ≤ i) (b : B) : if decide (i ≥ j) = true then A else B := by
  rw [if_neg (by rw [decide_eq_false h]; decide)]
  exact b
def refS (S : Sta) (n k : Nat) (s : Ses) : Sta := { S with ses := S.ses.set n ⟨S.trees.length - 1, s.j.take k, 0⟩ }
theorem InvS.refS {S : Sta} (i : InvS S) {n k : Nat} {s : Ses} {Fn : Files} (hn : S.ses[n]? = some s) (hF : S.trees[S.ents.length]? = some Fn) (hh : holdsF Fn (s.j.take k)) : InvS (refS S n k s) := by
  have hlt := (List.getElem?_eq_some_iff.mp hn).1
  refine ⟨i.tr, i.n1, i.ch, fun m q h => ?_, fun m h => ?_, i.nd, fun hp m r hl q hq => ?_⟩
  · change (S.ses.set n _)[m]? = some q at h
    by_cases z : n = m
    · subst z
      rw [List.getElem?_set_self hlt] at h
      cases h
      exact ⟨good_take (i.se n s hn).1 k, Fn, (show S.trees[S.trees.length - 1]? = some Fn from last_at i hF), hh⟩
    · rw [List.getElem?_set_ne z] at h
      exact i.se m q h
  · have := i.ln m h
    show m < (S.ses.set n _).length
    rw [List.length_set]
    exact this
  · change (S.ses.set n _)[m]? = some q at hq
    by_cases z : n = m
    · subst z
      rw [List.getElem?_set_self hlt] at hq
      cases hq
      have := i.n1
      show S.trees.length - 1 + 1 = S.trees.length
      omega
    · rw [List.getElem?_set_ne z] at hq
      exact i.pr hp m r hl q hq
theorem refS_base {S : Sta} (i : InvS S) {n k : Nat} {s q : Ses} (hn : S.ses[n]? = some s) (hq : (refS S n k s).ses[n]? = some q) : q.base + 1 = S.trees.length := by
  change (S.ses.set n _)[n]? = some q at hq
  rw [List.getElem?_set_self (List.getElem?_eq_some_iff.mp hn).1] at hq
  cases hq
  have := i.n1
  show S.trees.length - 1 + 1 = S.trees.length
  omega
/-- what a refusal leaves -/
structure RefR (S S' : Sta) (n k : Nat) (s : Ses) : Prop where
  trees : S'.trees = S.trees
  ents : S'.ents = S.ents
  ses : S'.ses = S.ses.set n ⟨S.trees.length - 1, s.j.take k, 0⟩
  nck : S'.nck = S.nck
  inv : InvS S'
section
variable {P : Program} {w : World} {K : PySem.W.Frag} {mg : Str → Option Value} {base : Heap}
def spRefuse (K : PySem.W.Frag) : Sp := fun vs H Q _ => ∃ (D : List Addr) (ro : Addr → Nat) (A : Ad) (S : Sta) (n k : Nat) (s : Ses) (Fn : Files), vs = [.ref A.t, .int (n : Int), .int (k : Int)] ∧ TW K D ro H A S ∧ InvS S ∧ S.ses.length ≤ 60 ∧ S.ses[n]? = some s ∧ s.op = 0 ∧ k ≤ s.j.length ∧
  S.trees[S.ents.length]? = some Fn ∧ holdsF Fn (s.j.take k) ∧ ∀ H' S', Go K D ro X50 H H' → TW K D ro H' A S' → RefR S S' n k s → Q .non H'
theorem sc_Trunk_refuse : FnScope ["self", "session", "at", "found"] ["self", "session", "at"] (defScope m_Trunk_refuse) := ⟨rfl, rfl, rfl, by decide +kernel, rfl, by decide +kernel, by decide +kernel⟩
theorem met_Trunk_refuse (T : Tx K mg) : Met P w K mg base 2 (CK K) "_refuse" (spRefuse K) := by
  refine T.met 58 148 113 rfl rfl rfl (N := ["self", "session", "at", "found"]) (ps := ["self", "session", "at"]) (fun _ _ _ _ _ _ us hl => match us, hl with | [_, _, _], _ => rfl) sc_Trunk_refuse (fun vs H Q E h => ?_) (fun f cdv A0 outer s0 H vs Q E hr h => ?_)
  · obtain ⟨D, ro, A, S, n, k, s, Fn, rfl, _⟩ := h
    rfl
  · obtain ⟨D, ro, A, S, n, m, s, Fn, rfl, W, iS, h60, hn, ho, hm, hF, hh, k⟩ := h
    obtain ⟨p, al, rn, htk⟩ := id W.tk
    have n1 := iS.n1
    have hlt := (List.getElem?_eq_some_iff.mp hn).1
    refine ⟨_, pss_cons (ps_set (i := 3) sc_Trunk_refuse.nd rfl (by first | exact Or.inl rfl | exact Or.inr rfl) (pe_ix ix_list (pe_fld (pv 0) rfl) (pv 1) (fun _ _ => rfl))) (pss_cons (ps_fld (pv 3) (pe_mt0 (met_Trunk_version T) hr (by decide) (pv 0)) rfl) (pss_cons (ps_fld (pv 3) (pe_slice sl_tupA (pe_fld (pv 3) rfl) (po_none) (po_some (pv 2))) rfl) (pss_cons (ps_fld (pv 3) (pe_op op_add (pe_fld (pv 3) rfl) (pe_int)) rfl) (pss_one (ps_if (pt_cmpR op_notIn_seq (pv 1) (pe_fld (pe_fld (pv 0) rfl) rfl) (by rfl)) (pss_one (ps_if (pt_cmpR op_ge (pe_fld (pv 3) rfl) (pe_fld (pv 0) rfl) (nomark _)) (pss_one (ps_expr (pe_mt (met_Line_join T) hr (by decide) (pe_fld (pv 0) rfl) (pa_cons (pv 1) pa_nil)))) (pss_nil))) (pss_one (ps_if (pt_cmpR op_eq (pv 1) (pe_mt0 (met_Line_first T) hr (by decide) (pe_fld (pv 0) rfl)) (nomark _)) (pss_one (ps_fld (pe_fld (pv 0) rfl) (pe_bl) rfl)) (pss_nil)))))))), ?_⟩
    obtain ⟨a, e1, ha, dx, nm, jx, rf, q1, q2⟩ := look_get (f := V.ref) W.sl.2 hn
    obtain ⟨jt, js, rfl, hjt, hjd⟩ := Dt.tupI q2
    have roa := W.r.ss n a ha
    refine ⟨_, rfl, A.t, CK K, A.dt, _, _, rfl, htk, clK T, nK4 T, rfl, _, rfl, A.sl, _, (n : Int), .ref a, rfl, rfl, .inl (.inl W.sl.1), atI_nat e1, ?_⟩
    refine ⟨_, rfl, A.t, A.dt, _, rfl, htk, rfl, D, ro, A, S, rfl, W, by omega, fun v hv => ?_⟩
    obtain rfl : v = S.trees.length - 1 := by omega
    -- base
    obtain ⟨g1, W1⟩ := W.ses T hn ha (S.trees.length - 1) s.j s.op q2 (nm := nm) (rf := rf) (dx := dx)
    refine ⟨_, rfl, a, CS K, dx, _, rfl, q1, clS T, nS1 T, pLt (n := 5) (Nat.le_refl 5), ?_⟩
    have ef1 : putF "base" (V.int ((S.trees.length - 1 : Nat) : Int)) (seF nm s.base (.ref jt) rf (stS s.op)) = seF nm (S.trees.length - 1) (.ref jt) rf (stS s.op) := rfl
    rw [ef1]
    have qa1 : upd H a (.ins (CS K) dx (seF nm (S.trees.length - 1) (.ref jt) rf (stS s.op))) a = some (.ins (CS K) dx (seF nm (S.trees.length - 1) (.ref jt) rf (stS s.op))) := upd_same
    have hjt1 := hjt.tx g1.ev.t
    have hjd1 := hjd.tx g1.ev.t
    generalize upd H a (.ins (CS K) dx (seF nm (S.trees.length - 1) (.ref jt) rf (stS s.op))) = H1 at g1 W1 qa1 hjt1 hjd1 ⊢
    -- journal
    refine ⟨_, rfl, a, CS K, dx, _, _, rfl, qa1, clS T, nS2 T, rfl, _, rfl, _, rfl, ?_⟩
    refine slD_pre (i := m) rfl hjt1 hjd1 (by rw [List.length_map]; exact hm) fun c H2 s2 hc => ?_
    have ej : (s.j.map dE).take m = (s.j.take m).map dE := List.map_take.symm
    rw [ej] at hc
    have W2 := W1.same s2
    have qa2 := s2 _ _ qa1
    have hn1 : (S.ses.set n ⟨S.trees.length - 1, s.j, s.op⟩)[n]? = some ⟨S.trees.length - 1, s.j, s.op⟩ := List.getElem?_set_self hlt
    obtain ⟨g3, W3⟩ := W2.ses T (S := { S with ses := S.ses.set n ⟨S.trees.length - 1, s.j, s.op⟩ }) hn1 ha (S.trees.length - 1) (s.j.take m) s.op hc (nm := nm) (rf := rf) (dx := dx)
    refine ⟨_, rfl, a, CS K, dx, _, rfl, qa2, clS T, nS2 T, pLt (n := 5) (Nat.le_refl 5), ?_⟩
    have ef2 : putF "journal" (V.ref c) (seF nm (S.trees.length - 1) (.ref jt) rf (stS s.op)) = seF nm (S.trees.length - 1) (.ref c) rf (stS s.op) := rfl
    rw [ef2]
    have qa3 : upd H2 a (.ins (CS K) dx (seF nm (S.trees.length - 1) (.ref c) rf (stS s.op))) a = some (.ins (CS K) dx (seF nm (S.trees.length - 1) (.ref c) rf (stS s.op))) := upd_same
    have hc3 := hc.tx g3.ev.t
    generalize upd H2 a (.ins (CS K) dx (seF nm (S.trees.length - 1) (.ref c) rf (stS s.op))) = H3 at g3 W3 qa3 hc3 ⊢
    have W3' : TW K D ro H3 A { S with ses := S.ses.set n ⟨S.trees.length - 1, s.j.take m, s.op⟩ } := by
      have e : (S.ses.set n ⟨S.trees.length - 1, s.j, s.op⟩).set n ⟨S.trees.length - 1, s.j.take m, s.op⟩ = S.ses.set n ⟨S.trees.length - 1, s.j.take m, s.op⟩ := List.set_set ..
      rw [← e]
      exact W3
    have g13 := (g1.trans (go_same s2)).trans g3
    -- refusals
    have hn3 : (S.ses.set n ⟨S.trees.length - 1, s.j.take m, s.op⟩)[n]? = some ⟨S.trees.length - 1, s.j.take m, s.op⟩ := List.getElem?_set_self hlt
    obtain ⟨g4, W4⟩ := W3'.ses T (S := { S with ses := S.ses.set n ⟨S.trees.length - 1, s.j.take m, s.op⟩ }) hn3 ha (S.trees.length - 1) (s.j.take m) 0 hc3 (nm := nm) (rf := rf + 1) (dx := dx)
    refine ⟨_, rfl, a, CS K, dx, _, _, rfl, qa3, clS T, nS3 T, rfl, _, _, rfl, rfl, _, rfl, a, CS K, dx, _, rfl, qa3, clS T, nS3 T, pLt (n := 5) (Nat.le_refl 5), ?_⟩
    have ef3 : putF "refusals" (V.int (rf + 1)) (seF nm (S.trees.length - 1) (.ref c) rf (stS s.op)) = seF nm (S.trees.length - 1) (.ref c) (rf + 1) (stS 0) := by rw [ho]; rfl
    rw [ef3]
    have qa4 : upd H3 a (.ins (CS K) dx (seF nm (S.trees.length - 1) (.ref c) (rf + 1) (stS 0))) a = some (.ins (CS K) dx (seF nm (S.trees.length - 1) (.ref c) (rf + 1) (stS 0))) := upd_same
    generalize upd H3 a (.ins (CS K) dx (seF nm (S.trees.length - 1) (.ref c) (rf + 1) (stS 0))) = H4 at g4 W4 qa4 ⊢
    have W4' : TW K D ro H4 A (refS S n m s) := by
      have e : (S.ses.set n ⟨S.trees.length - 1, s.j.take m, s.op⟩).set n ⟨S.trees.length - 1, s.j.take m, 0⟩ = S.ses.set n ⟨S.trees.length - 1, s.j.take m, 0⟩ := List.set_set ..
      unfold refS
      rw [← e]
      exact W4
    have g14 := g13.trans g4
    have iR := iS.refS hn hF hh
    obtain ⟨p4, al4, rn4, htk4⟩ := id W4'.tk
    obtain ⟨ev, l1, l2, l3⟩ := id W4'.ln
    have hin : inV (.int (n : Int)) (idx S.line) = decide (n ∈ S.line) := inV_idx
    refine ⟨_, rfl, _, rfl, A.t, CK K, A.dt, _, _, rfl, htk4, clK T, nK5 T, rfl, A.ln, CL K, A.dl, _, _, rfl, l1, clL T, nL_s T, rfl, A.ll, idx S.line, rfl, .inl (.inl (.inl l2)), rfl, flat_idx _, _, rfl, ?_⟩
    by_cases hm2 : n ∈ S.line
    · refine iteEn (by show (!inV (.int (n : Int)) (idx S.line)) = false; rw [hin, decide_eq_true hm2]; rfl) ?_
      refine ⟨_, rfl, _, rfl, A.t, CK K, A.dt, _, _, rfl, htk4, clK T, nK5 T, rfl, A.ln, A.dl, _, rfl, l1, rfl, A.ln, A.dl, A.ll, S.line, S.prot, rfl, W4'.ln, fun hl => ?_, fun m0 r hl => ?_⟩
      · rw [hl] at hm2
        exact absurd hm2 (by simp)
      · refine ⟨rfl, _, rfl, ?_⟩
        by_cases h0 : n = m0
        · subst h0
          refine iteP rfl ⟨_, rfl, A.t, CK K, A.dt, _, _, rfl, htk4, clK T, nK5 T, rfl, A.ln, CL K, A.dl, _, rfl, l1, clL T, nL_p T, lnf_len, ?_⟩
          have hne := W4'.ln.ne
          obtain ⟨g5, W5⟩ := W4'.line T (H' := upd H4 A.ln (.ins (CL K) A.dl (putF "is_protected" (.bl true) (lnF A.ll S.prot ev)))) (s' := S.line) (p' := true) lnk_ln ⟨ev, by rw [upd_same]; rfl, by rw [upd_ne (Ne.symm hne)]; exact l2, l3⟩
          refine k _ _ (g14.trans g5) W5 ⟨rfl, rfl, rfl, rfl, iR.tr, iR.n1, iR.ch, iR.se, iR.ln, iR.nd, fun _ m1 r1 hl1 q hq => ?_⟩
          have e2 : m1 = n := by
            have : S.line = m1 :: r1 := hl1
            rw [hl] at this
            cases this
            rfl
          rw [e2] at hq
          exact refS_base iS hn hq
        · refine iteN (fun z => h0 (by have := V.int.inj z; omega)) ?_
          exact k H4 _ g14 W4' ⟨rfl, rfl, rfl, rfl, iR⟩
    · refine iteE (by show (!inV (.int (n : Int)) (idx S.line)) = true; rw [hin, decide_eq_false hm2]; rfl) ?_
      refine ⟨_, rfl, a, CS K, dx, _, _, rfl, qa4, clS T, nS3 T, rfl, _, rfl, A.t, CK K, A.dt, _, _, rfl, htk4, clK T, nK0 T, rfl, _, _, rfl, rfl, _, rfl, ?_⟩
      by_cases hc5 : p4 ≤ rf + 1
      · have hll : S.line.length ≤ S.ses.length := nodup_le _ iS.nd iS.ln
        refine iteGe hc5 ⟨_, rfl, A.t, CK K, A.dt, _, _, rfl, htk4, clK T, nK5 T, rfl, A.ln, A.dl, _, rfl, l1, rfl, _, rfl, A.ln, A.dl, A.ll, S.line, S.prot, n, rfl, W4'.ln, by omega, fun H5 lk lat => ?_⟩
        obtain ⟨g5, W5⟩ := W4'.line T lk lat
        refine k _ _ (g14.trans g5) W5 ⟨rfl, rfl, rfl, rfl, iR.tr, iR.n1, iR.ch, iR.se, fun x hx => ?_, ?_, fun hp m1 r1 hl1 q hq => ?_⟩
        · rcases List.mem_append.mp hx with h | h
          · exact iR.ln x h
          · rw [List.mem_singleton.mp h]
            show n < (S.ses.set n _).length
            rw [List.length_set]
            exact hlt
        · refine List.nodup_append.mpr ⟨iS.nd, by simp, fun x hx b hb => ?_⟩
          rw [List.mem_singleton.mp hb]
          rintro rfl
          exact hm2 hx
        · change S.line ++ [n] = m1 :: r1 at hl1
          cases hl : S.line with
          | nil =>
            rw [hl] at hl1
            cases hl1
            exact refS_base iS hn hq
          | cons m0 t =>
            rw [hl] at hl1
            cases hl1
            have hp' : S.prot = true := by
              have hp2 : (if S.line = [] then true else S.prot) = true := hp
              rw [if_neg (by rw [hl]; simp)] at hp2
              exact hp2
            exact iR.pr hp' _ t hl q hq
      · exact iteGeN hc5 (k H4 _ g14 W4' ⟨rfl, rfl, rfl, rfl, iR⟩)
end
end Sa
/-! text E13 -/
/-! trunk.Trunk: _is_barred, _passes -/
namespace Sa
open PySem PySem.Spec L2 PyProof.Rows
section
variable {P : Program} {w : World} {K : PySem.W.Frag} {mg : Str → Option Value} {base : Heap}
def spBarred (K : PySem.W.Frag) : Sp := fun vs H Q _ => ∃ (D : List Addr) (ro : Addr → Nat) (A : Ad) (S : Sta) (n : Nat) (tv : V) (F : Files), vs = [.ref A.t, .int (n : Int), tv] ∧ TW K D ro H A S ∧ InvS S ∧ TrAt K (CT K) D H tv F ∧ GoodF F ∧
  ∀ H' b, Same H H' → (b = true → ∃ m r, S.line = m :: r ∧ m ≠ n ∧ m < S.ses.length) → (b = false → S.prot = true → ∀ (m : Nat) (r : List Nat) (q : Ses), S.line = m :: r → m ≠ n → S.ses[m]? = some q → holdsF F q.j) → Q (.bl b) H'
theorem sc_Trunk_is_barred : FnScope ["self", "session", "candidate", "first"] ["self", "session", "candidate"] (defScope m_Trunk_is_barred) := ⟨rfl, rfl, rfl, by decide +kernel, rfl, by decide +kernel, by decide +kernel⟩
theorem met_Trunk_is_barred (T : Tx K mg) : Met P w K mg base 12 (CK K) "_is_barred" (spBarred K) := by
  refine T.met 59 149 113 rfl rfl rfl (N := ["self", "session", "candidate", "first"]) (ps := ["self", "session", "candidate"]) (fun _ _ _ _ _ _ us hl => match us, hl with | [_, _, _], _ => rfl) sc_Trunk_is_barred (fun vs H Q E h => ?_) (fun f cdv A0 outer s0 H vs Q E hr h => ?_)
  · obtain ⟨D, ro, A, S, n, tv, F, rfl, _⟩ := h
    rfl
  · obtain ⟨D, ro, A, S, n, tv, F, rfl, W, iS, ht, gF, k⟩ := h
    obtain ⟨p, al, rn, htk⟩ := id W.tk
    obtain ⟨ev, l1, l2, l3⟩ := id W.ln
    refine ⟨_, pss_cons (ps_set (i := 3) sc_Trunk_is_barred.nd rfl (by first | exact Or.inl rfl | exact Or.inr rfl) (pe_mt0 (met_Line_first T) hr (by decide) (pe_fld (pv 0) rfl))) (pss_cons (ps_if (PW.pt (pw_or (pt_cmp (pc_isN (pv 3))) (pw_or (pt_cmpR op_eq (pv 3) (pv 1) (nomark _)) (pw_or1 (pt_not (pt_val (pe_fld (pe_fld (pv 0) rfl) rfl))))))) (pss_one (ps_ret (pe_bl))) (pss_nil)) (pss_one (ps_ret (pe_not (pe_c (cal_holds T) hr (by decide) rfl (pa_cons (pe_fld (pe_ix ix_list (pe_fld (pv 0) rfl) (pv 3) (fun _ _ => rfl)) rfl) (pa_cons (pv 2) pa_nil))))))), ?_⟩
    refine ⟨_, rfl, A.t, CK K, A.dt, _, _, rfl, htk, clK T, nK5 T, rfl, A.ln, A.dl, _, rfl, l1, rfl, A.ln, A.dl, A.ll, S.line, S.prot, rfl, W.ln, fun hl => ?_, fun m r hl => ?_⟩
    · refine ⟨_, rfl, _, rfl, iteE rfl (iteE rfl (k H false (Same.refl H) (fun z => nomatch z) fun _ _ m r q e => ?_))⟩
      rw [hl] at e
      cases e
    · refine ⟨_, rfl, _, rfl, iteEn rfl ⟨_, rfl, _, rfl, rfl, _, rfl, ?_⟩⟩
      by_cases h0 : m = n
      · refine iteP (by rw [h0]) (iteE rfl (k H false (Same.refl H) (fun z => nomatch z) fun _ _ m2 r2 q e hne => ?_))
        rw [hl] at e
        cases e
        exact absurd h0 hne
      · refine iteN (fun z => h0 (by have := V.int.inj z; omega)) ⟨_, rfl, A.t, CK K, A.dt, _, _, rfl, htk, clK T, nK5 T, rfl, A.ln, CL K, A.dl, _, _, rfl, l1, clL T, nL_p T, rfl, _, rfl, ?_⟩
        cases hp : S.prot with
        | false => exact iteE rfl (k H false (Same.refl H) (fun z => nomatch z) fun _ z => by rw [hp] at z; cases z)
        | true =>
          have hml := iS.ln m (by rw [hl]; exact List.mem_cons_self)
          obtain ⟨q, hq⟩ : ∃ q, S.ses[m]? = some q := ⟨_, List.getElem?_eq_getElem hml⟩
          obtain ⟨a, e1, ha, dx, nm, jx, rf, q1, q2⟩ := look_get (f := V.ref) W.sl.2 hq
          refine iteEn rfl ⟨_, rfl, A.t, CK K, A.dt, _, _, rfl, htk, clK T, nK4 T, rfl, _, rfl, A.sl, _, (m : Int), .ref a, rfl, rfl, .inl (.inl W.sl.1), atI_nat e1, a, CS K, dx, _, _, rfl, q1, clS T, nS2 T, rfl, _, rfl, jx, tv, D, F, q.j, rfl, ht, gF, W.d, q2, (iS.se m q hq).1, fun H1 b s1 hb => ⟨_, rfl, k H1 (!b) s1 (fun _ => ⟨m, r, hl, h0, hml⟩) fun z _ m2 r2 q2' e hne hq2 => ?_⟩⟩
          rw [hl] at e
          cases e
          rw [hq] at hq2
          cases hq2
          cases b with
          | true => exact hb.mp rfl
          | false => cases z
theorem ver_at {ro : Addr → Nat} {H : Hp} {us : List V} (h : ∀ u ∈ us, ∃ (b : Addr) (k : Bool) (jx : V) (j : Jr), u = .ref b ∧ H b = some (.tup [.bl k, jx]) ∧ Dt K H jx (dJ j) ∧ GoodJ j) {i : Nat} {x : V} (e : us[i]? = some x) :
    ∃ (b : Addr) (k : Bool) (jx : V) (j : Jr), x = .ref b ∧ H b = some (.tup [.bl k, jx]) ∧ Dt K H jx (dJ j) ∧ GoodJ j := h x (List.mem_of_getElem? e)
theorem cut_take {xs : List V} {n : Nat} : cutV xs none (some (n : Int)) = xs.take n := by
  unfold cutV
  rw [HT.sIx_none, HT.sIx_nat, List.drop_zero, Nat.sub_zero]
  by_cases h : n ≤ xs.length
  · rw [Nat.min_eq_left h]
  · rw [Nat.min_eq_right (by omega), List.take_of_length_le (Nat.le_refl _), List.take_of_length_le (by omega)]
def spPasses (K : PySem.W.Frag) : Sp := fun vs H Q _ => ∃ (D : List Addr) (ro : Addr → Nat) (A : Ad) (S : Sta) (nm : Str) (tv : V) (F : Files) (cks vks : List (Key × V)) (ks : List Str), vs = [.ref A.t, .str nm, tv] ∧ TW K D ro H A S ∧ CkAt K ro H A cks vks ks ∧ ks.length ≤ S.nck ∧ nm ∈ ks ∧ TrAt K (CT K) D H tv F ∧ GoodF F ∧
  ∀ H' b, Go K D ro X50 H H' → TW K D ro H' A S → (∃ vks', CkAt K ro H' A cks vks' ks) → Q (.bl b) H'
theorem sc_Trunk_passes : FnScope ["self", "name", "tree", "kept", "passed", "journal", "found"] ["self", "name", "tree"] (defScope m_Trunk_passes) := ⟨rfl, rfl, rfl, by decide +kernel, rfl, by decide +kernel, by decide +kernel⟩
theorem met_Trunk_passes (T : Tx K mg) : Met P w K mg base 12 (CK K) "_passes" (spPasses K) := by
  refine T.met 60 150 113 rfl rfl rfl (N := ["self", "name", "tree", "kept", "passed", "journal", "found"]) (ps := ["self", "name", "tree"]) (fun _ _ _ _ _ _ us hl => match us, hl with | [_, _, _], _ => rfl) sc_Trunk_passes (fun vs H Q E h => ?_) (fun f cdv A0 outer s0 H vs Q E hr h => ?_)
  · obtain ⟨D, ro, A, S, nm, tv, F, cks, vks, ks, rfl, _⟩ := h
    rfl
  · obtain ⟨D, ro, A, S, nm, tv, F, cks, vks, ks, rfl, W, hc, hk, hm, ht, gF, k⟩ := h
    obtain ⟨p, al, rn, htk⟩ := id W.tk
    obtain ⟨cv, vv, c, w1, w2, w3, w4, va, us, rfl, v0, v1, v5, v6⟩ := hc.one nm hm
    have ckS : ∀ {H' : Hp}, Same H H' → CkAt K ro H' A cks vks ks := fun s => hc.mv W.r (go_same (X := none_) (D := D) s) rfl rfl rfl
    refine ⟨_, pss_cons (ps_set (i := 3) sc_Trunk_passes.nd rfl (by first | exact Or.inl rfl | exact Or.inr rfl) (pe_dget (u1 hr) (pe_fld (pv 0) rfl) (pv 1) (fun _ _ => rfl))) (pss_cons (ps_for PassesOwn.never rfl (pi_list (pv 3)) (pg_tup rfl (pgs_cons (pg_name (i := 4) sc_Trunk_passes.nd rfl (by first | exact Or.inl rfl | exact Or.inr rfl)) (pgs_cons (pg_name (i := 5) sc_Trunk_passes.nd rfl (by first | exact Or.inl rfl | exact Or.inr rfl)) (pgs_nil)))) (pss_one (ps_if (pt_val (pe_c (cal_holds T) hr (by decide) rfl (pa_cons (pv 5) (pa_cons (pv 2) pa_nil)))) (pss_one (ps_ret (pv 4))) (pss_nil)))) (pss_cons (ps_set (i := 6) sc_Trunk_passes.nd rfl (by first | exact Or.inl rfl | exact Or.inr rfl) (pe_c (cal_verdict T) hr (by decide) rfl (pa_cons (pe_dget (u1 hr) (pe_fld (pv 0) rfl) (pv 1) (fun _ _ => rfl)) (pa_cons (pv 2) pa_nil)))) (pss_cons (ps_fld (pv 0) (pe_op op_add (pe_fld (pv 0) rfl) (pe_int)) rfl) (pss_cons (ps_dput (u1 hr) (pe_fld (pv 0) rfl) (pv 1) (pe_slice sl_list (pe_op op_cat (pe_lst (pa_cons (pv 6) pa_nil)) (pv 3)) (po_none) (po_some (pe_gc rfl (T.gint 83)))) rfl) (pss_one (ps_ret (pe_ix ix_tup (pv 6) (pe_int) (fun _ _ => rfl)))))))), ?_⟩
    refine ⟨_, rfl, A.t, CK K, A.dt, _, _, rfl, htk, clK T, nK7 T, rfl, _, rfl, A.vd, .ref va, rfl, (by have q := DGet.k (k := Sum.inr nm) hc.vd; rw [w4] at q; exact q), ?_⟩
    refine ⟨_, rfl, va, rfl, ⟨us, .inl (.inl v1)⟩, for_list (xs := us) (fun i σ H' => ∃ v4 v5 v6, σ = [some (.ref A.t), some (.str nm), some tv, some (.ref va), v4, v5, v6] ∧ Same H H') ⟨_, _, _, rfl, Same.refl H⟩ (fun i σ H' _ ⟨_, _, _, _, q⟩ => .inl (.inl (q _ _ v1))) ?_ ?_⟩
    · rintro i x σ H1 hi ⟨v4', v5', v6', rfl, s1⟩
      obtain ⟨b, kk, jx, j, rfl, hb, hj, gj⟩ := ver_at (ro := ro) v6 hi
      refine ⟨b, _, rfl, .inl (.inl (s1 _ _ hb)), rfl, _, _, rfl, _, _, rfl, rfl, ?_⟩
      refine ⟨_, rfl, _, rfl, jx, tv, D, F, j, rfl, ht.same s1, gF, W.d.same s1, hj.same s1, gj, fun H2 r s2 hr2 => ⟨_, rfl, ?_⟩⟩
      cases r with
      | true => exact iteE rfl ⟨_, rfl, k H2 kk (go_same (s1.trans s2)) (W.same (s1.trans s2)) ⟨vks, ckS (s1.trans s2)⟩⟩
      | false => exact iteEn rfl ⟨_, _, _, rfl, s1.trans s2⟩
    · rintro σ H1 ⟨v4', v5', v6', rfl, s1⟩
      have htk1 := s1 _ _ htk
      have hc1 := ckS s1
      refine ⟨_, rfl, A.t, CK K, A.dt, _, _, rfl, htk1, clK T, nK6 T, rfl, _, rfl, A.ck, cv, rfl, (by have q := DGet.k (k := Sum.inr nm) hc1.ck; rw [w1] at q; exact q), _, rfl, cv, tv, c, D, F, rfl, w2.same s1, w3, ht.same s1, gF, W.d.same s1, fun H2 fa b jx j s2 hfa hj gj => ?_⟩
      have s12 := s1.trans s2
      have W2 := W.same s12
      have htk2 := s12 _ _ htk
      have hc2 := ckS s12
      -- runs
      refine ⟨_, rfl, A.t, CK K, A.dt, _, _, rfl, htk2, clK T, nK8 T, rfl, _, _, rfl, rfl, _, rfl, A.t, CK K, A.dt, _, rfl, htk2, clK T, nK8 T, pLt (n := 9) (Nat.le_refl 9), ?_⟩
      obtain ⟨g3, W3⟩ := W2.runs T htk2 (rn + 1)
      have ef : putF "_runs" (V.int (rn + 1)) (tkF A p al rn) = tkF A p al (rn + 1) := rfl
      rw [ef]
      have htk3 : upd H2 A.t (.ins (CK K) A.dt (tkF A p al (rn + 1))) A.t = some (.ins (CK K) A.dt (tkF A p al (rn + 1))) := upd_same
      have ntva : va ≠ A.t := ne_ro v0 W.r.t (by decide)
      have v13 : upd H2 A.t (.ins (CK K) A.dt (tkF A p al (rn + 1))) va = some (.lst us) := by rw [upd_ne ntva]; exact s12 _ _ v1
      have hfa3 := g3.ev.t _ _ hfa
      have hj3 := hj.tx g3.ev.t
      have g23 := (go_same s12).trans g3
      have v63 : ∀ u ∈ us, ∃ (b : Addr) (k : Bool) (jx : V) (j : Jr), u = .ref b ∧ upd H2 A.t (.ins (CK K) A.dt (tkF A p al (rn + 1))) b = some (.tup [.bl k, jx]) ∧ Dt K (upd H2 A.t (.ins (CK K) A.dt (tkF A p al (rn + 1)))) jx (dJ j) ∧ GoodJ j := fun u hu => by
        obtain ⟨b, k, jx, j, q1, q2, q3, q4⟩ := v6 u hu
        exact ⟨b, k, jx, j, q1, g23.ev.t _ _ q2, q3.tx g23.ev.t, q4⟩
      have hc3 : CkAt K ro (upd H2 A.t (.ins (CK K) A.dt (tkF A p al (rn + 1)))) A cks vks ks := hc2.mv W2.r (go_upd (D := D) (X := fun m => decide (m = 51)) (by rw [W.r.t]; rfl) (by rw [htk2]; exact decide_eq_true (ne_kt T))) rfl rfl rfl
      generalize upd H2 A.t (.ins (CK K) A.dt (tkF A p al (rn + 1))) = H3 at g3 W3 htk3 v13 hfa3 hj3 g23 v63 hc3 ⊢
      -- verdicts
      refine ⟨_, rfl, small (m := 1) (Nat.le_refl 1), fun l1 hl1 => ⟨_, rfl, l1, va, _, _, rfl, rfl, upd_same, ?_, small (m := 10) (by show 1 + us.length ≤ 10; omega), fun l2 hl2 => ⟨_, rfl, l2, _, rfl, .inl (.inl upd_same), fun l3 hl3 => ?_⟩⟩⟩
      · rw [upd_ne (ne_of_none v13 hl1)]
        exact v13
      have s4 : Same H3 (upd H3 l1 (.lst [.ref fa])) := same_new hl1
      have s5 : Same (upd H3 l1 (.lst [.ref fa])) (upd (upd H3 l1 (.lst [.ref fa])) l2 (.lst ([.ref fa] ++ us))) := same_new hl2
      have s6 : Same (upd (upd H3 l1 (.lst [.ref fa])) l2 (.lst ([.ref fa] ++ us))) (upd (upd (upd H3 l1 (.lst [.ref fa])) l2 (.lst ([.ref fa] ++ us))) l3 (.lst (cutV ([.ref fa] ++ us) none (some 5)))) := same_new hl3
      have s46 := (s4.trans s5).trans s6
      have hl3n : H3 l3 = none := (s4.trans s5).free hl3
      have W6 := W3.same s46
      have hc6 : CkAt K ro (upd (upd (upd H3 l1 (.lst [.ref fa])) l2 (.lst ([.ref fa] ++ us))) l3 (.lst (cutV ([.ref fa] ++ us) none (some 5)))) A cks vks ks := hc3.mv W3.r (go_same (X := none_) (D := D) s46) rfl rfl rfl
      have hro : ro l3 = 0 := by
        cases q : ro l3 with
        | zero => rfl
        | succ m =>
          obtain ⟨o, e⟩ := W3.r.kn l3 (by rw [q]; omega)
          rw [hl3n] at e
          cases e
      have hV : VlAt K ro (upd (upd (upd H3 l1 (.lst [.ref fa])) l2 (.lst ([.ref fa] ++ us))) l3 (.lst (cutV ([.ref fa] ++ us) none (some 5)))) (.ref l3) := by
        refine ⟨l3, _, rfl, hro, upd_same, ?_, fun u hu => ?_⟩
        · rw [show (some (5 : Int)) = some ((5 : Nat) : Int) from rfl, cut_take, List.length_take]
          omega
        · rw [show (some (5 : Int)) = some ((5 : Nat) : Int) from rfl, cut_take] at hu
          rcases List.mem_append.mp (List.mem_of_mem_take hu) with h | h
          · rw [List.mem_singleton.mp h]
            exact ⟨fa, b, jx, j, rfl, s46 _ _ hfa3, hj3.same s46, gj⟩
          · obtain ⟨b', k', jx', j', q1, q2, q3, q4⟩ := v63 u h
            exact ⟨b', k', jx', j', q1, s46 _ _ q2, q3.same s46, q4⟩
      obtain ⟨g7, W7⟩ := W6.verd hc6 hk hm hV
      have vkl : vks.length = ks.length := by
        have := congrArg List.length hc.vkeys
        rw [List.length_map, List.length_map] at this
        exact this
      have hk4 := hc.len
      refine ⟨_, rfl, A.t, CK K, A.dt, _, _, rfl, (s46 _ _ htk3), clK T, nK7 T, rfl, _, rfl, A.vd, _, rfl, DPut.k (k := Sum.inr nm) hc6.vd (smallt (m := 10) (by omega)), ?_⟩
      have g37 := (g23.trans (go_same s46)).trans g7
      refine ⟨_, rfl, fa, _, 0, _, rfl, rfl, .inl (.inl (g7.ev.t _ _ (s46 _ _ hfa3))), rfl, ?_⟩
      refine k _ b g37 W7 ?_
      obtain ⟨cks', vks', ks', q1, q2⟩ := W7.ck
      have e1 : cks' = cks := by
        have h1 := q1.ck
        rw [upd_ne (ne_ro W.r.ck W.r.vd (by decide)), hc6.ck] at h1
        exact (HO.dK.inj (Option.some.inj h1)).symm
      have e2 : ks' = ks := by
        have h2 := q1.keys
        rw [e1, hc.keys] at h2
        exact (map_inj (fun _ _ h => Sum.inr.inj h) h2).symm
      rw [e1, e2] at q1
      exact ⟨vks', q1⟩
end
end Sa
/-! text E14 -/
/-! trunk.Trunk: submit -/
namespace Sa
open PySem PySem.Spec L2 PyProof.Rows
def accS (S : Sta) (n : Nat) (s : Ses) : Sta := { S with ses := S.ses.set n ⟨s.base, s.j, 2⟩ }
section
variable {P : Program} {w : World} {K : PySem.W.Frag} {mg : Str → Option Value} {base : Heap}
theorem Go.mut {D : List Addr} {ro : Addr → Nat} {X : Nat → Bool} {H H' : Hp} {p : Addr} {o : HO} (g : Go K D ro X H H') (h : H p = none) : Go K D ro X H (upd H' p o) := by
  have q : ∀ {a u}, H a = some u → a ≠ p := fun e => ne_of_none e h
  refine ⟨fun a u e n => by rw [upd_ne (q e)]; exact g.kp a u e n, fun a u e => by rw [upd_ne (q e)]; exact g.kn a u e, ⟨fun a xs e => by rw [upd_ne (q e)]; exact g.ev.t a xs e, fun a dx fs e => by rw [upd_ne (q e)]; exact g.ev.i a dx fs e, fun a kvs n e => by rw [upd_ne (q e)]; exact g.ev.d a kvs n e⟩⟩
theorem Go.role {D : List Addr} {ro ro' : Addr → Nat} {X : Nat → Bool} {H H' : Hp} (g : Go K D ro X H H') (h : ∀ a, X (ro' a) = X (ro a)) : Go K D ro' X H H' := ⟨fun a u e n => g.kp a u e (by rw [← h]; exact n), g.kn, g.ev⟩
theorem x50_role {ro : Addr → Nat} {p : Addr} {n : Nat} (h : ro p = 0) (hn : n < 50) (a : Addr) : X50 (ro a) = X50 (setR ro p n a) := by
  by_cases z : a = p
  · rw [z, setR_same, h]
    unfold X50
    rw [decide_eq_false (by omega), decide_eq_false (by omega)]
  · rw [setR_ne z]
theorem CkAt.unrole {ro : Addr → Nat} {p : Addr} {n : Nat} {H : Hp} {A : Ad} {cks vks : List (Key × V)} {ks : List Str} (h : CkAt K (setR ro p n) H A cks vks ks) (hn : n ≠ 0) : CkAt K ro H A cks vks ks := by
  refine ⟨h.ck, h.vd, h.keys, h.len, h.vkeys, h.nd, fun k hk => ?_⟩
  obtain ⟨cv, vv, c, q1, q2, q3, q4, a, us, q5, h0, h1, h2, h3⟩ := h.one k hk
  refine ⟨cv, vv, c, q1, q2, q3, q4, a, us, q5, ?_, h1, h2, h3⟩
  have z : a ≠ p := fun z => by
    rw [z, setR_same] at h0
    exact hn h0
  rw [setR_ne z] at h0
  exact h0
theorem TW.unrole {D : List Addr} {ro : Addr → Nat} {p : Addr} {n : Nat} {H : Hp} {A : Ad} {S : Sta} (w : TW K D (setR ro p n) H A S) (h0 : ro p = 0) (hn : n ≠ 0) (h50 : n < 50) : TW K D ro H A S := by
  have q : ∀ {a m}, setR ro p n a = m → 50 ≤ m → ro a = m := fun {a m} e hm => by
    have z : a ≠ p := fun z => by
      rw [z, setR_same] at e
      omega
    rw [setR_ne z] at e
    exact e
  obtain ⟨cks, vks, ks, hc, hk⟩ := w.ck
  refine ⟨⟨q w.r.t (by decide), q w.r.tl (by decide), q w.r.el (by decide), q w.r.sl (by decide), q w.r.ln (by decide), q w.r.ll (by decide), q w.r.ck (by decide), q w.r.vd (by decide), fun i a e => q (w.r.ss i a e) (by omega), fun a ha => w.r.kn a fun z => ?_⟩, w.d, w.dc, w.dv, w.tk, w.tl, w.el, w.sl, w.ln, cks, vks, ks, hc.unrole hn, hk⟩
  by_cases e : a = p
  · rw [e] at ha
    exact ha h0
  · rw [setR_ne e] at z
    exact ha z
theorem ro_new {D : List Addr} {ro : Addr → Nat} {H : Hp} {A : Ad} {S : Sta} {p : Addr} (W : TW K D ro H A S) (h : H p = none) : ro p = 0 := by
  cases q : ro p with
  | zero => rfl
  | succ m =>
    obtain ⟨o, e⟩ := W.r.kn p (by rw [q]; omega)
    rw [h] at e
    cases e
def spSubmit (K : PySem.W.Frag) : Sp := fun vs H Q _ => ∃ (D : List Addr) (ro : Addr → Nat) (A : Ad) (S : Sta) (n : Nat) (s : Ses) (Fn : Files), vs = [.ref A.t, .int (n : Int), .int (s.j.length : Int)] ∧ TW K D ro H A S ∧ InvS S ∧ S.ses.length ≤ 60 ∧ S.trees.length ≤ 100 ∧ S.ses[n]? = some s ∧ s.op = 0 ∧ S.trees[S.ents.length]? = some Fn ∧
  (∀ H' S' a, Go K D ro X50 H H' → TW K D ro H' A S' → MadeR (accS S n s) S' s.j (leadF Fn (s.j.map (·.1))) → H' a = some (.tup [.str "accepted", .int (S.trees.length : Int)]) → Q (.ref a) H') ∧
  (∀ (H' : Hp) (S' : Sta) (a : Addr) (k : Nat) (r : Ans) (y : V) (m : Nat), Go K D ro X50 H H' → TW K D ro H' A S' → RefR S S' n k s → changeF Fn 0 s.j = some (k, r) → H' a = some (.tup [.str "refused", .int (k : Int), y, .int (m : Int)]) → Dt K H' y (dR r) → s.base < m → m + 1 ≤ S.trees.length → Q (.ref a) H') ∧
  (∀ H' S' a, Go K D ro X50 H H' → TW K D ro H' A S' → InvS S' → S'.trees = S.trees → S'.ents = S.ents → S'.ses = S.ses → S'.nck = S.nck → (∀ r, S.line ≠ n :: r) → H' a = some (.tup [.str "waiting"]) → Q (.ref a) H') ∧
  ∀ H' a v, Go K D ro X50 H H' → TW K D ro H' A S → H' a = some (.tup [.str "failed", v]) → Q (.ref a) H'
theorem sc_Trunk_submit : FnScope ["self", "session", "position", "found", "change", "candidate", "failed", "name"] ["self", "session", "position"] (defScope m_Trunk_submit) := ⟨rfl, rfl, rfl, by decide +kernel, rfl, by decide +kernel, by decide +kernel⟩
theorem met_Trunk_submit (T : Tx K mg) : Met P w K mg base 14 (CK K) "submit" (spSubmit K) := by
  refine T.met 61 151 113 rfl rfl rfl (N := ["self", "session", "position", "found", "change", "candidate", "failed", "name"]) (ps := ["self", "session", "position"]) (fun _ _ _ _ _ _ us hl => match us, hl with | [_, _, _], _ => rfl) sc_Trunk_submit (fun vs H Q E h => ?_) (fun f cdv A0 outer s0 H vs Q E hr h => ?_)
  · obtain ⟨D, ro, A, S, n, s, Fn, rfl, _⟩ := h
    rfl
  · obtain ⟨D, ro, A, S, n, s, Fn, rfl, W, iS, h60, h100, hn, ho, hF, kA, kR, kW, kF⟩ := h
    obtain ⟨p, al, rn, htk⟩ := id W.tk
    have n1 := iS.n1
    have hlt := (List.getElem?_eq_some_iff.mp hn).1
    obtain ⟨gj, Fb, hFb, hb⟩ := iS.se n s hn
    have gFn := iS.tr Fn (List.mem_of_getElem? hF)
    have gL : GoodF (leadF Fn (s.j.map (·.1))) := goodF_lead gFn fun b hb => by
      obtain ⟨e, he, rfl⟩ := List.mem_map.mp hb
      exact (gj.1 e he).a
    generalize hL : leadF Fn (s.j.map (·.1)) = L at kA gL
    refine ⟨_, pss_cons (ps_set (i := 3) sc_Trunk_submit.nd rfl (by first | exact Or.inl rfl | exact Or.inr rfl) (pe_mt (met_Trunk_opened T) hr (by decide) (pv 0) (pa_cons (pv 1) pa_nil))) (pss_cons (ps_if (pt_cmpR op_ne (pv 2) (pe_callB call_len_seq (by rfl) (T.free 85) bv_len (pa_cons (pe_fld (pv 3) rfl) pa_nil)) (nomark _)) (pss_one (ps_never)) (pss_nil)) (pss_cons (ps_expr (pe_mt0 (met_Trunk_check_room T) hr (by decide) (pv 0))) (pss_cons (ps_set (i := 4) sc_Trunk_submit.nd rfl (by first | exact Or.inl rfl | exact Or.inr rfl) (pe_mt (met_Trunk_standing T) hr (by decide) (pv 0) (pa_cons (pv 1) pa_nil))) (pss_cons (ps_if (pt_cmp (pc_notN (pv 4))) (pss_cons (ps_expr (pe_mt (met_Trunk_refuse T) hr (by decide) (pv 0) (pa_cons (pv 1) (pa_cons (pe_ix ix_tup (pv 4) (pe_int) (fun _ _ => rfl)) pa_nil)))) (pss_one (ps_ret (pe_op op_catA (pe_tup (pa_cons (pe_str) pa_nil)) (pv 4))))) (pss_nil)) (pss_cons (ps_set (i := 5) sc_Trunk_submit.nd rfl (by first | exact Or.inl rfl | exact Or.inr rfl) (pe_c (cal_lead T) hr (by decide) rfl (pa_cons (pe_fld (pv 3) rfl) (pa_cons (pe_ix ix_list (pe_fld (pv 0) rfl) (pe_un un_neg (pe_int)) (fun _ _ => rfl)) pa_nil)))) (pss_cons (ps_if (pt_val (pe_mt (met_Trunk_is_barred T) hr (by decide) (pv 0) (pa_cons (pv 1) (pa_cons (pv 5) pa_nil)))) (pss_cons (ps_expr (pe_mt0 (met_Trunk_count_event T) hr (by decide) (pv 0))) (pss_one (ps_ret (pe_tup (pa_cons (pe_str) pa_nil))))) (pss_nil)) (pss_cons (ps_setLc (i := 6) (y := "failed") (own := [("name", 7)]) (g := gName 7) rfl sc_Trunk_submit.nd rfl rfl (sw_true rfl rfl rfl (by decide +kernel)) (pi_list (pe_callB (call_sortedD rfl) (by rfl) (T.free 90) bv_sorted (pa_cons (pe_fld (pv 0) rfl) pa_nil))) (blkOk_by (own := [("name", 7)]) (N := ["self", "session", "position", "found", "change", "candidate", "failed", "name"]) (sc := defScope m_Trunk_submit) (by decide +kernel)) (fun _ _ _ _ _ => pg_name (i := 7) sc_Trunk_submit.nd rfl (by first | exact Or.inl rfl | exact Or.inr rfl)) (fun _ _ _ _ _ => pts_one (pt_not (pt_val (pe_mt (met_Trunk_passes T) hr (by decide) (pv 0) (pa_cons (pv 7) (pa_cons (pv 5) pa_nil)))))) (fun _ _ _ _ _ => pv 7)) (pss_cons (ps_if (pt_truth (pv 6) (by intro _; rfl)) (pss_one (ps_ret (pe_tup (pa_cons (pe_str) (pa_cons (pe_callTy call_tuple_of (by rfl) (T.free 89) bv_tuple (pa_cons (pv 6) pa_nil)) pa_nil))))) (pss_nil)) (pss_cons (ps_fld (pv 3) (pe_str) rfl) (pss_one (ps_ret (pe_tup (pa_cons (pe_str) (pa_cons (pe_mt (met_Trunk_make T) hr (by decide) (pv 0) (pa_cons (pe_fld (pv 3) rfl) (pa_cons (pe_fld (pv 3) rfl) (pa_cons (pv 5) (pa_cons (pv 1) pa_nil))))) pa_nil)))))))))))))), ?_⟩
    refine ⟨_, rfl, A.t, A.dt, _, rfl, htk, rfl, _, rfl, D, ro, A, S, n, s, rfl, W, hn, ho, fun a ha hs => ?_⟩
    obtain ⟨dx, nm, jx, rf, q1, q2⟩ := id hs
    obtain ⟨jt, js, rfl, hjt, hjd⟩ := Dt.tupI q2
    have jl : js.length = s.j.length := by rw [hjd.length, List.length_map]
    refine ⟨_, rfl, _, rfl, a, CS K, dx, _, _, rfl, q1, clS T, nS2 T, rfl, jt, js, rfl, .inr hjt.sq, rfl, _, rfl, iteEn ?_ ?_⟩
    · rw [jl, decide_eq_true rfl]
      rfl
    refine ⟨_, rfl, A.t, A.dt, _, rfl, htk, rfl, D, ro, A, S, rfl, W, by omega, h100, ?_⟩
    refine ⟨_, rfl, A.t, A.dt, _, rfl, htk, rfl, _, rfl, D, ro, A, S, n, s, Fn, rfl, W, iS, hn, ho, hF, fun H1 s1 hh => ?_, fun H1 c k r y m s1 hch hc hy hm1 hm2 => ?_⟩
    · -- it stands
      have W1 := W.same s1
      have htk1 := s1 _ _ htk
      have q11 := s1 _ _ q1
      obtain ⟨tvs, h1, h2⟩ := id W1.tl
      have htl := pair_len h2
      obtain ⟨tv, t1, t2⟩ := pair_get h2 (last_at iS hF)
      have hlast : atI tvs (-1) = some tv := atI_end htl (by omega) t1
      refine ⟨_, rfl, _, rfl, iteEn rfl ?_⟩
      refine ⟨_, rfl, a, CS K, dx, _, _, rfl, q11, clS T, nS2 T, rfl, _, rfl, A.t, CK K, A.dt, _, _, rfl, htk1, clK T, nK2 T, rfl, _, rfl, A.tl, tvs, (-1 : Int), tv, rfl, rfl, .inl (.inl h1), hlast, .ref jt, tv, D, Fn, s.j, rfl, t2, gFn, W1.d, q2.same s1, gj, fun H2 cv s2 hcv => ?_⟩
      rw [hL] at hcv
      have s12 := s1.trans s2
      have W2 := W.same s12
      have htk2 := s12 _ _ htk
      refine ⟨_, rfl, A.t, A.dt, _, rfl, htk2, rfl, _, rfl, _, rfl, D, ro, A, S, n, cv, L, rfl, W2, iS, hcv, gL, fun H3 b s3 hbt hbf => ⟨_, rfl, ?_⟩⟩
      have s13 := s12.trans s3
      have W3 := W.same s13
      have htk3 := s13 _ _ htk
      cases b with
      | true =>
        obtain ⟨m0, r0, hl0, hne0, hml0⟩ := hbt rfl
        refine iteE rfl ⟨_, rfl, A.t, A.dt, _, rfl, htk3, rfl, D, ro, A, S, m0, r0, rfl, W3, hl0, hml0, fun H4 S4 g4 W4 hS4 => ⟨small (m := 1) (Nat.le_refl 1), fun q hq => ?_⟩⟩
        have g := ((go_same s13).trans g4).trans (go_same (same_new (o := .tup [.str "waiting"]) hq))
        have hlr : ∀ r, S.line ≠ n :: r := fun r e => by
          rw [hl0] at e
          cases e
          exact hne0 rfl
        rcases hS4 with rfl | rfl
        · exact kW _ S4 q g (W4.same (same_new hq)) iS rfl rfl rfl rfl hlr upd_same
        · refine kW _ _ q g (W4.same (same_new hq)) ⟨iS.tr, iS.n1, iS.ch, iS.se, fun x hx => iS.ln x (by rw [hl0]; exact List.mem_cons_of_mem _ hx), (by have := iS.nd; rw [hl0] at this; exact (List.nodup_cons.mp this).2), fun hp => nomatch hp⟩ rfl rfl rfl rfl hlr upd_same
      | false =>
        have hbf' := hbf rfl
        refine iteEn rfl ?_
        obtain ⟨cks, vks, ks, hck, hnk⟩ := id W3.ck
        refine ⟨_, rfl, A.t, CK K, A.dt, _, _, rfl, htk3, clK T, nK6 T, rfl, A.ck, cks, ks, rfl, .inl hck.ck, hck.keys, by have := hck.len; omega, fun ys pl hperm hsort hpl => ?_⟩
        have sP : Same H3 (upd H3 pl (.lst (ys.map V.str))) := same_new hpl
        have W4 := W3.same sP
        have s14 := s13.trans sP
        have hpl4 : upd H3 pl (.lst (ys.map V.str)) pl = some (.lst (ys.map V.str)) := upd_same
        have hck4 : CkAt K ro (upd H3 pl (.lst (ys.map V.str))) A cks vks ks := hck.mv W3.r (go_same (X := none_) (D := D) sP) rfl rfl rfl
        have hcv4 := hcv.same (s3.trans sP)
        have htk4 := s14 _ _ htk
        have ropl : ro pl = 0 := ro_new W3 hpl
        have yl : ys.length = ks.length := hperm.length_eq
        have hk4 := hck.len
        generalize upd H3 pl (.lst (ys.map V.str)) = H4 at sP W4 s14 hpl4 hck4 hcv4 htk4 ⊢
        refine ⟨pl, rfl, ⟨_, .inl (.inl hpl4)⟩, fun B hB => ?_⟩
        have roB : ro B = 0 := ro_new W4 hB
        have nBp : pl ≠ B := ne_of_none hpl4 hB
        refine lc_list (xs := ys.map V.str) (fun i H' => Go K D ro X50 H4 H' ∧ TW K D (setR ro B 30) H' A S ∧ (∃ vks', CkAt K (setR ro B 30) H' A cks vks' ks) ∧ ∃ vs, H' B = some (.lst vs) ∧ vs.length ≤ i) ⟨go_same (same_new hB), W4.fresh 30 _ hB, ⟨vks, ?_⟩, [], upd_same, Nat.le_refl 0⟩ (fun i H' _ q => .inl (.inl (q.1.kp _ _ hpl4 (by rw [ropl]; rfl)))) ?_ ?_
        · have sB : Same H4 (upd H4 B (.lst [])) := same_new hB
          have q := hck4.fresh (n := 30) hB
          refine ⟨sB _ _ q.ck, sB _ _ q.vd, q.keys, q.len, q.vkeys, q.nd, fun k hk => ?_⟩
          obtain ⟨cv, vv, c, e1, e2, e3, e4, e5⟩ := q.one k hk
          exact ⟨cv, vv, c, e1, e2.same sB, e3, e4, e5.mv (go_same (X := none_) (D := D) sB) rfl⟩
        · rintro i y H5 hi ⟨g5, W5, ⟨vks5, hc5⟩, vs, hl5, hvl⟩
          rw [List.getElem?_map] at hi
          obtain ⟨nm1, hnm1, rfl⟩ := Option.map_eq_some_iff.mp hi
          have hi4 : i < 4 := by
            have := (List.getElem?_eq_some_iff.mp hnm1).1
            omega
          have hin : nm1 ∈ ks := hperm.mem_iff.mp (List.mem_of_getElem? hnm1)
          have htk5 : ∃ p5 al5 rn5 : Int, H5 A.t = some (.ins (CK K) A.dt (tkF A p5 al5 rn5)) := W5.tk
          obtain ⟨p5, al5, rn5, htk5⟩ := htk5
          refine ⟨rfl, _, rfl, A.t, A.dt, _, rfl, htk5, rfl, _, rfl, _, rfl, D, setR ro B 30, A, S, nm1, cv, L, cks, vks5, ks, rfl, W5, hc5, hnk, hin, hcv4.ev g5.ev, gL, fun H6 b6 g6 W6 hc6 => ⟨_, rfl, ?_⟩⟩
          have hl6 : H6 B = some (.lst vs) := g6.kp _ _ hl5 (by rw [setR_same]; rfl)
          have g46 : Go K D ro X50 H4 H6 := g5.trans (g6.role fun a => x50_role roB (by decide) a)
          cases b6 with
          | true => exact iteEn rfl ⟨g46, W6, hc6, vs, hl6, by omega⟩
          | false =>
            have gB : Go K D (setR ro B 30) (fun m => decide (m = 30)) H6 (upd H6 B (.lst (vs ++ [.str nm1]))) := go_upd (by rw [setR_same]; rfl) (by rw [hl6]; rfl)
            obtain ⟨vks6, hc6⟩ := hc6
            refine iteE rfl ⟨_, rfl, vs, hl6, smallt (m := 10) (by omega), g46.mut hB, W6.mv gB rfl fun m hm => decide_eq_false (by omega), ⟨vks6, hc6.mv W6.r gB rfl rfl rfl⟩, _, upd_same, ?_⟩
            rw [List.length_append]
            show vs.length + 1 ≤ i + 1
            omega
        · rintro H5 ⟨g5, W5', _, vs, hl5, hvl⟩
          have W5 := W5'.unrole roB (by decide) (by decide)
          have g15 := (go_same s14).trans g5
          refine ⟨_, rfl, !vs.isEmpty, .inl ⟨vs, .inl (.inl hl5), rfl⟩, ?_⟩
          cases vs with
          | cons v0 vr =>
            refine iteE rfl ⟨_, rfl, B, _, rfl, .inl ⟨.inl (.inl hl5), fun l hl' => ⟨small (m := 2) (Nat.le_refl 2), fun q hq => ?_⟩⟩⟩
            have s6 : Same H5 (upd H5 l (.tup (v0 :: vr))) := same_new hl'
            have s7 := s6.trans (same_new (o := .tup [.str "failed", .ref l]) hq)
            exact kF _ q (.ref l) (g15.trans (go_same s7)) (W5.same s7) upd_same
          | nil =>
            refine iteEn rfl ?_
            obtain ⟨s', hs', dx5, nm5, jx5, rf5, r1, r2⟩ := pair_getL W5.sl.2 ha
            rw [hn] at hs'
            cases hs'
            refine ⟨_, rfl, a, CS K, dx5, _, rfl, r1, clS T, nS4 T, pLt (n := 5) (Nat.le_refl 5), ?_⟩
            obtain ⟨g6, W6⟩ := W5.ses T hn ha s.base s.j 2 r2 (nm := nm5) (rf := rf5) (dx := dx5)
            have ef : putF "state" (V.str "accepted") (seF nm5 s.base jx5 rf5 (stS s.op)) = seF nm5 s.base jx5 rf5 (stS 2) := rfl
            rw [ef]
            have q6 : upd H5 a (.ins (CS K) dx5 (seF nm5 s.base jx5 rf5 (stS 2))) a = some (.ins (CS K) dx5 (seF nm5 s.base jx5 rf5 (stS 2))) := upd_same
            have hj6 := r2.tx g6.ev.t
            have hcv6 := (hcv4.ev g5.ev).ev g6.ev
            generalize upd H5 a (.ins (CS K) dx5 (seF nm5 s.base jx5 rf5 (stS 2))) = H6 at g6 W6 q6 hj6 hcv6 ⊢
            obtain ⟨p6, al6, rn6, htk6⟩ := id W6.tk
            have iA : InvS (accS S n s) := iS.setS hn s.j 2 gj fun F hF' => by
              rw [hFb] at hF'
              cases hF'
              exact hb
            have iG : InvS { grown (accS S n s) s.j L with prot := false } := grown_inv iA (Fn := Fn) hF gj hh hL.symm gL
            refine ⟨_, rfl, A.t, A.dt, _, rfl, htk6, rfl, _, rfl, a, CS K, dx5, _, _, rfl, q6, clS T, nS0 T, rfl, _, rfl, a, CS K, dx5, _, _, rfl, q6, clS T, nS2 T, rfl, _, rfl, _, rfl, D, ro, A, accS S n s, .str nm5, jx5, cv, n, s.j, L, rfl, W6, iG, iA, h100, hj6, hcv6, fun hp m r q hl hne hq => ?_, fun H7 S7 g7 W7 hM => ⟨small (m := 2) (Nat.le_refl 2), fun q hq => ?_⟩⟩
            · refine hbf' hp m r q hl hne ?_
              change (S.ses.set n _)[m]? = some q at hq
              rw [List.getElem?_set_ne (Ne.symm hne)] at hq
              exact hq
            · have s8 : Same H7 (upd H7 q (.tup [.str "accepted", .int (S.trees.length : Int)])) := same_new hq
              exact kA _ S7 q (((g15.trans g6).trans g7).trans (go_same s8)) (W7.same s8) hM upd_same
    · -- it is refused
      have W1 := W.same s1
      have htk1 := s1 _ _ htk
      obtain ⟨_, en, c1, c2, c3⟩ := change_some hch
      rw [Nat.sub_zero] at c1 c3
      have hkl : k < s.j.length := (List.getElem?_eq_some_iff.mp c1).1
      refine ⟨_, rfl, _, rfl, iteE rfl ?_⟩
      refine ⟨_, rfl, A.t, A.dt, _, rfl, htk1, rfl, _, rfl, _, rfl, c, _, 0, _, rfl, rfl, .inl (.inl hc), rfl, D, ro, A, S, n, k, s, Fn, rfl, W1, iS, h60, hn, ho, by omega, hF, c3, fun H2 S2 g2 W2 hR => ?_⟩
      refine ⟨small (m := 1) (Nat.le_refl 1), fun e he => ⟨_, rfl, e, c, [.str "refused"], [.int (k : Int), y, .int (m : Int)], rfl, rfl, .inl (.inl upd_same), .inl (.inl ?_), small (m := 4) (Nat.le_refl 4), (fun z => by cases z), (fun _ z => by cases z), fun _ _ q hq => ?_⟩⟩
      · rw [upd_ne (ne_of_none (g2.ev.t _ _ hc) he)]
        exact g2.ev.t _ _ hc
      · have s3 : Same H2 (upd H2 e (.tup [.str "refused"])) := same_new he
        have s4 := s3.trans (same_new (o := .tup [.str "refused", .int (k : Int), y, .int (m : Int)]) hq)
        exact kR _ S2 q k r y m (((go_same s1).trans g2).trans (go_same s4)) (W2.same s4) hR hch upd_same ((hy.tx g2.ev.t).same s4) hm1 hm2
end
end Sa
/-! text G0 -/
/-! Rules that were lacking: repr of data (where no repr is under way), text * int, dict == {}; defs that are entered with no repr under way. -/
namespace Sa
open PySem PySem.Spec L2 PyProof.Rows
section
variable {X : Cx}
/-- repr of data -/
def rReprD (K : PySem.W.Frag) : List V → Hp → VK → Prop := fun xs H Q => ∃ (a : Addr) (d : PyData), xs = [V.ref a] ∧ Dp K H (V.ref a) d ∧ d.showable = true ∧ d.hasDict = false ∧ d.depth ≤ 60 ∧ d.shown.length ≤ sizeLine ∧ Q (.str d.shown) H
theorem call_reprD {k : Nat} (hg : X.A.guards = some []) (hr : Room k X.A) : CallR X (.builtin "repr") (rReprD X.K) := by
  intro pins s σ H xs us Q I r h
  obtain ⟨a, d, rfl, hd, hs, hn, hp, hz, q⟩ := h
  have e : us = [Value.ref a] := Vals.ref1 r
  subst e
  obtain ⟨as, rd⟩ := Dp.reads I d (.ref a) (.ref a) hd rfl
  have hu := hr.un
  refine repr_of_reads' rd hs (fun z => by rw [hn] at z; cases z) hg (by omega) (fun _ _ e => e) (fun h' u tk hk => ?_) hz
  exact ⟨.str d.shown, H, I.kept (t' := tk) hk, ⟨_, rfl⟩, q⟩
/-- text * a small count -/
def rMulS : R2 := fun x y H Q => ∃ (z : Str) (n : Int), x = .str z ∧ y = .int n ∧ MulOk z n ∧ Q (.str (Txt.mul z n)) H
theorem op_mulS : OpR X (binaryOp .Mult) rMulS := by
  intro pins s σ H x y v u Q I rx ry h
  obtain ⟨z, n, rfl, rfl, hok, q⟩ := h
  obtain ⟨t, rfl⟩ := rx
  obtain ⟨t2, rfl⟩ := ry
  exact SB.mul hok fun t' k => ⟨.str _, H, I.kept (t' := k) fun _ _ e => e, ⟨_, rfl⟩, q⟩
/-- a dict == an empty dict -/
def rEqD0 : R2 := fun x y H Q => ∃ a b ks, x = .ref a ∧ y = .ref b ∧ H a = some (.dK ks) ∧ H b = some (.dK []) ∧ Q (.bl ks.isEmpty) H
theorem op_eqD0 (hu : X.A.units < cLine) : OpR X (compareOp .Eq) rEqD0 := by
  intro pins s σ H x y v u Q I rx ry h
  obtain ⟨a, b, ks, rfl, rfl, ea, eb, q⟩ := h
  obtain rfl : v = Value.ref a := rx
  obtain rfl : u = Value.ref b := ry
  obtain ⟨_, ya, va, ra, da⟩ := (show ObjOk X.prog X.w H s.heap a (.dK ks) from I.hok a _ ea)
  obtain ⟨_, yb, vb, rb, db⟩ := (show ObjOk X.prog X.w H s.heap b (.dK []) from I.hok b _ eb)
  have h1 : ks.length = va.length := ra.length
  have h2 : vb.length = 0 := rb.length.symm
  refine PySem.W.keq_eq (knd := mixKind X.prog X.w) (r := true) ya yb da db hu (fun he => ?_) (fin_bl I q ?_)
  · have e0 : ks = [] := List.length_eq_zero_iff.mp (by omega)
    subst e0
    exact hits_all rb ra fun p hp => absurd hp (by simp)
  · rw [h2, ← h1, Bool.and_true]
    cases ks <;> rfl
end
/-! ### entered with no repr under way -/
structure FnG (P : Program) (w : World) (K : PySem.W.Frag) (mg : Str → Option Value) (base : Heap) (CX : CXT) (k : Nat) (f : Addr) (fd : FuncData) (ps : List Str) (sp : Sp) : Prop where
  len : ∀ vs H Q E, sp vs H Q E → vs.length = ps.length
  run : ∀ (A : Around) (outer : List Env) (s : Shared) (H : Hp) (args : Args) (us : List Value) (vs : List V) (Q : VK) (E : XK), A.guards = some [] → Room k A → Env0 P w K mg base A outer s H → BindsTo s fd args (ps.zip us) → Vals vs us → sp vs H Q E →
    codeAny (model P w) A (.call (.ref f) args) (CR CX outer P w H s Q E) s
structure CalG (P : Program) (w : World) (K : PySem.W.Frag) (mg : Str → Option Value) (base : Heap) (k : Nat) (x : Str) (sp : Sp) : Prop where
  ex : ∃ (f : Addr) (fd : FuncData) (ps : List Str), FnG P w K mg base CX0 k f fd ps sp ∧ mg x = some (.ref f) ∧ PySem.W.keepIn K (.ref f) = true ∧ Binds K fd ps []
section
variable {X : Cx} {k j : Nat} {x : Str} {sp : Sp} {p pos : Pos} {e : Expr} {es : List Expr} {t : TA}
theorem pe_cG (c : CalG X.prog X.w X.K X.mg X.base k x sp) (hgu : X.A.guards = some []) (hr : Room j X.A) (hk : k ≤ j) (hg : Gl X x) (ha : PA X (e :: es) t)
    (hdb : (x == ("__debug__" : Str)) = false := by decide) (he : starEach (e :: es) X.env = (false, eval e X.env) :: starEach es X.env := by rfl) (hpl : (backTo pos (starEach es X.env)).any (·.1) = false := by rfl) :
    PE X (.Call (.Name x p) (e :: es) [] pos) (tCall sp [] E0 t) := by
  obtain ⟨f, fd, ps, F, hm, kp, b⟩ := c.ex
  refine ⟨fun pins s σ H Q I h => ?_⟩
  refine wpAny_Call_Name_kw (ld_glob I hg hm ?_ hdb)
  refine PySem.W.callWith_K (h₀ := X.base) I.ok.mod.kin kp (thn (ha.run pos pins s σ H _ I h) fun us s1 ⟨vs, H1, I1, r, q⟩ => ⟨I1.kIn, ?_⟩) he hpl
  have q0 : sp vs H1 Q E0 := by
    have q' : sp (vs ++ []) H1 Q E0 := q
    rw [List.append_nil] at q'
    exact q'
  have hl : us.length = ps.length := by rw [← r.length]; exact F.len _ _ _ _ q0
  have hb0 := b s1 us I1.kIn
  rw [List.append_nil] at hb0
  refine wpAny_call (codeAny_mono (F.run X.A X.stack s1 H1 ⟨us, []⟩ us vs Q E0 hgu (hr.mono hk) I1.env0 (hb0 hl) r q0) fun r s' hq => ?_)
  cases r with
  | error e => exact hq.elim
  | ok fl =>
    cases fl with
    | ret u => exact I1.after hq
    | next => exact False.elim hq
    | brk => exact False.elim hq
    | cont => exact False.elim hq
end
section
variable {P : Program} {w : World} {K : PySem.W.Frag} {mg : Str → Option Value} {base : Heap}
/-- a def, by its body, entered with no repr under way -/
theorem fn_ofG {k : Nat} {f : Addr} {name qual : Str} {params : Arguments} {body : List Stmt} {scope : Scope} {dV kV doc pm cdv ct oc : Value} {an od : Option Addr} {osl : Array (Option Value)} {N ps : List Str} {sp : Sp}
    (lk : K.lookup f = some ⟨oc, od, .func (PySem.W.fnOf name qual params body scope dV kV doc pm an cdv ct), osl⟩) (hcd : PySem.W.codeIn K cdv qual = true) (S : FnScope N ps scope) (len : ∀ vs H Q E, sp vs H Q E → vs.length = ps.length)
    (hbody : ∀ (A : Around) (outer : List Env) (s : Shared) (H : Hp) (vs : List V) (Q : VK) (E : XK), A.guards = some [] → Room k (A.deeper (envOfC qual scope s.heap.objs.size f cdv)) → sp vs H Q E →
      ∃ t, PSs (cxOf CX0 P w K mg base N qual scope f cdv A outer s H E) body t ∧ t { nx := fun _ H' => Q .non H', rt := Q } (start N vs) H) :
    FnG P w K mg base CX0 (k + 1) f (PySem.W.fnOf name qual params body scope dV kV doc pm an cdv ct) ps sp := by
  refine ⟨len, fun A outer s H args us vs Q E hgu hr e0 hb r hsp => ?_⟩
  have hl := len _ _ _ _ hsp
  have KX : K.In s.heap := e0.mod.kin.keeps fun b o e => (e0.bs b o e).1
  have lim : s.heap.NoLimit := e0.mod.nolimit.keeps fun b o e => (e0.bs b o e).1
  have hkind : ∀ y ∈ ps.zip us, scope.names.lookup y.1 = some .local ∨ (scope.names.lookup y.1 = some .cell ∧ ((cellsFrom (s.heap.objs.size + 1) scope.names []).lookup y.1).isSome = true) := fun y hy => by
    rcases S.par y.1 (List.of_mem_zip hy).1 with q | q
    · exact .inl q
    · exact .inr ⟨q, PySem.W.cellsFrom_some _ _ _ (.inl q)⟩
  refine codeAny_call_function hr.depth (KX _ _ lk) rfl S.co S.gen rfl (PySem.W.codeRec_of KX hcd) (hb _ _ _ _ ?_)
  refine wpAny_newFunctionEnv_cells S.kind hkind fun env he s1 x => ?_
  subst he
  refine ⟨lim.keeps x.toInCall.keep, codeAny_func ?_⟩
  obtain ⟨t, ht, hq⟩ := hbody A outer s H vs Q E hgu (hr.deeper _) hsp
  have I : Inv (cxOf CX0 P w K mg base N qual scope f cdv A outer s H E) [] (start N vs) H s1 := inv_start S hr.hd e0 hl r x
  refine wpAny_mono (ht.run [] s1 (start N vs) H _ I hq) (fun fl s' hs => ?_) fun e s' hs => hs
  cases fl with
  | ret u =>
    obtain ⟨v, σ', H', J, rv, q⟩ := hs
    exact ⟨v, H', J.os, J.bare, J.base, J.hok, rv, q⟩
  | next =>
    obtain ⟨σ', H', J, q⟩ := hs
    exact ⟨.non, H', J.os, J.bare, J.base, J.hok, rfl, q⟩
  | brk =>
    obtain ⟨_, _, _, q⟩ := hs
    exact q.elim
  | cont =>
    obtain ⟨_, _, _, q⟩ := hs
    exact q.elim
abbrev BodyG (P : Program) (w : World) (K : PySem.W.Frag) (mg : Str → Option Value) (base : Heap) (q : Str) (st : Stmt) (N : List Str) (k : Nat) (sp : Sp) : Prop :=
  ∀ (f : Addr) (cdv : Value) (A : Around) (outer : List Env) (s : Shared) (H : Hp) (vs : List V) (Q : VK) (E : XK), A.guards = some [] → Room k (A.deeper (envOfC q (defScope st) s.heap.objs.size f cdv)) → sp vs H Q E →
    ∃ t, PSs (cxOf CX0 P w K mg base N q (defScope st) f cdv A outer s H E).nox (defBody st) t ∧ t { nx := fun _ H' => Q .non H', rt := Q } (start N vs) H
theorem Tx.fnG (T : Tx K mg) (i : Nat) {x : Str} {st : Stmt} {N ps : List Str} {k : Nat} {sp : Sp} (hf : fn[i]? = some ⟨(x, none), x, x, st, false⟩)
    (S : FnScope N ps (defScope st)) (len : ∀ vs H Q E, sp vs H Q E → vs.length = ps.length) (body : BodyG P w K mg base x st N k sp) : ∃ fd, Fun K x x st (He.fAd K (x, none)) fd ∧ FnG P w K mg base CX0 (k + 1) (He.fAd K (x, none)) fd ps sp := by
  obtain ⟨fd, F⟩ := T.fun_ i hf
  refine ⟨fd, F, ?_⟩
  obtain ⟨oc, od, kV, doc, pm, an, cdv, ct, osl, rfl, lk, hcd⟩ := F.ex
  refine fn_ofG lk hcd S len fun A outer s H vs Q E hgu hr hsp => ?_
  obtain ⟨t, h, q⟩ := body _ cdv A outer s H vs Q E hgu hr hsp
  exact ⟨t, h.nox, q⟩
theorem Tx.calG (T : Tx K mg) (i j : Nat) {x : Str} {st : Stmt} {N ps : List Str} {k : Nat} {sp : Sp} (hf : fn[i]? = some ⟨(x, none), x, x, st, false⟩) (hg : fa[j]? = some (.glo x))
    (hb : BindQ x x st ps) (S : FnScope N ps (defScope st)) (len : ∀ vs H Q E, sp vs H Q E → vs.length = ps.length) (body : BodyG P w K mg base x st N k sp) : CalG P w K mg base (k + 1) x sp := by
  obtain ⟨fd, F, G⟩ := T.fnG i hf S len body
  have b : Binds K fd ps [] := F.binds hb
  exact ⟨_, fd, ps, G, T.glo j hg, F.kp, b⟩
end
end Sa
/-! text H1 -/
/-! the law: draws -/
namespace Sa
open PySem PySem.Spec L2 PyProof.Rows
section
variable {P : Program} {w : World} {K : PySem.W.Frag} {mg : Str → Option Value} {base : Heap}
/-- all but the box stays -/
def BK (b : Addr) (H H' : Hp) : Prop := ∀ a o, H a = some o → a ≠ b → H' a = some o
theorem BK.refl (b : Addr) (H : Hp) : BK b H H := fun _ _ h _ => h
theorem BK.trans {b : Addr} {H H1 H2 : Hp} (x : BK b H H1) (y : BK b H1 H2) : BK b H H2 := fun a o h n => y a o (x a o h n) n
theorem bk_same {b : Addr} {H H' : Hp} (s : Same H H') : BK b H H' := fun a o h _ => s a o h
theorem bk_upd {b : Addr} {H : Hp} {o : HO} : BK b H (upd H b o) := fun a u h n => by rw [upd_ne n]; exact h
theorem BK.mut {b p : Addr} {H H' : Hp} {o : HO} (x : BK b H H') (h : H p = none) : BK b H (upd H' p o) := fun a u e n => by rw [upd_ne (ne_of_none e h)]; exact x a u e n
/-- the box: its digits (at dl) and how many were drawn -/
def BoxAt (H : Hp) (b dl : Addr) : Prop := ∃ (n : Nat) (ns : List Int), H b = some (.lst [.ref dl, .int (n : Int)]) ∧ dl ≠ b ∧ H dl = some (.lst (ns.map V.int)) ∧ ns.length ≤ 10000
theorem BoxAt.same {H H' : Hp} {b dl : Addr} (x : BoxAt H b dl) (s : Same H H') : BoxAt H' b dl := by
  obtain ⟨n, ns, h1, h2, h3, h4⟩ := x
  exact ⟨n, ns, s _ _ h1, h2, s _ _ h3, h4⟩
theorem BoxAt.nb {H : Hp} {b dl p : Addr} (x : BoxAt H b dl) (h : H p = none) : b ≠ p ∧ dl ≠ p := by
  obtain ⟨n, ns, h1, h2, h3, h4⟩ := x
  exact ⟨ne_of_none h1 h, ne_of_none h3 h⟩
theorem BoxAt.mut {H : Hp} {b dl p : Addr} {o : HO} (x : BoxAt H b dl) (h : b ≠ p ∧ dl ≠ p) : BoxAt (upd H p o) b dl := by
  obtain ⟨n, ns, h1, h2, h3, h4⟩ := x
  exact ⟨n, ns, by rw [upd_ne h.1]; exact h1, h2, by rw [upd_ne h.2]; exact h3, h4⟩
theorem BK.tx {b dl : Addr} {H H' : Hp} (k : BK b H H') (x : BoxAt H b dl) : TX H H' := fun a xs e => k a _ e fun z => by
  obtain ⟨n, ns, h1, _⟩ := x
  rw [z, h1] at e
  cases e
def spCell (K : PySem.W.Frag) : Sp := fun vs H Q _ => ∃ (a : Addr) (ns : List Int) (k : Nat), vs = [.ref a, .int (k : Int)] ∧ SqL K H a (ns.map V.int) ∧ ∀ i : Int, Q (.int i) H
theorem sc_law_cell : FnScope ["_law_script", "_law_k"] ["_law_script", "_law_k"] (defScope s_law_cell) := ⟨rfl, rfl, rfl, by decide +kernel, rfl, by decide +kernel, by decide +kernel⟩
theorem cal_law_cell (T : Tx K mg) : Cal P w K mg base 1 "_law_cell" (spCell K) := by
  refine T.cal 68 30 (f_at (x := "_law_cell") rfl) (g_at rfl) (N := ["_law_script", "_law_k"]) (ps := ["_law_script", "_law_k"]) (fun _ _ _ _ _ _ us hl => match us, hl with | [_, _], _ => rfl) sc_law_cell (fun vs H Q E h => ?_) (fun f cdv A outer s H vs Q E hr h => ?_)
  · obtain ⟨a, ns, k, rfl, _⟩ := h
    rfl
  · obtain ⟨a, ns, n, rfl, hs, k⟩ := h
    refine ⟨_, pss_cons (ps_if (pt_cmpR op_lt (pv 1) (pe_callB call_len_seq (by rfl) (T.free 85) bv_len (pa_cons (pv 0) pa_nil)) (nomark _)) (pss_one (ps_ret (pe_ix ix_list (pv 0) (pv 1) (fun _ _ => rfl)))) (pss_nil)) (pss_one (ps_ret (pe_int))), ?_⟩
    refine ⟨_, rfl, _, rfl, a, _, rfl, .inl hs, _, _, rfl, rfl, _, rfl, ?_⟩
    by_cases h : n < ns.length
    · refine iteP (by rw [List.length_map]; omega) ⟨_, rfl, _, rfl, a, _, (n : Int), .int (ns[n]), rfl, rfl, hs, atI_nat ?_, k _⟩
      rw [List.getElem?_map, List.getElem?_eq_getElem h]
      rfl
    · exact iteN (by rw [List.length_map]; omega) (k 0)
def spDigits (K : PySem.W.Frag) : Sp := fun vs H Q _ => ∃ (a : Addr) (ns : List Int), vs = [.ref a, .int 0, .int 63] ∧ SqL K H a (ns.map V.int) ∧ ∀ (H' : Hp) (l : Addr) (ms : List Int), Same H H' → H l = none → H' l = some (.lst (ms.map V.int)) → ms.length ≤ 10000 → Q (.ref l) H'
theorem sc_law_digits : FnScope ["_law_script", "_law_first", "_law_last", "_law_digits_here", "_law_k", "_law_cell_here", "_law_turn", "_law_seed"] ["_law_script", "_law_first", "_law_last"] (defScope s_law_digits) := ⟨rfl, rfl, rfl, by decide +kernel, rfl, by decide +kernel, by decide +kernel⟩
theorem cal_law_digits (T : Tx K mg) : Cal P w K mg base 2 "_law_digits" (spDigits K) := by
  refine T.cal 69 31 (f_at (x := "_law_digits") rfl) (g_at rfl) (N := ["_law_script", "_law_first", "_law_last", "_law_digits_here", "_law_k", "_law_cell_here", "_law_turn", "_law_seed"]) (ps := ["_law_script", "_law_first", "_law_last"]) (fun _ _ _ _ _ _ us hl => match us, hl with | [_, _, _], _ => rfl) sc_law_digits (fun vs H Q E h => ?_) (fun f cdv A outer s H vs Q E hr h => ?_)
  · obtain ⟨a, ns, rfl, _⟩ := h
    rfl
  · obtain ⟨a, ns, rfl, hs, k⟩ := h
    refine ⟨_, pss_cons (ps_set (i := 3) sc_law_digits.nd rfl (by first | exact Or.inl rfl | exact Or.inr rfl) (pe_lst (pa_nil))) (pss_cons (ps_for PassesOwn.never rfl (pi_range2 rfl (T.free 92) (pa_cons (pv 1) (pa_cons (pv 2) pa_nil))) (pg_name (i := 4) sc_law_digits.nd rfl (by first | exact Or.inl rfl | exact Or.inr rfl)) (pss_cons (ps_set (i := 5) sc_law_digits.nd rfl (by first | exact Or.inl rfl | exact Or.inr rfl) (pe_c (cal_law_cell T) hr (by decide) rfl (pa_cons (pv 0) (pa_cons (pv 4) pa_nil)))) (Evl.pss_cut (ps_if (pt_cmpR op_lt (pv 5) (pe_int) (nomark _)) (pss_one (ps_set (i := 5) sc_law_digits.nd rfl (by first | exact Or.inl rfl | exact Or.inr rfl) (pe_op op_sub (pe_int) (pe_op op_mul (pe_int) (pv 5))))) (pss_nil)) (pss_one (ps_if (pt_cmpR op_ge (pv 5) (pe_int) (nomark _)) (pss_one (ps_for PassesOwn.never rfl (pi_range1 rfl (T.free 92) (pa_cons (pe_int) pa_nil)) (pg_name (i := 6) sc_law_digits.nd rfl (by first | exact Or.inl rfl | exact Or.inr rfl)) (pss_one (ps_if (pt_cmpR op_gt (pv 5) (pe_int) (nomark _)) (pss_cons (ps_expr (pe_bm PySem.F.plainAttrs_list PySem.F.slot_list_append PySem.F.type_list_append mt_append (pv 3) (pa_cons (pe_op op_mod (pe_callTy call_int1 (by rfl) (T.free 96) bv_int (pa_cons (pv 5) pa_nil)) (pe_int)) pa_nil))) (pss_one (ps_set (i := 5) sc_law_digits.nd rfl (by first | exact Or.inl rfl | exact Or.inr rfl) (pe_op op_fdiv (pv 5) (pe_int))))) (pss_nil))))) (pss_cons (ps_set (i := 7) sc_law_digits.nd rfl (by first | exact Or.inl rfl | exact Or.inr rfl) (pe_op op_mod (pe_callTy call_int1 (by rfl) (T.free 96) bv_int (pa_cons (pe_op op_add (pe_op op_add (pe_op op_mul (pv 5) (pe_int)) (pe_op op_mul (pv 4) (pe_int))) (pe_int)) pa_nil)) (pe_int))) (pss_one (ps_for PassesOwn.never rfl (pi_range1 rfl (T.free 92) (pa_cons (pe_int) pa_nil)) (pg_name (i := 6) sc_law_digits.nd rfl (by first | exact Or.inl rfl | exact Or.inr rfl)) (pss_cons (ps_set (i := 7) sc_law_digits.nd rfl (by first | exact Or.inl rfl | exact Or.inr rfl) (pe_op op_mod (pe_callTy call_int1 (by rfl) (T.free 96) bv_int (pa_cons (pe_op op_add (pe_op op_add (pe_op op_mul (pv 7) (pe_int)) (pe_op op_mul (pe_int) (pv 6))) (pe_int)) pa_nil)) (pe_int))) (pss_one (ps_expr (pe_bm PySem.F.plainAttrs_list PySem.F.slot_list_append PySem.F.type_list_append mt_append (pv 3) (pa_cons (pe_op op_mod (pe_callTy call_int1 (by rfl) (T.free 96) bv_int (pa_cons (pe_op op_fdiv (pv 7) (pe_int)) pa_nil)) (pe_int)) pa_nil))))))))))))) (pss_one (ps_ret (pv 3)))), ?_⟩
    refine ⟨small (m := 0) (Nat.le_refl 0), fun B hB => ?_⟩
    have s0 : Same H (upd H B (.lst [])) := same_new hB
    have snoc : ∀ (ms : List Int) (x : Int), ms.map V.int ++ [V.int x] = (ms ++ [x]).map V.int := fun ms x => by rw [List.map_append]; rfl
    refine ⟨_, rfl, _, rfl, 0, 63, rfl, by decide, for_range (fun i σ H' => ∃ v4 v5 v6 v7 ms, σ = [some (.ref a), some (.int 0), some (.int 63), some (.ref B), v4, v5, v6, v7] ∧ Same H H' ∧ H' B = some (.lst (ms.map V.int)) ∧ ms.length ≤ 60 * i) ⟨_, _, _, _, [], rfl, s0, upd_same, Nat.zero_le _⟩ ?_ ?_⟩
    · rintro i σ H1 hi ⟨v4, v5, v6, v7, ms, rfl, s1, hl, hm⟩
      have hi63 : i < 63 := hi
      refine ⟨_, rfl, _, rfl, a, ns, i, (by rw [Int.zero_add]; rfl), s1.seq hs, fun c0 => ?_⟩
      refine ⟨fun σ' H' => ∃ c : Int, σ' = [some (.ref a), some (.int 0), some (.int 63), some (.ref B), some (.int (0 + (i : Int))), some (.int c), v6, v7] ∧ H' = H1 ∧ 0 ≤ c, ?_, ?_⟩
      · refine ⟨_, rfl, _, _, rfl, rfl, _, rfl, ?_⟩
        by_cases h : c0 < 0
        · exact iteP h ⟨_, rfl, _, _, rfl, rfl, .inl (by decide), _, _, rfl, rfl, 1 - 2 * c0, rfl, rfl, by omega⟩
        · exact iteN h ⟨c0, rfl, rfl, by omega⟩
      · rintro σ' H2 ⟨c, rfl, rfl, hc⟩
        refine ⟨_, rfl, _, _, rfl, rfl, _, rfl, ?_⟩
        by_cases hbig : (1000000000000000000 : Int) ≤ c
        · refine iteGe hbig ⟨60, rfl, by decide, by decide, for_range (fun j σ H' => ∃ (v6 v7 : Option V) (c : Int) (ms : List Int), σ = [some (.ref a), some (.int 0), some (.int 63), some (.ref B), some (.int (0 + (i : Int))), some (.int c), v6, v7] ∧ Same H H' ∧ H' B = some (.lst (ms.map V.int)) ∧ ms.length ≤ 60 * i + j) ⟨_, _, c, ms, rfl, s1, hl, hm⟩ ?_ ?_⟩
          · rintro j σ H3 hj ⟨w6, w7, c', ms', rfl, s3, hl3, hm3⟩
            have hj60 : j < 60 := hj
            refine ⟨_, rfl, _, _, rfl, rfl, _, rfl, ?_⟩
            by_cases h : 0 < c'
            · refine iteP h ⟨_, rfl, .inl ⟨rfl, _, .inl (.inl hl3)⟩, _, rfl, .inl ⟨_, rfl, _, _, rfl, rfl, (by show (0 : Int) < 1000; decide), B, _, _, rfl, rfl, hl3, smallt (m := 10000) (by rw [List.length_map]; omega), ?_⟩⟩
              refine ⟨_, rfl, _, _, rfl, rfl, ⟨by decide, by decide⟩, ?_⟩
              exact ⟨_, _, _, ms' ++ [c' % 1000], rfl, same_mut s3 hB, by rw [upd_same, snoc], by rw [List.length_append]; show ms'.length + 1 ≤ _; omega⟩
            · exact iteN h ⟨_, _, c', ms', rfl, s3, hl3, by omega⟩
          · rintro σ H3 ⟨w6, w7, c', ms', rfl, s3, hl3, hm3⟩
            exact ⟨_, _, _, _, ms', rfl, s3, hl3, by have h60 : ((60 : Int)).toNat = 60 := rfl; rw [h60] at hm3; omega⟩
        · refine iteGeN hbig ?_
          refine ⟨_, rfl, _, _, rfl, rfl, .inr (by decide), _, rfl, _, _, rfl, rfl, .inr (by decide), _, _, rfl, rfl, _, _, rfl, rfl, .inl ⟨_, rfl, _, _, rfl, rfl, (by show (0 : Int) < 2147483399; decide), ?_⟩⟩
          refine ⟨12, rfl, by decide, by decide, for_range (fun j σ H' => ∃ (v6 : Option V) (sd : Int) (ms : List Int), σ = [some (.ref a), some (.int 0), some (.int 63), some (.ref B), some (.int (0 + (i : Int))), some (.int c), v6, some (.int sd)] ∧ Same H H' ∧ H' B = some (.lst (ms.map V.int)) ∧ ms.length ≤ 60 * i + j) ⟨_, _, ms, rfl, s1, hl, hm⟩ ?_ ?_⟩
          · rintro j σ H3 hj ⟨w6, sd, ms', rfl, s3, hl3, hm3⟩
            have hj12 : j < 12 := hj
            refine ⟨_, rfl, _, _, rfl, rfl, .inr (by decide), _, rfl, _, _, rfl, rfl, .inl (by decide), _, _, rfl, rfl, _, _, rfl, rfl, .inl ⟨_, rfl, _, _, rfl, rfl, (by show (0 : Int) < 2147483563; decide), ?_⟩⟩
            refine ⟨_, rfl, .inl ⟨rfl, _, .inl (.inl hl3)⟩, _, rfl, _, _, rfl, rfl, ⟨by decide, by decide⟩, .inl ⟨_, rfl, _, _, rfl, rfl, (by show (0 : Int) < 1000; decide), B, _, _, rfl, rfl, hl3, smallt (m := 10000) (by rw [List.length_map]; omega), ?_⟩⟩
            exact ⟨_, _, ms' ++ [_], rfl, same_mut s3 hB, by rw [upd_same, snoc], by rw [List.length_append]; show ms'.length + 1 ≤ _; omega⟩
          · rintro σ H3 ⟨w6, sd, ms', rfl, s3, hl3, hm3⟩
            exact ⟨_, _, _, _, ms', rfl, s3, hl3, by have h12 : ((12 : Int)).toNat = 12 := rfl; rw [h12] at hm3; omega⟩
    · rintro σ H1 ⟨v4, v5, v6, v7, ms, rfl, s1, hl, hm⟩
      have h63 : ((63 : Int) - 0).toNat = 63 := rfl
      rw [h63] at hm
      exact ⟨_, rfl, k H1 B ms s1 hB hl (by omega)⟩
def spDraw : Sp := fun vs H Q _ => ∃ (b dl : Addr) (m : Nat), vs = [.ref b, .int (m : Int)] ∧ 0 < m ∧ BoxAt H b dl ∧ ∀ (H' : Hp) (r : Nat), BK b H H' → BoxAt H' b dl → r < m → Q (.int (r : Int)) H'
theorem sc_law_draw : FnScope ["_law_box", "_law_many", "_law_at"] ["_law_box", "_law_many"] (defScope s_law_draw) := ⟨rfl, rfl, rfl, by decide +kernel, rfl, by decide +kernel, by decide +kernel⟩
theorem cal_law_draw (T : Tx K mg) : Cal P w K mg base 1 "_law_draw" spDraw := by
  refine T.cal 70 32 (f_at (x := "_law_draw") rfl) (g_at rfl) (N := ["_law_box", "_law_many", "_law_at"]) (ps := ["_law_box", "_law_many"]) (fun _ _ _ _ _ _ us hl => match us, hl with | [_, _], _ => rfl) sc_law_draw (fun vs H Q E h => ?_) (fun f cdv A outer s H vs Q E hr h => ?_)
  · obtain ⟨b, dl, m, rfl, _⟩ := h
    rfl
  · obtain ⟨b, dl, m, rfl, hm, ⟨n, ns, h1, h2, h3, h4⟩, k⟩ := h
    refine ⟨_, pss_cons (ps_set (i := 2) sc_law_draw.nd rfl (by first | exact Or.inl rfl | exact Or.inr rfl) (pe_ix ix_list (pv 0) (pe_int) (fun _ _ => rfl))) (pss_cons (ps_asg (pe_op op_add (pv 2) (pe_int)) (pg_sub (pv 0) (pe_int) set_list)) (pss_cons (ps_if (pt_cmpR op_lt (pv 2) (pe_callB call_len_seq (by rfl) (T.free 85) bv_len (pa_cons (pe_ix ix_list (pv 0) (pe_int) (fun _ _ => rfl)) pa_nil)) (nomark _)) (pss_one (ps_ret (pe_op op_mod (pe_callTy call_int1 (by rfl) (T.free 96) bv_int (pa_cons (pe_ix ix_list (pe_ix ix_list (pv 0) (pe_int) (fun _ _ => rfl)) (pv 2) (fun _ _ => rfl)) pa_nil)) (pv 1)))) (pss_nil)) (pss_one (ps_ret (pe_op op_mod (pe_callTy call_int1 (by rfl) (T.free 96) bv_int (pa_cons (pe_op op_add (pe_op op_mul (pv 2) (pe_int)) (pe_int)) pa_nil)) (pv 1)))))), ?_⟩
    refine ⟨_, rfl, b, _, 1, _, rfl, rfl, .inl (.inl h1), rfl, ?_⟩
    refine ⟨_, rfl, _, _, rfl, rfl, _, rfl, b, _, 1, 1, rfl, rfl, h1, rfl, ?_⟩
    have hb' : upd H b (.lst ([.ref dl, .int (n : Int)].set 1 (.int ((n : Int) + 1)))) b = some (.lst [.ref dl, .int (((n + 1 : Nat)) : Int)]) := by
      rw [upd_same]
      rfl
    have hd' : upd H b (.lst ([.ref dl, .int (n : Int)].set 1 (.int ((n : Int) + 1)))) dl = some (.lst (ns.map V.int)) := by rw [upd_ne h2]; exact h3
    have hbox : BoxAt (upd H b (.lst ([.ref dl, .int (n : Int)].set 1 (.int ((n : Int) + 1))))) b dl := ⟨n + 1, ns, hb', h2, hd', h4⟩
    have hK : BK b H (upd H b (.lst ([.ref dl, .int (n : Int)].set 1 (.int ((n : Int) + 1))))) := bk_upd
    generalize upd H b (.lst ([.ref dl, .int (n : Int)].set 1 (.int ((n : Int) + 1)))) = H1 at hb' hd' hbox hK ⊢
    have fin : ∀ x : Int, Q (.int (x % (m : Int))) H1 := fun x => by
      have hm0 : (m : Int) ≠ 0 := by omega
      have p1 := Int.emod_nonneg x hm0
      have p2 := Int.emod_lt_of_pos x (show (0 : Int) < m by omega)
      have e : x % (m : Int) = ((x % (m : Int)).toNat : Int) := by omega
      rw [e]
      exact k H1 _ hK hbox (by omega)
    refine ⟨_, rfl, _, rfl, b, _, 0, _, rfl, rfl, .inl (.inl hb'), at0, dl, _, rfl, .inl (.inl (.inl hd')), _, _, rfl, rfl, _, rfl, ?_⟩
    by_cases h : n < ns.length
    · refine iteP (by rw [List.length_map]; omega) ⟨_, rfl, b, _, 0, _, rfl, rfl, .inl (.inl hb'), at0, _, rfl, dl, _, (n : Int), .int ns[n], rfl, rfl, .inl (.inl hd'), atI_nat ?_, .inl ⟨_, rfl, _, rfl, _, _, rfl, rfl, by omega, fin _⟩⟩
      rw [List.getElem?_map, List.getElem?_eq_getElem h]
      rfl
    · refine iteN (by rw [List.length_map]; omega) ⟨_, rfl, _, _, rfl, rfl, .inr (by decide), _, _, rfl, rfl, .inl ⟨_, rfl, _, rfl, _, _, rfl, rfl, by omega, fin _⟩⟩
end
end Sa
/-! text H2 -/
/-! the law: drawn paths, lines, actions -/
namespace Sa
open PySem PySem.Spec L2 PyProof.Rows
theorem pickS (L : List Str) {r : Nat} (h : r < L.length) : ∃ p, p ∈ L ∧ atI (L.map V.str) (r : Int) = some (.str p) :=
  ⟨L[r], List.getElem_mem h, atI_nat (by rw [List.getElem?_map, List.getElem?_eq_getElem h]; rfl)⟩
section
variable {P : Program} {w : World} {K : PySem.W.Frag} {mg : Str → Option Value} {base : Heap}
def LPa : List Str := ["a", "b", "c", "d", "a/x", "a/y", "b/x", "b/x/z", "c/q", "e"]
def LPl : List Str := ["", "a", "b", "b/x", "c", "a/y"]
def LLi : List Str := ["", "p", "q", "p q", "r"]
def LWo : List Str := ["p", "q", "r", "p q"]
def LOl : List Str := ["p", "q", ""]
theorem lpa_ok : ∀ p ∈ LPa, p ∈ P10 := by decide +kernel
theorem lpl_ok : ∀ p ∈ LPl, p ∈ P11 := by decide +kernel
theorem lli_ok : ∀ p ∈ LLi, p ∈ L5 := by decide +kernel
theorem lwo_ok : ∀ p ∈ LWo, p ∈ W4 := by decide +kernel
theorem lol_ok : ∀ p ∈ LOl, p ∈ L5 := by decide +kernel
def spLPath : Sp := fun vs H Q _ => ∃ b dl : Addr, vs = [.ref b] ∧ BoxAt H b dl ∧ ∀ (H' : Hp) (p : Str), BK b H H' → BoxAt H' b dl → p ∈ P10 → Q (.str p) H'
theorem sc_law_path : FnScope ["_law_box"] ["_law_box"] (defScope s_law_path) := ⟨rfl, rfl, rfl, by decide +kernel, rfl, by decide +kernel, by decide +kernel⟩
theorem cal_law_path (T : Tx K mg) : Cal P w K mg base 2 "_law_path" spLPath := by
  refine T.cal 72 34 (f_at (x := "_law_path") rfl) (g_at rfl) (N := ["_law_box"]) (ps := ["_law_box"]) (fun _ _ _ _ _ _ us hl => match us, hl with | [_], _ => rfl) sc_law_path (fun vs H Q E h => ?_) (fun f cdv A outer s H vs Q E hr h => ?_)
  · obtain ⟨b, dl, rfl, _⟩ := h
    rfl
  · obtain ⟨b, dl, rfl, hb, k⟩ := h
    refine ⟨_, pss_one (ps_ret (pe_ix ix_list (pe_lst (pa_cons (pe_str) (pa_cons (pe_str) (pa_cons (pe_str) (pa_cons (pe_str) (pa_cons (pe_str) (pa_cons (pe_str) (pa_cons (pe_str) (pa_cons (pe_str) (pa_cons (pe_str) (pa_cons (pe_str) pa_nil))))))))))) (pe_c (cal_law_draw T) hr (by decide) rfl (pa_cons (pv 0) (pa_cons (pe_int) pa_nil))) (fun _ _ => rfl))), ?_⟩
    refine ⟨small (m := 10) (Nat.le_refl 10), fun l hl => ?_⟩
    have s1 : Same H (upd H l (.lst (LPa.map V.str))) := same_new hl
    refine ⟨_, rfl, b, dl, 10, rfl, by decide, hb.same s1, fun H' r kb bx hr => ?_⟩
    obtain ⟨p, hp, e⟩ := pickS LPa (r := r) hr
    exact ⟨l, LPa.map V.str, (r : Int), .str p, rfl, rfl, .inl (.inl (kb _ _ upd_same (Ne.symm (hb.nb hl).1))), e, k H' p ((bk_same s1).trans kb) bx (lpa_ok p hp)⟩
def spLPlace : Sp := fun vs H Q _ => ∃ b dl : Addr, vs = [.ref b] ∧ BoxAt H b dl ∧ ∀ (H' : Hp) (p : Str), BK b H H' → BoxAt H' b dl → p ∈ P11 → Q (.str p) H'
theorem sc_law_place : FnScope ["_law_box"] ["_law_box"] (defScope s_law_place) := ⟨rfl, rfl, rfl, by decide +kernel, rfl, by decide +kernel, by decide +kernel⟩
theorem cal_law_place (T : Tx K mg) : Cal P w K mg base 2 "_law_place" spLPlace := by
  refine T.cal 73 35 (f_at (x := "_law_place") rfl) (g_at rfl) (N := ["_law_box"]) (ps := ["_law_box"]) (fun _ _ _ _ _ _ us hl => match us, hl with | [_], _ => rfl) sc_law_place (fun vs H Q E h => ?_) (fun f cdv A outer s H vs Q E hr h => ?_)
  · obtain ⟨b, dl, rfl, _⟩ := h
    rfl
  · obtain ⟨b, dl, rfl, hb, k⟩ := h
    refine ⟨_, pss_one (ps_ret (pe_ix ix_list (pe_lst (pa_cons (pe_str) (pa_cons (pe_str) (pa_cons (pe_str) (pa_cons (pe_str) (pa_cons (pe_str) (pa_cons (pe_str) pa_nil))))))) (pe_c (cal_law_draw T) hr (by decide) rfl (pa_cons (pv 0) (pa_cons (pe_int) pa_nil))) (fun _ _ => rfl))), ?_⟩
    refine ⟨small (m := 6) (Nat.le_refl 6), fun l hl => ?_⟩
    have s1 : Same H (upd H l (.lst (LPl.map V.str))) := same_new hl
    refine ⟨_, rfl, b, dl, 6, rfl, by decide, hb.same s1, fun H' r kb bx hr => ?_⟩
    obtain ⟨p, hp, e⟩ := pickS LPl (r := r) hr
    exact ⟨l, LPl.map V.str, (r : Int), .str p, rfl, rfl, .inl (.inl (kb _ _ upd_same (Ne.symm (hb.nb hl).1))), e, k H' p ((bk_same s1).trans kb) bx (lpl_ok p hp)⟩
def spLLines : Sp := fun vs H Q _ => ∃ (b dl : Addr) (m : Nat), vs = [.ref b, .int (m : Int)] ∧ m ≤ 10 ∧ BoxAt H b dl ∧ ∀ (H' : Hp) (a : Addr) (ls : List Str), BK b H H' → BoxAt H' b dl → H' a = some (.tup (ls.map V.str)) → GoodLs ls → Q (.ref a) H'
theorem sc_law_lines : FnScope ["_law_box", "_law_most", "_law_k"] ["_law_box", "_law_most"] (defScope s_law_lines) := ⟨rfl, rfl, rfl, by decide +kernel, rfl, by decide +kernel, by decide +kernel⟩
theorem cal_law_lines (T : Tx K mg) : Cal P w K mg base 2 "_law_lines" spLLines := by
  refine T.cal 74 36 (f_at (x := "_law_lines") rfl) (g_at rfl) (N := ["_law_box", "_law_most", "_law_k"]) (ps := ["_law_box", "_law_most"]) (fun _ _ _ _ _ _ us hl => match us, hl with | [_, _], _ => rfl) sc_law_lines (fun vs H Q E h => ?_) (fun f cdv A outer s H vs Q E hr h => ?_)
  · obtain ⟨b, dl, m, rfl, _⟩ := h
    rfl
  · obtain ⟨b, dl, m, rfl, hm, hb, k⟩ := h
    refine ⟨_, pss_one (ps_ret (pe_callTy call_tuple_of (by rfl) (T.free 89) bv_tuple (pa_cons (pe_lc (own := [("_law_k", 2)]) (g := gName 2) (tt := tYes) rfl sc_law_lines.nd (pi_range1 rfl (T.free 92) (pa_cons (pe_c (cal_law_draw T) hr (by decide) rfl (pa_cons (pv 0) (pa_cons (pe_op op_add (pv 1) (pe_int)) pa_nil))) pa_nil)) (blkOk_by (own := [("_law_k", 2)]) (N := ["_law_box", "_law_most", "_law_k"]) (sc := defScope s_law_lines) (by decide +kernel)) (fun _ _ _ _ _ => pg_name (i := 2) sc_law_lines.nd rfl (by first | exact Or.inl rfl | exact Or.inr rfl)) (fun _ _ _ _ _ => pts_nil) (fun _ _ _ _ _ => pe_ix (ix_listK K rfl) (pe_lst (pa_cons (pe_str) (pa_cons (pe_str) (pa_cons (pe_str) (pa_cons (pe_str) (pa_cons (pe_str) pa_nil)))))) (pe_c (cal_law_draw T) hr (by decide) rfl (pa_cons (pv 0) (pa_cons (pe_int) pa_nil))) (fun _ _ => rfl))) pa_nil))), ?_⟩
    refine ⟨_, rfl, _, rfl, _, _, rfl, rfl, b, dl, m + 1, rfl, by omega, hb, fun H1 n kb1 bx1 hn => ?_⟩
    refine ⟨(n : Int), rfl, by omega, by omega, fun B hB => ?_⟩
    have nB := bx1.nb hB
    refine lc_it walk_range (fun i H' => BK b H1 H' ∧ BoxAt H' b dl ∧ ∃ ls : List Str, H' B = some (.lst (ls.map V.str)) ∧ ls.length ≤ i ∧ ∀ l ∈ ls, l ∈ L5) ⟨bk_same (same_new hB), bx1.mut nB, [], upd_same, Nat.le_refl 0, fun _ h => absurd h (by simp)⟩ (fun _ _ _ _ => trivial) ?_ ?_
    · rintro i y H0 H2 hi ⟨kb2, bx2, ls, hl, hle, hls⟩ ⟨rfl, rfl⟩
      have hi' : i < n := by
        have e : ((n : Int)).toNat = n := rfl
        rw [e] at hi
        exact hi
      refine ⟨rfl, t_yes ⟨small (m := 5) (Nat.le_refl 5), fun l hl5 => ?_⟩⟩
      have s3 : Same H2 (upd H2 l (.lst (LLi.map V.str))) := same_new hl5
      refine ⟨_, rfl, b, dl, 5, rfl, by decide, bx2.same s3, fun H4 r kb4 bx4 hr => ?_⟩
      obtain ⟨p, hp, e⟩ := pickS LLi (r := r) hr
      have kb34 := (bk_same s3).trans kb4
      refine ⟨l, LLi.map V.str, (r : Int), .str p, rfl, rfl, .inl (.inl (kb4 _ _ upd_same (Ne.symm (bx2.nb hl5).1))), e, _, kb34 _ _ hl (Ne.symm nB.1), smallt (m := 20) (by rw [List.length_map]; omega), (kb2.trans kb34).mut hB, bx4.mut nB, ls ++ [p], ?_, ?_, ?_⟩
      · rw [upd_same, List.map_append]
        rfl
      · rw [List.length_append]
        show ls.length + 1 ≤ i + 1
        omega
      · intro x hx
        rcases List.mem_append.mp hx with h | h
        · exact hls x h
        · rw [List.mem_singleton.mp h]
          exact lli_ok p hp
    · rintro H2 ⟨kb2, bx2, ls, hl, hle, hls⟩
      have e : ((n : Int)).toNat = n := rfl
      rw [e] at hle
      refine ⟨B, _, rfl, .inl ⟨.inl (.inl hl), fun l hl' => ?_⟩⟩
      exact k _ l ls (kb1.trans (kb2.trans (bk_same (same_new hl')))) (bx2.same (same_new hl')) upd_same ⟨by omega, hls⟩
end
end Sa
/-! text H3 -/
/-! the law: drawn questions and actions -/
namespace Sa
open PySem PySem.Spec L2 PyProof.Rows
def LKi : List Str := ["kind", "list", "count"]
section
variable {P : Program} {w : World} {K : PySem.W.Frag} {mg : Str → Option Value} {base : Heap}
theorem Dt.three {H : Hp} {p : Addr} {v w x : V} {d e f : PyData} (h : H p = some (.tup [v, w, x])) (a : Dt K H v d) (b : Dt K H w e) (c : Dt K H x f) : Dt K H (.ref p) (.tuple [d, e, f]) := .new h (.cons a (.cons b (.cons c .nil)))
theorem Dt.four {H : Hp} {p : Addr} {v w x y : V} {d e f g : PyData} (h : H p = some (.tup [v, w, x, y])) (a : Dt K H v d) (b : Dt K H w e) (c : Dt K H x f) (i : Dt K H y g) : Dt K H (.ref p) (.tuple [d, e, f, g]) := .new h (.cons a (.cons b (.cons c (.cons i .nil))))
def spLQuestion (K : PySem.W.Frag) : Sp := fun vs H Q _ => ∃ b dl : Addr, vs = [.ref b] ∧ BoxAt H b dl ∧ ∀ (H' : Hp) (x : V) (a : Act), BK b H H' → BoxAt H' b dl → Dt K H' x (dA a) → GoodA a → isQ a = true → Q x H'
theorem sc_law_question : FnScope ["_law_box", "_law_kind"] ["_law_box"] (defScope s_law_question) := ⟨rfl, rfl, rfl, by decide +kernel, rfl, by decide +kernel, by decide +kernel⟩
theorem cal_law_question (T : Tx K mg) : Cal P w K mg base 3 "_law_question" (spLQuestion K) := by
  refine T.cal 75 37 (f_at (x := "_law_question") rfl) (g_at rfl) (N := ["_law_box", "_law_kind"]) (ps := ["_law_box"]) (fun _ _ _ _ _ _ us hl => match us, hl with | [_], _ => rfl) sc_law_question (fun vs H Q E h => ?_) (fun f cdv A outer s H vs Q E hr h => ?_)
  · obtain ⟨b, dl, rfl, _⟩ := h
    rfl
  · obtain ⟨b, dl, rfl, hb, k⟩ := h
    refine ⟨_, pss_cons (ps_set (i := 1) sc_law_question.nd rfl (by first | exact Or.inl rfl | exact Or.inr rfl) (pe_c (cal_law_draw T) hr (by decide) rfl (pa_cons (pv 0) (pa_cons (pe_int) pa_nil)))) (pss_cons (ps_if (pt_cmpR op_lt (pv 1) (pe_int) (nomark _)) (pss_one (ps_ret (pe_tup (pa_cons (pe_str) (pa_cons (pe_c (cal_law_path T) hr (by decide) rfl (pa_cons (pv 0) pa_nil)) pa_nil))))) (pss_nil)) (pss_cons (ps_if (pt_cmpR op_eq (pv 1) (pe_int) (nomark _)) (pss_one (ps_ret (pe_tup (pa_cons (pe_str) (pa_cons (pe_c (cal_law_place T) hr (by decide) rfl (pa_cons (pv 0) pa_nil)) (pa_cons (pe_ix ix_list (pe_lst (pa_cons (pe_str) (pa_cons (pe_str) (pa_cons (pe_str) (pa_cons (pe_str) pa_nil))))) (pe_c (cal_law_draw T) hr (by decide) rfl (pa_cons (pv 0) (pa_cons (pe_int) pa_nil))) (fun _ _ => rfl)) pa_nil)))))) (pss_nil)) (pss_one (ps_ret (pe_tup (pa_cons (pe_ix ix_list (pe_lst (pa_cons (pe_str) (pa_cons (pe_str) (pa_cons (pe_str) pa_nil)))) (pe_op op_sub (pv 1) (pe_int)) (fun _ _ => rfl)) (pa_cons (pe_c (cal_law_place T) hr (by decide) rfl (pa_cons (pv 0) pa_nil)) pa_nil))))))), ?_⟩
    refine ⟨_, rfl, b, dl, 6, rfl, by decide, hb, fun H1 r kb1 bx1 hr => ?_⟩
    refine ⟨_, rfl, _, _, rfl, rfl, _, rfl, ?_⟩
    by_cases h2 : r < 2
    · refine iteP (by omega) ⟨_, rfl, b, dl, rfl, bx1, fun H2 p kb2 bx2 hp => ⟨small (m := 2) (Nat.le_refl 2), fun q hq => ?_⟩⟩
      have s3 : Same H2 (upd H2 q (.tup [.str "read", .str p])) := same_new hq
      exact k _ (.ref q) (.read p) ((kb1.trans kb2).trans (bk_same s3)) (bx2.same s3) (Dt.two upd_same (.str _) (.str _)) hp rfl
    · refine iteN (by omega) ?_
      refine ⟨_, rfl, rfl, _, rfl, ?_⟩
      by_cases h3 : r = 2
      · refine iteP (by rw [h3]; rfl) ⟨_, rfl, b, dl, rfl, bx1, fun H2 p kb2 bx2 hp => ?_⟩
        refine ⟨small (m := 4) (Nat.le_refl 4), fun l hl => ?_⟩
        have s3 : Same H2 (upd H2 l (.lst (LWo.map V.str))) := same_new hl
        refine ⟨_, rfl, b, dl, 4, rfl, by decide, bx2.same s3, fun H4 r4 kb4 bx4 hr4 => ?_⟩
        obtain ⟨wd, hw, e⟩ := pickS LWo (r := r4) hr4
        refine ⟨l, LWo.map V.str, (r4 : Int), .str wd, rfl, rfl, .inl (.inl (kb4 _ _ upd_same (Ne.symm (bx2.nb hl).1))), e, small (m := 3) (Nat.le_refl 3), fun q hq => ?_⟩
        have s5 : Same H4 (upd H4 q (.tup [.str "find", .str p, .str wd])) := same_new hq
        exact k _ (.ref q) (.find p wd) ((kb1.trans (kb2.trans ((bk_same s3).trans kb4))).trans (bk_same s5)) (bx4.same s5) (Dt.three upd_same (.str _) (.str _) (.str _)) ⟨hp, lwo_ok wd hw⟩ rfl
      · refine iteN (fun z => h3 (by have := V.int.inj z; omega)) ?_
        refine ⟨small (m := 3) (Nat.le_refl 3), fun l hl => ?_⟩
        have s3 : Same H1 (upd H1 l (.lst (LKi.map V.str))) := same_new hl
        have er : (r : Int) - 3 = ((r - 3 : Nat) : Int) := by omega
        obtain ⟨wd, hw, e⟩ := pickS LKi (r := r - 3) (by show r - 3 < 3; omega)
        rw [← er] at e
        refine ⟨_, rfl, _, _, rfl, rfl, l, LKi.map V.str, (r : Int) - 3, .str wd, rfl, rfl, .inl (.inl upd_same), e, ?_⟩
        refine ⟨_, rfl, b, dl, rfl, bx1.same s3, fun H4 p kb4 bx4 hp => ⟨small (m := 2) (Nat.le_refl 2), fun q hq => ?_⟩⟩
        have s5 : Same H4 (upd H4 q (.tup [.str wd, .str p])) := same_new hq
        have kb := (kb1.trans ((bk_same s3).trans kb4)).trans (bk_same s5)
        simp only [LKi, List.mem_cons, List.not_mem_nil, or_false] at hw
        rcases hw with rfl | rfl | rfl
        · exact k _ (.ref q) (.kind p) kb (bx4.same s5) (Dt.two upd_same (.str _) (.str _)) hp rfl
        · exact k _ (.ref q) (.list p) kb (bx4.same s5) (Dt.two upd_same (.str _) (.str _)) hp rfl
        · exact k _ (.ref q) (.count p) kb (bx4.same s5) (Dt.two upd_same (.str _) (.str _)) hp rfl
def spLAction (K : PySem.W.Frag) : Sp := fun vs H Q _ => ∃ b dl : Addr, vs = [.ref b] ∧ BoxAt H b dl ∧ ∀ (H' : Hp) (x : V) (a : Act), BK b H H' → BoxAt H' b dl → Dt K H' x (dA a) → GoodA a → Q x H'
theorem sc_law_action : FnScope ["_law_box", "_law_kind"] ["_law_box"] (defScope s_law_action) := ⟨rfl, rfl, rfl, by decide +kernel, rfl, by decide +kernel, by decide +kernel⟩
theorem cal_law_action (T : Tx K mg) : Cal P w K mg base 4 "_law_action" (spLAction K) := by
  refine T.cal 76 38 (f_at (x := "_law_action") rfl) (g_at rfl) (N := ["_law_box", "_law_kind"]) (ps := ["_law_box"]) (fun _ _ _ _ _ _ us hl => match us, hl with | [_], _ => rfl) sc_law_action (fun vs H Q E h => ?_) (fun f cdv A outer s H vs Q E hr h => ?_)
  · obtain ⟨b, dl, rfl, _⟩ := h
    rfl
  · obtain ⟨b, dl, rfl, hb, k⟩ := h
    refine ⟨_, pss_cons (ps_set (i := 1) sc_law_action.nd rfl (by first | exact Or.inl rfl | exact Or.inr rfl) (pe_c (cal_law_draw T) hr (by decide) rfl (pa_cons (pv 0) (pa_cons (pe_int) pa_nil)))) (pss_cons (ps_if (pt_cmpR op_lt (pv 1) (pe_int) (nomark _)) (pss_one (ps_ret (pe_c (cal_law_question T) hr (by decide) rfl (pa_cons (pv 0) pa_nil)))) (pss_nil)) (pss_cons (ps_if (pt_cmpR op_lt (pv 1) (pe_int) (nomark _)) (pss_one (ps_ret (pe_tup (pa_cons (pe_str) (pa_cons (pe_c (cal_law_path T) hr (by decide) rfl (pa_cons (pv 0) pa_nil)) (pa_cons (pe_c (cal_law_lines T) hr (by decide) rfl (pa_cons (pv 0) (pa_cons (pe_int) pa_nil))) pa_nil)))))) (pss_nil)) (pss_cons (ps_if (pt_cmpR op_eq (pv 1) (pe_int) (nomark _)) (pss_one (ps_ret (pe_tup (pa_cons (pe_str) (pa_cons (pe_c (cal_law_path T) hr (by decide) rfl (pa_cons (pv 0) pa_nil)) pa_nil))))) (pss_nil)) (pss_cons (ps_if (pt_cmpR op_eq (pv 1) (pe_int) (nomark _)) (pss_one (ps_ret (pe_tup (pa_cons (pe_str) (pa_cons (pe_c (cal_law_path T) hr (by decide) rfl (pa_cons (pv 0) pa_nil)) (pa_cons (pe_c (cal_law_path T) hr (by decide) rfl (pa_cons (pv 0) pa_nil)) pa_nil)))))) (pss_nil)) (pss_one (ps_ret (pe_tup (pa_cons (pe_str) (pa_cons (pe_c (cal_law_path T) hr (by decide) rfl (pa_cons (pv 0) pa_nil)) (pa_cons (pe_tup (pa_cons (pe_ix ix_list (pe_lst (pa_cons (pe_str) (pa_cons (pe_str) (pa_cons (pe_str) pa_nil)))) (pe_c (cal_law_draw T) hr (by decide) rfl (pa_cons (pv 0) (pa_cons (pe_int) pa_nil))) (fun _ _ => rfl)) pa_nil)) (pa_cons (pe_c (cal_law_lines T) hr (by decide) rfl (pa_cons (pv 0) (pa_cons (pe_int) pa_nil))) pa_nil))))))))))), ?_⟩
    refine ⟨_, rfl, b, dl, 9, rfl, by decide, hb, fun H1 r kb1 bx1 hr => ?_⟩
    refine ⟨_, rfl, _, _, rfl, rfl, _, rfl, ?_⟩
    by_cases h3 : r < 3
    · exact iteP (by omega) ⟨_, rfl, b, dl, rfl, bx1, fun H2 x a kb2 bx2 hx ga _ => k H2 x a (kb1.trans kb2) bx2 hx ga⟩
    · refine iteN (by omega) ⟨_, rfl, _, _, rfl, rfl, _, rfl, ?_⟩
      by_cases h6 : r < 6
      · refine iteP (by omega) ⟨_, rfl, b, dl, rfl, bx1, fun H2 p kb2 bx2 hp => ⟨_, rfl, b, dl, 4, rfl, by decide, bx2, fun H3 a ls kb3 bx3 ha gl => ⟨small (m := 3) (Nat.le_refl 3), fun q hq => ?_⟩⟩⟩
        have s5 : Same H3 (upd H3 q (.tup [.str "write", .str p, .ref a])) := same_new hq
        exact k _ (.ref q) (.write p ls) ((kb1.trans (kb2.trans kb3)).trans (bk_same s5)) (bx3.same s5) (Dt.three upd_same (.str _) (.str _) ((Dt.lines ha).same s5)) ⟨hp, gl⟩
      · refine iteN (by omega) ⟨_, rfl, rfl, _, rfl, ?_⟩
        by_cases e6 : r = 6
        · refine iteP (by rw [e6]; rfl) ⟨_, rfl, b, dl, rfl, bx1, fun H2 p kb2 bx2 hp => ⟨small (m := 2) (Nat.le_refl 2), fun q hq => ?_⟩⟩
          have s5 : Same H2 (upd H2 q (.tup [.str "remove", .str p])) := same_new hq
          exact k _ (.ref q) (.remove p) ((kb1.trans kb2).trans (bk_same s5)) (bx2.same s5) (Dt.two upd_same (.str _) (.str _)) hp
        · refine iteN (fun z => e6 (by have := V.int.inj z; omega)) ⟨_, rfl, rfl, _, rfl, ?_⟩
          by_cases e7 : r = 7
          · refine iteP (by rw [e7]; rfl) ⟨_, rfl, b, dl, rfl, bx1, fun H2 p kb2 bx2 hp => ⟨_, rfl, b, dl, rfl, bx2, fun H3 p2 kb3 bx3 hp2 => ⟨small (m := 3) (Nat.le_refl 3), fun q hq => ?_⟩⟩⟩
            have s5 : Same H3 (upd H3 q (.tup [.str "move", .str p, .str p2])) := same_new hq
            exact k _ (.ref q) (.move p p2) ((kb1.trans (kb2.trans kb3)).trans (bk_same s5)) (bx3.same s5) (Dt.three upd_same (.str _) (.str _) (.str _)) ⟨hp, hp2⟩
          · refine iteN (fun z => e7 (by have := V.int.inj z; omega)) ⟨_, rfl, b, dl, rfl, bx1, fun H2 p kb2 bx2 hp => ?_⟩
            refine ⟨small (m := 3) (Nat.le_refl 3), fun l hl => ?_⟩
            have s3 : Same H2 (upd H2 l (.lst (LOl.map V.str))) := same_new hl
            refine ⟨_, rfl, b, dl, 3, rfl, by decide, bx2.same s3, fun H4 r4 kb4 bx4 hr4 => ?_⟩
            obtain ⟨wd, hw, e⟩ := pickS LOl (r := r4) hr4
            refine ⟨l, LOl.map V.str, (r4 : Int), .str wd, rfl, rfl, .inl (.inl (kb4 _ _ upd_same (Ne.symm (bx2.nb hl).1))), e, small (m := 1) (Nat.le_refl 1), fun o ho => ?_⟩
            have s4 : Same H4 (upd H4 o (.tup ([wd].map V.str))) := same_new ho
            refine ⟨_, rfl, b, dl, 3, rfl, by decide, bx4.same s4, fun H5 a ls kb5 bx5 ha gl => ⟨small (m := 4) (Nat.le_refl 4), fun q hq => ?_⟩⟩
            have s5 : Same H5 (upd H5 q (.tup [.str "splice", .str p, .ref o, .ref a])) := same_new hq
            have ho5 : Dt K H5 (.ref o) (dL [wd]) := Dt.lines (kb5 _ _ upd_same (Ne.symm (bx4.nb ho).1))
            exact k _ (.ref q) (.splice p [wd] ls) (((kb1.trans kb2).trans ((bk_same s3).trans kb4)).trans (((bk_same s4).trans kb5).trans (bk_same s5))) (bx5.same s5) (Dt.four upd_same (.str _) (.str _) (ho5.same s5) ((Dt.lines ha).same s5)) ⟨hp, ⟨by show 1 ≤ 12; decide, fun x hx => by rw [List.mem_singleton.mp hx]; exact lol_ok wd hw⟩, by simp, gl⟩
end
end Sa
/-! text H4 -/
/-! the law: tables, what is inside -/
namespace Sa
open PySem PySem.Spec L2 PyProof.Rows
theorem str_dec {x y : Str} : decide (V.str x = V.str y) = decide (x = y) := by
  by_cases h : x = y
  · rw [decide_eq_true h, decide_eq_true (by rw [h])]
  · rw [decide_eq_false h, decide_eq_false (fun z => h (V.str.inj z))]
theorem same_unlock {H H' : Hp} {d : Addr} {u f : HO} (s : Same (upd H d f) H') (h : H d = some u) : Same H (upd H' d u) := fun a o e => by
  by_cases z : a = d
  · rw [z] at e ⊢
    rw [upd_same, ← h, e]
  · rw [upd_ne z]
    exact s a o (by rw [upd_ne z]; exact e)
section
variable {P : Program} {w : World} {K : PySem.W.Frag} {mg : Str → Option Value} {base : Heap}
/-- the drawn texts as data -/
theorem dp_strs {H : Hp} : ∀ ls : List Str, DpAll K H (ls.map V.str) (ls.map .str)
  | [] => .nil
  | x :: r => .cons (.str x) (dp_strs r)
theorem eqv_nil (ds : List PyData) : PyData.eqv (.list ds) (.list []) = ds.isEmpty := by
  cases ds with
  | nil => simp [PyData.eqv, PyData.eqvAll]
  | cons d ds => simp [PyData.eqv, PyData.eqvAll]
theorem shaped_strs {ls : List Str} (h : ∀ l ∈ ls, PyData.strOk l = true ∧ l.length ≤ 5) : SeqAt.shaped (.list (ls.map .str)) = true :=
  shaped_list (OkAll.map (k := 0) (n := 5) fun x hx => okS (h x hx) (Nat.le_refl _)) (by decide)
/-- a list of texts != [] -/
theorem ne_nil {H : Hp} {a b : Addr} {ls : List Str} {Q : VK} (h : ∀ l ∈ ls, PyData.strOk l = true ∧ l.length ≤ 5) (ha : SqL K H a (ls.map V.str)) (hb : SqL K H b []) (q : Q (.bl (!ls.isEmpty)) H) : rNeD K (.ref a) (.ref b) H Q := by
  refine ⟨.list (ls.map .str), .list [], .lst ha (dp_strs ls), .lst hb .nil, shaped_strs h, shaped_list (k := 0) OkAll.nil (by decide), ?_⟩
  rw [eqv_nil]
  have e : (ls.map PyData.str).isEmpty = ls.isEmpty := by cases ls <;> rfl
  rw [e]
  exact q
theorem p10_ok5 {ls : List Str} (h : ∀ l ∈ ls, l ∈ P10) : ∀ l ∈ ls, PyData.strOk l = true ∧ l.length ≤ 5 := fun l hl => ok_p10 l (h l hl)
def spLInside (K : PySem.W.Frag) : Sp := fun vs H Q _ => ∃ (v : V) (D : List Addr) (F : Files) (q : Str), vs = [v, .str q] ∧ TabAt K D H v F ∧ GoodF F ∧ q ∈ P11 ∧ ∀ H' l, Same H H' → H l = none → H' l = some (.lst ((inside F q).map V.str)) → Q (.ref l) H'
theorem sc_law_inside : FnScope ["_law_table_here", "_law_place_here", "_law_path_here"] ["_law_table_here", "_law_place_here"] (defScope s_law_inside) := ⟨rfl, rfl, rfl, by decide +kernel, rfl, by decide +kernel, by decide +kernel⟩
theorem cal_law_inside (T : Tx K mg) : Cal P w K mg base 1 "_law_inside" (spLInside K) := by
  refine T.cal 78 40 (f_at (x := "_law_inside") rfl) (g_at rfl) (N := ["_law_table_here", "_law_place_here", "_law_path_here"]) (ps := ["_law_table_here", "_law_place_here"]) (fun _ _ _ _ _ _ us hl => match us, hl with | [_, _], _ => rfl) sc_law_inside (fun vs H Q E h => ?_) (fun f cdv A outer s H vs Q E hr h => ?_)
  · obtain ⟨v, D, F, q, rfl, _⟩ := h
    rfl
  · obtain ⟨v, D, F, q, rfl, ⟨d, kvs, rfl, h2, n, f⟩, g, hq, k⟩ := h
    obtain ⟨ks, e1, e2, e3⟩ := f.sorted g
    have hl0 := keys_len F
    have hq5 := len10 q hq
    refine ⟨_, pss_one (ps_ret (pe_lc (own := [("_law_path_here", 2)]) (g := gName 2) rfl sc_law_inside.nd (pi_list (pe_callB (call_sortedD rfl) (by rfl) (T.free 90) bv_sorted (pa_cons (pv 0) pa_nil))) (blkOk_by (own := [("_law_path_here", 2)]) (N := ["_law_table_here", "_law_place_here", "_law_path_here"]) (sc := defScope s_law_inside) (by decide +kernel)) (fun _ _ _ _ _ => pg_name (i := 2) sc_law_inside.nd rfl (by first | exact Or.inl rfl | exact Or.inr rfl)) (fun _ _ _ _ _ => pts_one (PW.pt (pw_or (pt_cmpR op_eq (pv 1) (pe_str) (nomark _)) (pw_or1 (pt_cmpR op_eq (pe_slice sl_str (pv 2) (po_none) (po_some (pe_op op_add (pe_callB call_len_str (by rfl) (T.free 85) bv_len (pa_cons (pv 1) pa_nil)) (pe_int)))) (pe_op op_add_str (pv 1) (pe_str)) (nomark _)))))) (fun _ _ _ _ _ => pv 2))), ?_⟩
    refine ⟨_, rfl, d, kvs, ks, rfl, .inl h2, e1, e2, fun ys p hp so hq' => ?_⟩
    cases e3 ys hp so
    refine ⟨p, rfl, ⟨_, .inl (.inl upd_same)⟩, fun B hB => lc_list (xs := (keys F).map V.str) (fun i H' => Same (upd H p (.lst ((keys F).map V.str))) H' ∧ H' B = some (.lst ((((keys F).take i).filter fun p => isInB p q).map V.str))) ⟨same_new hB, upd_same⟩ (fun i H' _ q => .inl (.inl (q.1 _ _ upd_same))) ?_ ?_⟩
    · rintro i y H1 hi ⟨s1, hl⟩
      rw [List.getElem?_map] at hi
      obtain ⟨z, hz, rfl⟩ := Option.map_eq_some_iff.mp hi
      have z10 := keys_p10 (List.mem_of_getElem? hz)
      have z5 := len10 z (p10_p11 z10)
      have hlaw := lawIn z z10 q hq
      have tf := take_filter (fun p => isInB p q) hz
      have yes : isInB z q = true → ∃ acc, H1 B = some (.lst acc) ∧ acc.length < sizeLine ∧ Same (upd H p (.lst ((keys F).map V.str))) (upd H1 B (.lst (acc ++ [.str z]))) ∧ upd H1 B (.lst (acc ++ [.str z])) B = some (.lst ((((keys F).take (i + 1)).filter fun p => isInB p q).map V.str)) := fun e => by
        rw [e] at tf
        refine ⟨_, hl, smallt (m := 20) ?_, same_mut s1 hB, ?_⟩
        · rw [List.length_map]
          exact Nat.le_trans (filter_le hl0) (by decide)
        · rw [upd_same, tf, List.map_append]
          rfl
      refine ⟨rfl, _, rfl, rfl, _, rfl, ?_⟩
      by_cases e : q = ""
      · rw [decide_eq_true e, Bool.true_or] at hlaw
        exact iteP (by rw [e]) (iteE rfl ⟨_, rfl, yes hlaw.symm⟩)
      · rw [decide_eq_false e, Bool.false_or] at hlaw
        refine iteN (fun z => e (V.str.inj z)) ⟨_, rfl, _, rfl, q, rfl, small (m := 100) (by omega), _, _, rfl, rfl, _, rfl, z, rfl, small (m := 100) (by omega), _, rfl, _, _, rfl, rfl, small (m := 100) ?_, rfl, _, rfl, ?_⟩
        · have : ("/" : Str).length = 1 := rfl
          omega
        · have hc := str_dec.trans hlaw
          cases eb : isInB z q with
          | true =>
            rw [eb] at hc
            exact iteE hc ⟨_, rfl, yes eb⟩
          | false =>
            rw [eb] at hc tf
            refine iteEn hc ⟨s1, ?_⟩
            rw [tf]
            exact hl.trans (by rw [if_neg (by decide), List.append_nil])
    · rintro H1 ⟨s1, hl⟩
      have hk : (keys F).take (keys F).length = keys F := List.take_length
      rw [List.length_map, hk] at hl
      exact k H1 B ((same_new hq').trans s1) ((same_new (o := .lst ((keys F).map V.str)) hq').free hB) hl
def spLBarred (K : PySem.W.Frag) : Sp := fun vs H Q _ => ∃ (v : V) (D : List Addr) (F : Files) (p : Str), vs = [v, .str p] ∧ TabAt K D H v F ∧ GoodF F ∧ p ∈ P10 ∧ ∀ H', Same H H' → Q (.bl (blockedB F p)) H'
theorem sc_law_barred : FnScope ["_law_table_here", "_law_path_here", "_law_above", "_law_other"] ["_law_table_here", "_law_path_here"] (defScope s_law_barred) := ⟨rfl, rfl, rfl, by decide +kernel, rfl, by decide +kernel, by decide +kernel⟩
theorem cal_law_barred (T : Tx K mg) : Cal P w K mg base 2 "_law_barred" (spLBarred K) := by
  refine T.cal 79 41 (f_at (x := "_law_barred") rfl) (g_at rfl) (N := ["_law_table_here", "_law_path_here", "_law_above", "_law_other"]) (ps := ["_law_table_here", "_law_path_here"]) (fun _ _ _ _ _ _ us hl => match us, hl with | [_, _], _ => rfl) sc_law_barred (fun vs H Q E h => ?_) (fun f cdv A outer s H vs Q E hr h => ?_)
  · obtain ⟨v, D, F, q, rfl, _⟩ := h
    rfl
  · obtain ⟨v, D, F, p, rfl, tb, g, hp, k⟩ := h
    obtain ⟨d, kvs, rfl, h2, n, f⟩ := id tb
    obtain ⟨ks, e1, e2, e3⟩ := f.keysEx
    have hlk := f.len g
    have kl : kvs.length = ks.length := by
      have := congrArg List.length e1
      rw [List.length_map, List.length_map] at this
      exact this
    refine ⟨_, pss_cons (ps_lock (ps_setLc (i := 2) (y := "_law_above") (own := [("_law_other", 3)]) (g := gName 3) rfl sc_law_barred.nd rfl rfl (sw_true rfl rfl rfl (by decide +kernel)) (pi_keys (pv 0)) (blkOk_by (own := [("_law_other", 3)]) (N := ["_law_table_here", "_law_path_here", "_law_above", "_law_other"]) (sc := defScope s_law_barred) (by decide +kernel)) (fun _ _ _ _ _ => pg_name (i := 3) sc_law_barred.nd rfl (by first | exact Or.inl rfl | exact Or.inr rfl)) (fun _ _ _ _ _ => pts_one (pt_cmpR op_eq (pe_slice sl_str (pv 1) (po_none) (po_some (pe_op op_add (pe_callB call_len_str (by rfl) (T.free 85) bv_len (pa_cons (pv 3) pa_nil)) (pe_int)))) (pe_op op_add_str (pv 3) (pe_str)) (nomark _))) (fun _ _ _ _ _ => pv 3))) (pss_one (ps_ret (pe_or (pe_cmpR (op_neD hr.units) (pv 2) (pe_lst (pa_nil)) (nomark _)) (pe_one (pe_cmpR (op_neD hr.units) (pe_c (cal_law_inside T) hr (by decide) rfl (pa_cons (pv 0) (pa_cons (pv 1) pa_nil))) (pe_lst (pa_nil)) (nomark _)))))), ?_⟩
    refine ⟨d, .dK kvs, h2, trivial, fun od => ?_⟩
    have hks10 : ∀ o ∈ ks, o ∈ P10 := fun o ho => keys_p10 ((goodF_mem g).mpr ((e3 o).mp ho))
    have hp5 := len10 p (p10_p11 hp)
    refine ⟨_, rfl, d, od, rfl, .inl ⟨kvs, upd_same, fun B hB => lc_it walk_keys (fun i H' => Same (upd H d (.frz od (.dK kvs))) H' ∧ H' B = some (.lst (((ks.take i).filter fun o => isInB p o).map V.str))) ⟨same_new hB, upd_same⟩ (fun i H' _ q => q.1 _ _ upd_same) ?_ ?_⟩⟩
    · rintro i y H0 H1 hi ⟨s1, hl⟩ ⟨rfl, kk, vv, hkv, rfl⟩
      have hk : (ks.map Sum.inr)[i]? = some kk := by rw [← e1, List.getElem?_map, hkv]; rfl
      rw [List.getElem?_map] at hk
      obtain ⟨o, ho, rfl⟩ := Option.map_eq_some_iff.mp hk
      have o10 := hks10 o (List.mem_of_getElem? ho)
      have o5 := len10 o (p10_p11 o10)
      have hlaw := lawIn p hp o (p10_p11 o10)
      have hne : o ≠ "" := fun z => by
        rw [z] at o10
        exact absurd o10 (by decide +kernel)
      rw [decide_eq_false hne, Bool.false_or] at hlaw
      have tf := take_filter (fun o => isInB p o) ho
      have hk10 : ((ks.take i).filter fun o => isInB p o).length ≤ 10 := filter_le (by omega)
      refine ⟨rfl, _, rfl, _, rfl, o, rfl, small (m := 100) (by omega), _, _, rfl, rfl, _, rfl, p, rfl, small (m := 100) (by omega), _, rfl, _, _, rfl, rfl, small (m := 100) ?_, rfl, _, rfl, ?_⟩
      · have : ("/" : Str).length = 1 := rfl
        omega
      · have hc := str_dec.trans hlaw
        cases eb : isInB p o with
        | true =>
          rw [eb] at hc tf
          refine iteE hc ⟨_, rfl, _, hl, smallt (m := 20) (by rw [List.length_map]; omega), same_mut s1 hB, ?_⟩
          rw [upd_same, tf, List.map_append]
          rfl
        | false =>
          rw [eb] at hc tf
          refine iteEn hc ⟨s1, ?_⟩
          rw [tf]
          exact hl.trans (by rw [if_neg (by decide), List.append_nil])
    · rintro H1 ⟨s1, hl⟩
      rw [kl, List.take_length] at hl
      have nBd : B ≠ d := fun z => by rw [z, upd_same] at hB; cases hB
      refine ⟨s1 _ _ upd_same, ?_⟩
      have s2 : Same H (upd H1 d (.dK kvs)) := same_unlock s1 h2
      have hl2 : upd H1 d (.dK kvs) B = some (.lst ((ks.filter fun o => isInB p o).map V.str)) := by rw [upd_ne nBd]; exact hl
      have hok : ∀ l ∈ ks.filter (fun o => isInB p o), PyData.strOk l = true ∧ l.length ≤ 5 := fun l h => ok_p10 l (hks10 l (List.mem_filter.mp h).1)
      have eA : (!(ks.filter fun o => isInB p o).isEmpty) = decide (0 < (above F p).length) := by
        have h1 : ∀ o, o ∈ ks.filter (fun o => isInB p o) ↔ o ∈ above F p := fun o => by
          unfold above
          rw [List.mem_filter, List.mem_filter, goodF_mem g, e3]
        cases ec : ks.filter (fun o => isInB p o) with
        | nil =>
          have : above F p = [] := List.eq_nil_iff_forall_not_mem.mpr fun o ho => by
            have := (h1 o).mpr ho
            rw [ec] at this
            exact absurd this (by simp)
          rw [this]
          rfl
        | cons o r =>
          have : o ∈ above F p := (h1 o).mp (by rw [ec]; exact List.mem_cons_self)
          have := List.length_pos_of_mem this
          exact (decide_eq_true this).symm
      refine ⟨_, rfl, small (m := 0) (Nat.le_refl 0), fun e he => ?_⟩
      have s3 : Same (upd H1 d (.dK kvs)) (upd (upd H1 d (.dK kvs)) e (.lst [])) := same_new he
      refine ne_nil hok (.inl (.inl (s3 _ _ hl2))) (.inl (.inl upd_same)) ?_
      rw [eA]
      have q2 := k _ (s2.trans s3)
      unfold blockedB at q2
      refine ⟨_, rfl, ?_⟩
      by_cases ea : 0 < (above F p).length
      · rw [decide_eq_true ea, Bool.or_true] at q2
        exact iteP ea q2
      · rw [decide_eq_false ea, Bool.or_false] at q2
        refine iteN ea ⟨_, rfl, _, rfl, .ref d, D, F, p, rfl, tb.same (s2.trans s3), g, p10_p11 hp, fun H4 l s4 hln hl4 => ⟨small (m := 0) (Nat.le_refl 0), fun e2 he2 => ?_⟩⟩
        have s5 : Same H4 (upd H4 e2 (.lst [])) := same_new he2
        refine ne_nil (p10_ok5 fun x hx => (inside_p10 hx).1) (.inl (.inl (s5 _ _ hl4))) (.inl (.inl upd_same)) ?_
        have q3 := k _ ((s2.trans s3).trans (s4.trans s5))
        unfold blockedB at q3
        rw [decide_eq_false ea, Bool.or_false] at q3
        have eI : (!(inside F p).isEmpty) = decide (0 < (inside F p).length) := by
          cases inside F p with
          | nil => rfl
          | cons a r => exact (decide_eq_true (by rw [List.length_cons]; omega)).symm
        rw [eI]
        exact q3
end
end Sa
/-! text H5 -/
/-! the law: names, found -/
namespace Sa
open PySem PySem.Spec L2 PyProof.Rows
theorem mulok1 : MulOk "/" 1 := by unfold MulOk; decide +kernel
theorem mulok0 : MulOk "/" 0 := by unfold MulOk; decide +kernel
theorem mul1 : Txt.mul "/" 1 = "/" := by decide +kernel
theorem mul0 : Txt.mul "/" 0 = "" := by decide +kernel
theorem split_len : ∀ p ∈ P10, ∀ q ∈ P11, (Txt.split (behind p q) "/").length ≤ 10 ∧ ((Txt.split (behind p q) "/").headD "").length ≤ 50 := by decide +kernel
section
variable {P : Program} {w : World} {K : PySem.W.Frag} {mg : Str → Option Value} {base : Heap}
def spLNames (K : PySem.W.Frag) : Sp := fun vs H Q _ => ∃ (v : V) (D : List Addr) (F : Files) (q : Str), vs = [v, .str q] ∧ TabAt K D H v F ∧ GoodF F ∧ q ∈ P11 ∧ ∀ H' a, Same H H' → H' a = some (.tup ((names F q).map V.str)) → Q (.ref a) H'
theorem sc_law_names : FnScope ["_law_table_here", "_law_place_here", "_law_skip", "_law_found_here", "_law_path_here", "_law_parts", "_law_name"] ["_law_table_here", "_law_place_here"] (defScope s_law_names) := ⟨rfl, rfl, rfl, by decide +kernel, rfl, by decide +kernel, by decide +kernel⟩
theorem cal_law_names (T : Tx K mg) : Cal P w K mg base 2 "_law_names" (spLNames K) := by
  refine T.cal 80 42 (f_at (x := "_law_names") rfl) (g_at rfl) (N := ["_law_table_here", "_law_place_here", "_law_skip", "_law_found_here", "_law_path_here", "_law_parts", "_law_name"]) (ps := ["_law_table_here", "_law_place_here"]) (fun _ _ _ _ _ _ us hl => match us, hl with | [_, _], _ => rfl) sc_law_names (fun vs H Q E h => ?_) (fun f cdv A outer s H vs Q E hr h => ?_)
  · obtain ⟨v, D, F, q, rfl, _⟩ := h
    rfl
  · obtain ⟨v, D, F, q, rfl, tb, g, hq, k⟩ := h
    have l10 := inside_len F q
    have hq5 := len10 q hq
    refine ⟨_, pss_cons (ps_set (i := 2) sc_law_names.nd rfl (by first | exact Or.inl rfl | exact Or.inr rfl) (pe_op op_add (pe_callB call_len_str (by rfl) (T.free 85) bv_len (pa_cons (pv 1) pa_nil)) (pe_callTy call_int1 (by rfl) (T.free 96) bv_int (pa_cons (pe_cmpR op_ne (pv 1) (pe_str) (nomark _)) pa_nil)))) (pss_cons (ps_set (i := 3) sc_law_names.nd rfl (by first | exact Or.inl rfl | exact Or.inr rfl) (pe_lst (pa_nil))) (pss_cons (ps_for PassesOwn.never rfl (pi_list (pe_c (cal_law_inside T) hr (by decide) rfl (pa_cons (pv 0) (pa_cons (pv 1) pa_nil)))) (pg_name (i := 4) sc_law_names.nd rfl (by first | exact Or.inl rfl | exact Or.inr rfl)) (pss_cons (ps_set (i := 5) sc_law_names.nd rfl (by first | exact Or.inl rfl | exact Or.inr rfl) (pe_split (pe_slice sl_str (pv 4) (po_some (pv 2)) (po_none)) (pe_str))) (pss_cons (ps_set (i := 6) sc_law_names.nd rfl (by first | exact Or.inl rfl | exact Or.inr rfl) (pe_op op_add_str (pe_ix ix_list (pv 5) (pe_int) (fun _ _ => rfl)) (pe_op op_mulS (pe_str) (pe_callTy call_int1 (by rfl) (T.free 96) bv_int (pa_cons (pe_cmpR op_gt (pe_callB call_len_seq (by rfl) (T.free 85) bv_len (pa_cons (pv 5) pa_nil)) (pe_int) (nomark _)) pa_nil))))) (pss_one (ps_if (pt_cmpR op_notIn_seq (pv 6) (pv 3) (by rfl)) (pss_one (ps_expr (pe_bm PySem.F.plainAttrs_list PySem.F.slot_list_append PySem.F.type_list_append mt_append (pv 3) (pa_cons (pv 6) pa_nil)))) (pss_nil)))))) (pss_one (ps_ret (pe_callTy call_tuple_of (by rfl) (T.free 89) bv_tuple (pa_cons (pe_callB cr_sortedS (by rfl) (T.free 90) bv_sorted (pa_cons (pv 3) pa_nil)) pa_nil)))))), ?_⟩
    refine ⟨_, rfl, q, rfl, small (m := 100) (by omega), _, rfl, rfl, .inr ⟨_, rfl, _, _, rfl, rfl, ?_⟩⟩
    have est : (q.length : Int) + (if (!decide (V.str q = V.str "")) = true then 1 else 0) = if q = "" then 0 else (q.length : Int) + 1 := by
      by_cases e : q = ""
      · rw [if_pos e, decide_eq_true (by rw [e])]
        rw [e]
        rfl
      · rw [if_neg e, decide_eq_false (fun z => e (V.str.inj z))]
        rfl
    generalize hst : (q.length : Int) + (if (!decide (V.str q = V.str "")) = true then 1 else 0) = st at est
    have hst' : (fun i j => V.int (i + j)) (q.length : Int) (if (!decide (V.str q = V.str "")) = true then 1 else 0) = V.int st := by
      show V.int _ = V.int st
      rw [← hst]
    rw [hst']
    refine ⟨small (m := 0) (Nat.le_refl 0), fun B hB => ?_⟩
    have s0 : Same H (upd H B (.lst [])) := same_new hB
    refine ⟨_, rfl, _, rfl, v, D, F, q, rfl, tb.same s0, g, hq, fun H1 b s1 hbn hb => ⟨b, rfl, ⟨_, .inl (.inl hb)⟩, ?_⟩⟩
    have hbB : b ≠ B := fun z => by rw [z, upd_same] at hbn; cases hbn
    refine for_list (xs := (inside F q).map V.str) (fun i σ H' => ∃ v4 v5 v6 ks, σ = [some v, some (.str q), some (.int st), some (.ref B), v4, v5, v6] ∧ Same H H' ∧ H' B = some (.lst (ks.map V.str)) ∧ H' b = some (.lst ((inside F q).map V.str)) ∧ NmOk F q i ks) ⟨_, _, _, [], rfl, s0.trans s1, s1 _ _ upd_same, hb, ⟨List.nodup_nil, fun x => by simp, Nat.le_refl 0⟩⟩ (fun i σ H' _ ⟨_, _, _, _, _, _, _, q, _⟩ => .inl (.inl q)) ?_ ?_
    · rintro i y σ H2 hi ⟨v4, v5, v6, ks, rfl, s2, hl, hb2, hk⟩
      rw [List.getElem?_map] at hi
      obtain ⟨p, hp, rfl⟩ := Option.map_eq_some_iff.mp hi
      obtain ⟨p10, pin⟩ := inside_p10 (List.mem_of_getElem? hp)
      have hi10 : i < 10 := by
        have := (List.getElem?_eq_some_iff.mp hp).1
        omega
      have hbe := beh_len (q := q) p10
      have hcut : cutS p (some st) none = behind p q := by
        unfold behind
        rw [est]
      obtain ⟨n1, n2⟩ := lawName p p10 q hq pin
      obtain ⟨m1, m2⟩ := split_len p p10 q hq
      refine ⟨_, rfl, _, rfl, _, rfl, p, rfl, small (p11_len (p10_p11 p10)), ⟨_, rfl⟩, _, _, rfl, rfl, by decide +kernel, small (m := 200) (by rw [hcut]; omega), fun l hl' => ?_⟩
      rw [hcut]
      have s3 : Same H2 (upd H2 l (.lst ((Txt.split (behind p q) "/").map V.str))) := same_new hl'
      obtain ⟨x0, xr, hx⟩ : ∃ x0 xr, Txt.split (behind p q) "/" = x0 :: xr := by
        cases e : Txt.split (behind p q) "/" with
        | nil => exact absurd e n2
        | cons a r => exact ⟨a, r, rfl⟩
      have hsp : SqL K (upd H2 l (.lst ((Txt.split (behind p q) "/").map V.str))) l ((Txt.split (behind p q) "/").map V.str) := .inl (.inl upd_same)
      have hx0 : x0.length ≤ 50 := by rw [hx] at m2; exact m2
      have hat : atI ((Txt.split (behind p q) "/").map V.str) 0 = some (.str x0) := by rw [hx]; exact at0
      have hml : ((Txt.split (behind p q) "/").map V.str).length = (Txt.split (behind p q) "/").length := List.length_map ..
      have sl1 : ("/" : Str).length = 1 := rfl
      have hname : x0 ++ Txt.mul "/" (if decide ((1 : Int) < (((Txt.split (behind p q) "/").map V.str).length : Int)) = true then 1 else 0) = nameOf p q := by
        rw [← n1, hx]
        show x0 ++ _ = x0 ++ _
        congr 1
        by_cases h : 1 < (x0 :: xr).length
        · rw [if_pos h, if_pos (decide_eq_true (by rw [List.length_map]; omega)), mul1]
        · rw [if_neg h, if_neg (by rw [decide_eq_false (by rw [List.length_map]; omega)]; decide), mul0]
      refine ⟨_, rfl, l, _, 0, .str x0, rfl, rfl, hsp, hat, _, rfl, l, _, rfl, .inl hsp, _, _, rfl, rfl, .inr ⟨_, rfl, "/", _, rfl, rfl, ?_, _, _, rfl, rfl, ?_, ?_⟩⟩
      · split
        · exact mulok1
        · exact mulok0
      · refine small (m := 100) ?_
        split
        · rw [mul1]
          omega
        · rw [mul0]
          show x0.length + 0 ≤ 100
          omega
      have hname' : (x0 ++ Txt.mul "/" (if decide ((((Txt.split (behind p q) "/").map V.str).length : Int) > 1) = true then 1 else 0)) = nameOf p q := hname
      rw [hname']
      have nl : (nameOf p q).length ≤ 5 := (ok_ns _ (name_in p p10 q hq pin)).2
      refine ⟨_, rfl, _, rfl, B, ks.map V.str, rfl, .inl (.inl (.inl (s3 _ _ hl))), rfl, flat_strs ks, _, rfl, ?_⟩
      have ein : inV (.str (nameOf p q)) (ks.map V.str) = decide (nameOf p q ∈ ks) := inV_strs
      by_cases m : nameOf p q ∈ ks
      · refine iteEn (by show (!inV (.str (nameOf p q)) (ks.map V.str)) = false; rw [ein, decide_eq_true m]; rfl) ?_
        exact ⟨_, _, _, ks, rfl, s2.trans s3, s3 _ _ hl, s3 _ _ hb2, hk.skip hp m⟩
      · refine iteE (by show (!inV (.str (nameOf p q)) (ks.map V.str)) = true; rw [ein, decide_eq_false m]; rfl) ?_
        refine ⟨_, rfl, .inl ⟨rfl, _, .inl (.inl (s3 _ _ hl))⟩, _, rfl, B, _, _, rfl, rfl, s3 _ _ hl, smallt (m := 20) ?_, ?_⟩
        · rw [List.length_map]
          have := hk.len
          omega
        · refine ⟨_, _, _, ks ++ [nameOf p q], rfl, same_mut (s2.trans s3) hB, ?_, ?_, hk.add hp m⟩
          · rw [upd_same, List.map_append]
            rfl
          · rw [upd_ne hbB]
            exact s3 _ _ hb2
    · rintro σ H2 ⟨v4, v5, v6, ks, rfl, s2, hl, hb2, hk⟩
      rw [List.length_map] at hk
      have hkl := hk.len
      refine ⟨_, rfl, B, ks, rfl, .inl (.inl hl), by omega, fun ys c hp so hc => ?_⟩
      cases hk.names hq hp so
      refine ⟨c, _, rfl, .inl ⟨.inl (.inl upd_same), fun l hl' => ?_⟩⟩
      exact k _ l (s2.trans ((same_new hc).trans (same_new hl'))) upd_same
end
end Sa
/-! text H6 -/
/-! the law: found -/
namespace Sa
open PySem PySem.Spec L2 PyProof.Rows
section
variable {P : Program} {w : World} {K : PySem.W.Frag} {mg : Str → Option Value} {base : Heap}
/-- the rows of the first i keys -/
def foundI (F : Files) (q wd : Str) (i : Nat) : List (Str × Nat) := (((keys F).take i).filter fun p => isInB p q || decide (p = q)).flatMap fun p => rowsOf p wd ((F p).getD [])
theorem foundI_all {F : Files} {q wd : Str} : foundI F q wd (keys F).length = found F q wd := by
  unfold foundI found atOrIn
  rw [List.take_length]
theorem foundI_no {F : Files} {q wd p : Str} {i : Nat} (h : (keys F)[i]? = some p) (e : (isInB p q || decide (p = q)) = false) : foundI F q wd (i + 1) = foundI F q wd i := by
  unfold foundI
  rw [take_filter _ h, e, if_neg (by decide), List.append_nil]
theorem foundI_yes {F : Files} {q wd p : Str} {ls : List Str} {i : Nat} (h : (keys F)[i]? = some p) (e : (isInB p q || decide (p = q)) = true) (hF : F p = some ls) : foundI F q wd (i + 1) = foundI F q wd i ++ rowsOf p wd ls := by
  unfold foundI
  rw [take_filter _ h, e, if_pos rfl, List.flatMap_append]
  congr 1
  rw [List.flatMap_cons, List.flatMap_nil, List.append_nil, hF]
  rfl
theorem foundI_len {F : Files} {q wd : Str} {i : Nat} (g : GoodF F) : (foundI F q wd i).length ≤ 120 := by
  unfold foundI
  refine Nat.le_trans (sum_le (n := 12) fun p hp => ?_) ?_
  · refine Nat.le_trans (rows_len _ _ _) ?_
    cases e : F p with
    | none => exact Nat.zero_le _
    | some ls => exact (g.one p ls e).2.1
  · have : (((keys F).take i).filter fun p => isInB p q || decide (p = q)).length ≤ 10 := filter_le (keys_len F)
    omega
def rowsI (p wd : Str) (ls : List Str) (k : Nat) : List (Str × Nat) := (((List.range ls.length).take k).filter fun k => inLine wd (ls.getD k "")).map fun k => (p, k)
theorem rowsI_all {p wd : Str} {ls : List Str} : rowsI p wd ls ls.length = rowsOf p wd ls := by
  unfold rowsI rowsOf
  rw [List.take_of_length_le (by rw [List.length_range]; exact Nat.le_refl _)]
theorem DF.at {H : Hp} {kvs : List (Key × V)} {F : Files} {p : Str} {ls : List Str} (f : DF K H kvs F) (h : F p = some ls) : ∃ t, valV kvs (Sum.inr p) = some (.ref t) ∧ St1 K H t (ls.map V.str) := by
  rcases f.look p with ⟨e, _⟩ | ⟨v, ls', e1, e2, e3⟩
  · rw [h] at e
    cases e
  · rw [h] at e1
    cases e1
    obtain ⟨t, rfl, ht⟩ := Dt.linesI e3
    exact ⟨t, e2, ht⟩
def spLFound (K : PySem.W.Frag) : Sp := fun vs H Q _ => ∃ (v : V) (D : List Addr) (F : Files) (q wd : Str), vs = [v, .str q, .str wd] ∧ TabAt K D H v F ∧ GoodF F ∧ q ∈ P11 ∧ wd ∈ W4 ∧ ∀ H' a xs, Same H H' → H' a = some (.tup xs) → DtAll K H' xs ((found F q wd).map dRow) → Q (.ref a) H'
theorem sc_law_found : FnScope ["_law_table_here", "_law_place_here", "_law_word", "_law_rows", "_law_path_here", "_law_k"] ["_law_table_here", "_law_place_here", "_law_word"] (defScope s_law_found) := ⟨rfl, rfl, rfl, by decide +kernel, rfl, by decide +kernel, by decide +kernel⟩
theorem cal_law_found (T : Tx K mg) : Cal P w K mg base 1 "_law_found" (spLFound K) := by
  refine T.cal 81 43 (f_at (x := "_law_found") rfl) (g_at rfl) (N := ["_law_table_here", "_law_place_here", "_law_word", "_law_rows", "_law_path_here", "_law_k"]) (ps := ["_law_table_here", "_law_place_here", "_law_word"]) (fun _ _ _ _ _ _ us hl => match us, hl with | [_, _, _], _ => rfl) sc_law_found (fun vs H Q E h => ?_) (fun f cdv A outer s H vs Q E hr h => ?_)
  · obtain ⟨v, D, F, q, wd, rfl, _⟩ := h
    rfl
  · obtain ⟨v, D, F, q, wd, rfl, ⟨d, kvs, rfl, h2, n, f⟩, g, hq, hw, k⟩ := h
    obtain ⟨ks, e1, e2, e3⟩ := f.sorted g
    have hl0 := keys_len F
    have hq5 := len10 q hq
    refine ⟨_, pss_cons (ps_set (i := 3) sc_law_found.nd rfl (by first | exact Or.inl rfl | exact Or.inr rfl) (pe_lst (pa_nil))) (pss_cons (ps_for PassesOwn.never rfl (pi_list (pe_callB (call_sortedD rfl) (by rfl) (T.free 90) bv_sorted (pa_cons (pv 0) pa_nil))) (pg_name (i := 4) sc_law_found.nd rfl (by first | exact Or.inl rfl | exact Or.inr rfl)) (pss_one (ps_if (PW.pt (pw_or (pt_cmpR op_eq (pv 1) (pe_str) (nomark _)) (pw_or (pt_cmpR op_eq (pv 4) (pv 1) (nomark _)) (pw_or1 (pt_cmpR op_eq (pe_slice sl_str (pv 4) (po_none) (po_some (pe_op op_add (pe_callB call_len_str (by rfl) (T.free 85) bv_len (pa_cons (pv 1) pa_nil)) (pe_int)))) (pe_op op_add_str (pv 1) (pe_str)) (nomark _)))))) (pss_one (ps_for PassesOwn.never rfl (pi_range1 rfl (T.free 92) (pa_cons (pe_callB call_len_seq (by rfl) (T.free 85) bv_len (pa_cons (pe_dget (u1 hr) (pv 0) (pv 4) (fun _ _ => rfl)) pa_nil)) pa_nil)) (pg_name (i := 5) sc_law_found.nd rfl (by first | exact Or.inl rfl | exact Or.inr rfl)) (pss_one (ps_if (pt_cmpR op_in_str (pv 2) (pe_ix ix_tup (pe_dget (u1 hr) (pv 0) (pv 4) (fun _ _ => rfl)) (pv 5) (fun _ _ => rfl)) (by rfl)) (pss_one (ps_expr (pe_bm PySem.F.plainAttrs_list PySem.F.slot_list_append PySem.F.type_list_append mt_append (pv 3) (pa_cons (pe_tup (pa_cons (pv 4) (pa_cons (pv 5) pa_nil))) pa_nil)))) (pss_nil))))) (pss_nil)))) (pss_one (ps_ret (pe_callTy call_tuple_of (by rfl) (T.free 89) bv_tuple (pa_cons (pv 3) pa_nil))))), ?_⟩
    refine ⟨small (m := 0) (Nat.le_refl 0), fun B hB => ?_⟩
    have s0 : Same H (upd H B (.lst [])) := same_new hB
    refine ⟨_, rfl, d, kvs, ks, rfl, .inl (s0 _ _ h2), e1, e2, fun ys c hp so hc => ?_⟩
    cases e3 ys hp so
    have s1 : Same (upd H B (.lst [])) (upd (upd H B (.lst [])) c (.lst ((keys F).map V.str))) := same_new hc
    have hcB : c ≠ B := fun z => by rw [z, upd_same] at hc; cases hc
    refine ⟨c, rfl, ⟨_, .inl (.inl upd_same)⟩, ?_⟩
    refine for_list (xs := (keys F).map V.str) (fun i σ H' => ∃ v4 v5 zs, σ = [some (.ref d), some (.str q), some (.str wd), some (.ref B), v4, v5] ∧ Same H H' ∧ H' B = some (.lst zs) ∧ H' c = some (.lst ((keys F).map V.str)) ∧ DtAll K H' zs ((foundI F q wd i).map dRow)) ⟨_, _, [], rfl, s0.trans s1, s1 _ _ upd_same, upd_same, .nil⟩ (fun i σ H' _ ⟨_, _, _, _, _, _, q, _⟩ => .inl (.inl q)) ?_ ?_
    · rintro i y σ H3 hi ⟨v4, v5, zs, rfl, s3, hlB, hlc, hz⟩
      rw [List.getElem?_map] at hi
      obtain ⟨p, hp, rfl⟩ := Option.map_eq_some_iff.mp hi
      have p10 := keys_p10 (List.mem_of_getElem? hp)
      have p5 := len10 p (p10_p11 p10)
      obtain ⟨ls, hF⟩ := keys_get (List.mem_of_getElem? hp)
      have gls := (g.one p ls hF).2
      obtain ⟨t, ht1, ht2⟩ := f.at hF
      have hlaw := lawIn p p10 q hq
      have dg : ∀ {H' : Hp}, Same H H' → DGet H' d (.str p) (some (.ref t)) := fun s => by
        have q := DGet.k (k := Sum.inr p) (s _ _ h2)
        rw [ht1] at q
        exact q
      have hml : (ls.map V.str).length = ls.length := List.length_map ..
      have g12 := gls.1
      refine ⟨_, rfl, rfl, _, rfl, ?_⟩
      by_cases eq0 : q = ""
      · rw [decide_eq_true eq0, Bool.true_or] at hlaw
        refine iteP (by rw [eq0]) (iteE rfl ?_)
        have hyes : (isInB p q || decide (p = q)) = true := by rw [← hlaw, Bool.true_or]
        refine ⟨_, rfl, _, rfl, d, .ref t, rfl, dg s3, t, _, rfl, .inr (file_stt s3 ht2), (ls.length : Int), by rw [hml], by omega, by omega, for_range (fun j σ H' => ∃ v5 zs', σ = [some (.ref d), some (.str q), some (.str wd), some (.ref B), some (.str p), v5] ∧ Same H H' ∧ H' B = some (.lst zs') ∧ H' c = some (.lst ((keys F).map V.str)) ∧ DtAll K H' zs' ((foundI F q wd i ++ rowsI p wd ls j).map dRow)) ⟨_, zs, rfl, s3, hlB, hlc, by show DtAll K H3 zs ((foundI F q wd i ++ []).map dRow); rw [List.append_nil]; exact hz⟩ ?_ ?_⟩
        · rintro j σ H4 hj ⟨w5, zs', rfl, s4, hlB4, hlc4, hz4⟩
          have hj' : j < ls.length := by
            have e : ((ls.length : Int)).toNat = ls.length := rfl
            rw [e] at hj
            exact hj
          obtain ⟨l0, hl0⟩ : ∃ l0, ls[j]? = some l0 := ⟨_, List.getElem?_eq_getElem hj'⟩
          have hat : atI (ls.map V.str) (0 + (j : Int)) = some (.str l0) := by
            rw [Int.zero_add]
            exact atI_nat (by rw [List.getElem?_map, hl0]; rfl)
          have hrg : (List.range ls.length)[j]? = some j := List.getElem?_range hj'
          have tf := take_filter (fun k => inLine wd (ls.getD k "")) hrg
          have hgd : ls.getD j "" = l0 := by
            rw [List.getD_eq_getElem?_getD, hl0]
            rfl
          rw [hgd] at tf
          refine ⟨_, rfl, _, rfl, _, rfl, d, .ref t, rfl, dg s4, _, rfl, t, _, 0 + (j : Int), .str l0, rfl, rfl, file_stt s4 ht2, hat, _, _, rfl, rfl, _, rfl, ?_⟩
          cases eb2 : inLine wd l0 with
          | true =>
            rw [eb2] at tf
            refine iteE eb2 ⟨_, rfl, .inl ⟨rfl, _, .inl (.inl hlB4)⟩, _, rfl, _, rfl, small (m := 2) (Nat.le_refl 2), fun e he => ?_⟩
            have s5 : Same H4 (upd H4 e (.tup [.str p, .int (0 + (j : Int))])) := same_new he
            have hzl : zs'.length ≤ 240 := by
              rw [hz4.length, List.length_map, List.length_append]
              have := foundI_len (q := q) (wd := wd) (i := i) g
              have h2 : (rowsI p wd ls j).length ≤ 12 := by
                unfold rowsI
                rw [List.length_map]
                exact filter_le (by rw [List.length_range]; omega)
              omega
            refine ⟨B, zs', .ref e, rfl, rfl, s5 _ _ hlB4, smallt (m := 300) (by omega), ?_⟩
            refine ⟨_, zs' ++ [.ref e], rfl, same_mut (s4.trans s5) hB, upd_same, by rw [upd_ne hcB]; exact s5 _ _ hlc4, ?_⟩
            have tx : TX (upd H4 e (.tup [.str p, .int (0 + (j : Int))])) (upd (upd H4 e (.tup [.str p, .int (0 + (j : Int))])) B (.lst (zs' ++ [.ref e]))) := tx_upd (by rw [s5 _ _ hlB4]; rfl)
            have er : rowsI p wd ls (j + 1) = rowsI p wd ls j ++ [(p, j)] := by
              unfold rowsI
              rw [tf, List.map_append]
              rfl
            rw [er, ← List.append_assoc, List.map_append]
            refine DtAll.snoc ((hz4.same s5).tx tx) ?_
            have hd2 : Dt K (upd H4 e (.tup [.str p, .int (0 + (j : Int))])) (.ref e) (dRow (p, j)) := by
              refine Dt.two upd_same (.str p) ?_
              rw [Int.zero_add]
              exact .int _
            exact hd2.tx tx
          | false =>
            rw [eb2] at tf
            refine iteEn eb2 ⟨_, zs', rfl, s4, hlB4, hlc4, ?_⟩
            have er : rowsI p wd ls (j + 1) = rowsI p wd ls j := by
              unfold rowsI
              rw [tf, if_neg (by decide), List.append_nil]
            rw [er]
            exact hz4
        · rintro σ H4 ⟨w5, zs', rfl, s4, hlB4, hlc4, hz4⟩
          have e : ((ls.length : Int)).toNat = ls.length := rfl
          rw [e, rowsI_all, ← foundI_yes hp hyes hF] at hz4
          exact ⟨_, _, zs', rfl, s4, hlB4, hlc4, hz4⟩
      · rw [decide_eq_false eq0, Bool.false_or] at hlaw
        refine iteN (fun z => eq0 (V.str.inj z)) ⟨_, rfl, _, rfl, rfl, _, rfl, ?_⟩
        by_cases eqp : p = q
        · refine iteP (by rw [eqp]) (iteE rfl ?_)
          have hyes : (isInB p q || decide (p = q)) = true := by rw [decide_eq_true eqp, Bool.or_true]
          refine ⟨_, rfl, _, rfl, d, .ref t, rfl, dg s3, t, _, rfl, .inr (file_stt s3 ht2), (ls.length : Int), by rw [hml], by omega, by omega, for_range (fun j σ H' => ∃ v5 zs', σ = [some (.ref d), some (.str q), some (.str wd), some (.ref B), some (.str p), v5] ∧ Same H H' ∧ H' B = some (.lst zs') ∧ H' c = some (.lst ((keys F).map V.str)) ∧ DtAll K H' zs' ((foundI F q wd i ++ rowsI p wd ls j).map dRow)) ⟨_, zs, rfl, s3, hlB, hlc, by show DtAll K H3 zs ((foundI F q wd i ++ []).map dRow); rw [List.append_nil]; exact hz⟩ ?_ ?_⟩
          · rintro j σ H4 hj ⟨w5, zs', rfl, s4, hlB4, hlc4, hz4⟩
            have hj' : j < ls.length := by
              have e : ((ls.length : Int)).toNat = ls.length := rfl
              rw [e] at hj
              exact hj
            obtain ⟨l0, hl0⟩ : ∃ l0, ls[j]? = some l0 := ⟨_, List.getElem?_eq_getElem hj'⟩
            have hat : atI (ls.map V.str) (0 + (j : Int)) = some (.str l0) := by
              rw [Int.zero_add]
              exact atI_nat (by rw [List.getElem?_map, hl0]; rfl)
            have hrg : (List.range ls.length)[j]? = some j := List.getElem?_range hj'
            have tf := take_filter (fun k => inLine wd (ls.getD k "")) hrg
            have hgd : ls.getD j "" = l0 := by
              rw [List.getD_eq_getElem?_getD, hl0]
              rfl
            rw [hgd] at tf
            refine ⟨_, rfl, _, rfl, _, rfl, d, .ref t, rfl, dg s4, _, rfl, t, _, 0 + (j : Int), .str l0, rfl, rfl, file_stt s4 ht2, hat, _, _, rfl, rfl, _, rfl, ?_⟩
            cases eb2 : inLine wd l0 with
            | true =>
              rw [eb2] at tf
              refine iteE eb2 ⟨_, rfl, .inl ⟨rfl, _, .inl (.inl hlB4)⟩, _, rfl, _, rfl, small (m := 2) (Nat.le_refl 2), fun e he => ?_⟩
              have s5 : Same H4 (upd H4 e (.tup [.str p, .int (0 + (j : Int))])) := same_new he
              have hzl : zs'.length ≤ 240 := by
                rw [hz4.length, List.length_map, List.length_append]
                have := foundI_len (q := q) (wd := wd) (i := i) g
                have h2 : (rowsI p wd ls j).length ≤ 12 := by
                  unfold rowsI
                  rw [List.length_map]
                  exact filter_le (by rw [List.length_range]; omega)
                omega
              refine ⟨B, zs', .ref e, rfl, rfl, s5 _ _ hlB4, smallt (m := 300) (by omega), ?_⟩
              refine ⟨_, zs' ++ [.ref e], rfl, same_mut (s4.trans s5) hB, upd_same, by rw [upd_ne hcB]; exact s5 _ _ hlc4, ?_⟩
              have tx : TX (upd H4 e (.tup [.str p, .int (0 + (j : Int))])) (upd (upd H4 e (.tup [.str p, .int (0 + (j : Int))])) B (.lst (zs' ++ [.ref e]))) := tx_upd (by rw [s5 _ _ hlB4]; rfl)
              have er : rowsI p wd ls (j + 1) = rowsI p wd ls j ++ [(p, j)] := by
                unfold rowsI
                rw [tf, List.map_append]
                rfl
              rw [er, ← List.append_assoc, List.map_append]
              refine DtAll.snoc ((hz4.same s5).tx tx) ?_
              have hd2 : Dt K (upd H4 e (.tup [.str p, .int (0 + (j : Int))])) (.ref e) (dRow (p, j)) := by
                refine Dt.two upd_same (.str p) ?_
                rw [Int.zero_add]
                exact .int _
              exact hd2.tx tx
            | false =>
              rw [eb2] at tf
              refine iteEn eb2 ⟨_, zs', rfl, s4, hlB4, hlc4, ?_⟩
              have er : rowsI p wd ls (j + 1) = rowsI p wd ls j := by
                unfold rowsI
                rw [tf, if_neg (by decide), List.append_nil]
              rw [er]
              exact hz4
          · rintro σ H4 ⟨w5, zs', rfl, s4, hlB4, hlc4, hz4⟩
            have e : ((ls.length : Int)).toNat = ls.length := rfl
            rw [e, rowsI_all, ← foundI_yes hp hyes hF] at hz4
            exact ⟨_, _, zs', rfl, s4, hlB4, hlc4, hz4⟩
        · refine iteN (fun z => eqp (V.str.inj z)) ⟨_, rfl, _, rfl, q, rfl, small (m := 100) (by omega), _, _, rfl, rfl, _, rfl, p, rfl, small (m := 100) (by omega), _, rfl, _, _, rfl, rfl, small (m := 100) ?_, rfl, _, rfl, ?_⟩
          · have : ("/" : Str).length = 1 := rfl
            omega
          · have hc := str_dec.trans hlaw
            cases eb : isInB p q with
            | true =>
              rw [eb] at hc
              have hyes : (isInB p q || decide (p = q)) = true := by rw [eb, Bool.true_or]
              refine iteE hc ?_
              refine ⟨_, rfl, _, rfl, d, .ref t, rfl, dg s3, t, _, rfl, .inr (file_stt s3 ht2), (ls.length : Int), by rw [hml], by omega, by omega, for_range (fun j σ H' => ∃ v5 zs', σ = [some (.ref d), some (.str q), some (.str wd), some (.ref B), some (.str p), v5] ∧ Same H H' ∧ H' B = some (.lst zs') ∧ H' c = some (.lst ((keys F).map V.str)) ∧ DtAll K H' zs' ((foundI F q wd i ++ rowsI p wd ls j).map dRow)) ⟨_, zs, rfl, s3, hlB, hlc, by show DtAll K H3 zs ((foundI F q wd i ++ []).map dRow); rw [List.append_nil]; exact hz⟩ ?_ ?_⟩
              · rintro j σ H4 hj ⟨w5, zs', rfl, s4, hlB4, hlc4, hz4⟩
                have hj' : j < ls.length := by
                  have e : ((ls.length : Int)).toNat = ls.length := rfl
                  rw [e] at hj
                  exact hj
                obtain ⟨l0, hl0⟩ : ∃ l0, ls[j]? = some l0 := ⟨_, List.getElem?_eq_getElem hj'⟩
                have hat : atI (ls.map V.str) (0 + (j : Int)) = some (.str l0) := by
                  rw [Int.zero_add]
                  exact atI_nat (by rw [List.getElem?_map, hl0]; rfl)
                have hrg : (List.range ls.length)[j]? = some j := List.getElem?_range hj'
                have tf := take_filter (fun k => inLine wd (ls.getD k "")) hrg
                have hgd : ls.getD j "" = l0 := by
                  rw [List.getD_eq_getElem?_getD, hl0]
                  rfl
                rw [hgd] at tf
                refine ⟨_, rfl, _, rfl, _, rfl, d, .ref t, rfl, dg s4, _, rfl, t, _, 0 + (j : Int), .str l0, rfl, rfl, file_stt s4 ht2, hat, _, _, rfl, rfl, _, rfl, ?_⟩
                cases eb2 : inLine wd l0 with
                | true =>
                  rw [eb2] at tf
                  refine iteE eb2 ⟨_, rfl, .inl ⟨rfl, _, .inl (.inl hlB4)⟩, _, rfl, _, rfl, small (m := 2) (Nat.le_refl 2), fun e he => ?_⟩
                  have s5 : Same H4 (upd H4 e (.tup [.str p, .int (0 + (j : Int))])) := same_new he
                  have hzl : zs'.length ≤ 240 := by
                    rw [hz4.length, List.length_map, List.length_append]
                    have := foundI_len (q := q) (wd := wd) (i := i) g
                    have h2 : (rowsI p wd ls j).length ≤ 12 := by
                      unfold rowsI
                      rw [List.length_map]
                      exact filter_le (by rw [List.length_range]; omega)
                    omega
                  refine ⟨B, zs', .ref e, rfl, rfl, s5 _ _ hlB4, smallt (m := 300) (by omega), ?_⟩
                  refine ⟨_, zs' ++ [.ref e], rfl, same_mut (s4.trans s5) hB, upd_same, by rw [upd_ne hcB]; exact s5 _ _ hlc4, ?_⟩
                  have tx : TX (upd H4 e (.tup [.str p, .int (0 + (j : Int))])) (upd (upd H4 e (.tup [.str p, .int (0 + (j : Int))])) B (.lst (zs' ++ [.ref e]))) := tx_upd (by rw [s5 _ _ hlB4]; rfl)
                  have er : rowsI p wd ls (j + 1) = rowsI p wd ls j ++ [(p, j)] := by
                    unfold rowsI
                    rw [tf, List.map_append]
                    rfl
                  rw [er, ← List.append_assoc, List.map_append]
                  refine DtAll.snoc ((hz4.same s5).tx tx) ?_
                  have hd2 : Dt K (upd H4 e (.tup [.str p, .int (0 + (j : Int))])) (.ref e) (dRow (p, j)) := by
                    refine Dt.two upd_same (.str p) ?_
                    rw [Int.zero_add]
                    exact .int _
                  exact hd2.tx tx
                | false =>
                  rw [eb2] at tf
                  refine iteEn eb2 ⟨_, zs', rfl, s4, hlB4, hlc4, ?_⟩
                  have er : rowsI p wd ls (j + 1) = rowsI p wd ls j := by
                    unfold rowsI
                    rw [tf, if_neg (by decide), List.append_nil]
                  rw [er]
                  exact hz4
              · rintro σ H4 ⟨w5, zs', rfl, s4, hlB4, hlc4, hz4⟩
                have e : ((ls.length : Int)).toNat = ls.length := rfl
                rw [e, rowsI_all, ← foundI_yes hp hyes hF] at hz4
                exact ⟨_, _, zs', rfl, s4, hlB4, hlc4, hz4⟩
            | false =>
              rw [eb] at hc
              exact iteEn hc ⟨_, _, zs, rfl, s3, hlB, hlc, by rw [foundI_no hp (by rw [eb, decide_eq_false eqp]; rfl)]; exact hz⟩
    · rintro σ H3 ⟨v4, v5, zs, rfl, s3, hlB, hlc, hz⟩
      rw [List.length_map, foundI_all] at hz
      refine ⟨_, rfl, B, zs, rfl, .inl ⟨.inl (.inl hlB), fun l hl' => ?_⟩⟩
      have s6 : Same H3 (upd H3 l (.tup zs)) := same_new hl'
      exact k _ l zs (s3.trans s6) upd_same (hz.same s6)
end
end Sa
/-! text H7 -/
/-! the law: told -/
namespace Sa
open PySem PySem.Spec L2 PyProof.Rows
section
variable {P : Program} {w : World} {K : PySem.W.Frag} {mg : Str → Option Value} {base : Heap}
theorem DF.get {H : Hp} {d : Addr} {kvs : List (Key × V)} {F : Files} (f : DF K H kvs F) (h : H d = some (.dK kvs)) (p : Str) :
    (F p = none ∧ DGet H d (.str p) none) ∨ ∃ ls t, F p = some ls ∧ DGet H d (.str p) (some (.ref t)) ∧ Dt K H (.ref t) (dL ls) := by
  have q := DGet.k (k := Sum.inr p) h
  rcases f.look p with ⟨e, e2⟩ | ⟨v, ls, e1, e2, e3⟩
  · rw [e2] at q
    exact .inl ⟨e, q⟩
  · rw [e2] at q
    obtain ⟨t, rfl, _⟩ := Dt.linesI e3
    exact .inr ⟨ls, t, e1, q, e3⟩
theorem insB {F : Files} {q : Str} : (!(inside F q).isEmpty) = decide (0 < (inside F q).length) := by
  cases inside F q with
  | nil => rfl
  | cons a r => exact (decide_eq_true (by rw [List.length_cons]; omega)).symm
def spLTold (K : PySem.W.Frag) : Sp := fun vs H Q _ => ∃ (v x : V) (D : List Addr) (F : Files) (a : Act), vs = [v, x] ∧ TabAt K D H v F ∧ GoodF F ∧ Dt K H x (dA a) ∧ GoodA a ∧ isQ a = true ∧ ∀ H' y, Same H H' → Dt K H' y (dR (told F a)) → Q y H'
theorem sc_law_told : FnScope ["_law_table_here", "_law_action_here", "_law_word", "_law_place_here", "_law_folder"] ["_law_table_here", "_law_action_here"] (defScope s_law_told) := ⟨rfl, rfl, rfl, by decide +kernel, rfl, by decide +kernel, by decide +kernel⟩
theorem cal_law_told (T : Tx K mg) : Cal P w K mg base 3 "_law_told" (spLTold K) := by
  refine T.cal 82 44 (f_at (x := "_law_told") rfl) (g_at rfl) (N := ["_law_table_here", "_law_action_here", "_law_word", "_law_place_here", "_law_folder"]) (ps := ["_law_table_here", "_law_action_here"]) (fun _ _ _ _ _ _ us hl => match us, hl with | [_, _], _ => rfl) sc_law_told (fun vs H Q E h => ?_) (fun f cdv A outer s H vs Q E hr h => ?_)
  · obtain ⟨v, x, D, F, a, rfl, _⟩ := h
    rfl
  · obtain ⟨v, x, D, F, act, rfl, tb, g, hx, ga, iq, k⟩ := h
    obtain ⟨d, kvs, rfl, h2, nd, df⟩ := id tb
    refine ⟨_, pss_cons (ps_set (i := 2) sc_law_told.nd rfl (by first | exact Or.inl rfl | exact Or.inr rfl) (pe_ix ix_tup (pv 1) (pe_int) (fun _ _ => rfl))) (pss_cons (ps_set (i := 3) sc_law_told.nd rfl (by first | exact Or.inl rfl | exact Or.inr rfl) (pe_ix ix_tup (pv 1) (pe_int) (fun _ _ => rfl))) (pss_cons (ps_if (pt_cmpR op_eq (pv 2) (pe_str) (nomark _)) (pss_cons (ps_if (pt_cmp (pc_din (u1 hr) (pv 3) (pv 0))) (pss_one (ps_ret (pe_tup (pa_cons (pe_str) (pa_cons (pe_dget (u1 hr) (pv 0) (pv 3) (fun _ _ => rfl)) pa_nil))))) (pss_nil)) (pss_one (ps_ret (pe_tup (pa_cons (pe_str) pa_nil))))) (pss_nil)) (pss_cons (ps_set (i := 4) sc_law_told.nd rfl (by first | exact Or.inl rfl | exact Or.inr rfl) (pe_or (pe_cmpR op_eq (pv 3) (pe_str) (nomark _)) (pe_one (pe_cmpR (op_neD hr.units) (pe_c (cal_law_inside T) hr (by decide) rfl (pa_cons (pv 0) (pa_cons (pv 3) pa_nil))) (pe_lst (pa_nil)) (nomark _))))) (pss_cons (ps_if (PW.pt (pw_and (pt_cmpR op_eq (pv 2) (pe_str) (nomark _)) (pw_and1 (PW.pt (pw_or (pt_cmp (pc_din (u1 hr) (pv 3) (pv 0))) (pw_or1 (pt_val (pv 4)))))))) (pss_one (ps_ret (pe_tup (pa_cons (pe_str) (pa_cons (pe_c (cal_law_found T) hr (by decide) rfl (pa_cons (pv 0) (pa_cons (pv 3) (pa_cons (pe_ix ix_tup (pv 1) (pe_int) (fun _ _ => rfl)) pa_nil)))) pa_nil))))) (pss_nil)) (pss_cons (ps_if (PW.pt (pw_and (pt_cmpR op_eq (pv 2) (pe_str) (nomark _)) (pw_and1 (pt_cmp (pc_din (u1 hr) (pv 3) (pv 0)))))) (pss_one (ps_ret (pe_tup (pa_cons (pe_str) pa_nil)))) (pss_nil)) (pss_cons (ps_if (pt_not (pt_val (pv 4))) (pss_one (ps_ret (pe_tup (pa_cons (pe_str) pa_nil)))) (pss_nil)) (pss_cons (ps_if (pt_cmpR op_eq (pv 2) (pe_str) (nomark _)) (pss_one (ps_ret (pe_tup (pa_cons (pe_str) pa_nil)))) (pss_nil)) (pss_cons (ps_if (pt_cmpR op_eq (pv 2) (pe_str) (nomark _)) (pss_one (ps_ret (pe_tup (pa_cons (pe_str) (pa_cons (pe_callB call_len_seq (by rfl) (T.free 85) bv_len (pa_cons (pe_c (cal_law_inside T) hr (by decide) rfl (pa_cons (pv 0) (pa_cons (pv 3) pa_nil))) pa_nil)) pa_nil))))) (pss_nil)) (pss_one (ps_ret (pe_tup (pa_cons (pe_str) (pa_cons (pe_c (cal_law_names T) hr (by decide) rfl (pa_cons (pv 0) (pa_cons (pv 3) pa_nil))) pa_nil))))))))))))), ?_⟩
    cases act with
    | read q =>
      obtain ⟨t, x1, x2, rfl, hs, e1, e2⟩ := hx.twoI
      cases e1.strI
      cases e2.strI
      refine ⟨_, rfl, t, _, 0, _, rfl, rfl, hs.sq, rfl, _, rfl, t, _, 1, _, rfl, rfl, hs.sq, rfl, ?_⟩
      refine ⟨_, rfl, rfl, _, rfl, iteP (by decide +kernel) ⟨_, rfl, _, rfl, d, ?_⟩⟩
      rcases df.get h2 q with ⟨e, dg⟩ | ⟨ls, t3, e, dg, hl⟩
      · have et : dR (told F (.read q)) = dR .none := by simp only [told, e]
        exact ⟨_, rfl, dg, _, rfl, iteEn rfl ⟨small (m := 1) (Nat.le_refl 1), fun t2 ht2 => k _ _ (same_new ht2) (by rw [et]; exact Dt.one upd_same (.str _))⟩⟩
      · have et : dR (told F (.read q)) = .tuple [.str "lines", dL ls] := by simp only [told, e, dR]
        refine ⟨_, rfl, dg, _, rfl, iteE rfl ⟨_, rfl, _, rfl, d, .ref t3, rfl, dg, small (m := 2) (Nat.le_refl 2), fun t2 ht2 => k _ _ (same_new ht2) ?_⟩⟩
        rw [et]
        exact Dt.two upd_same (.str _) (hl.same (same_new ht2))
    | kind q =>
      obtain ⟨t, x1, x2, rfl, hs, e1, e2⟩ := hx.twoI
      cases e1.strI
      cases e2.strI
      refine ⟨_, rfl, t, _, 0, _, rfl, rfl, hs.sq, rfl, _, rfl, t, _, 1, _, rfl, rfl, hs.sq, rfl, ?_⟩
      refine ⟨_, rfl, rfl, _, rfl, iteN (by decide +kernel) ⟨_, rfl, rfl, _, rfl, ?_⟩⟩
      by_cases e0 : q = ""
      · have hfb0 : folderB F q = true := by unfold folderB; rw [decide_eq_true e0, Bool.true_or]
        refine iteP (by rw [e0]) ?_
        refine ⟨_, rfl, rfl, _, rfl, iteN (by decide +kernel) (iteEn rfl ?_)⟩
        refine ⟨_, rfl, rfl, _, rfl, iteP (by decide +kernel) ?_⟩
        rcases (df.tx (tx_same (Same.refl H))).get ((Same.refl H) _ _ h2) q with ⟨e, dg⟩ | ⟨ls, t3, e, dg, hl⟩
        · refine ⟨_, rfl, _, rfl, d, _, rfl, dg, _, rfl, iteEn rfl ⟨_, rfl, _, rfl, ?_⟩⟩
          cases hfb : folderB F q with
          | true =>
            have et : dR (told F (.kind q)) = dR .folder := by simp only [told, e, hfb, Option.isSome_none]; rfl
            refine iteEn rfl ⟨_, rfl, rfl, _, rfl, iteP (by decide +kernel) ⟨small (m := 1) (Nat.le_refl 1), fun t2 ht2 => k _ _ ((Same.refl H).trans (same_new ht2)) (by rw [et]; exact Dt.one upd_same (.str _))⟩⟩
          | false =>
            rw [hfb0] at hfb
            cases hfb
        · have et : dR (told F (.kind q)) = dR .file := by simp only [told, e, Option.isSome_some]; rfl
          exact ⟨_, rfl, _, rfl, d, _, rfl, dg, _, rfl, iteE rfl ⟨small (m := 1) (Nat.le_refl 1), fun t2 ht2 => k _ _ ((Same.refl H).trans (same_new ht2)) (by rw [et]; exact Dt.one upd_same (.str _))⟩⟩
      · refine iteN (fun z => e0 (V.str.inj z)) ⟨_, rfl, _, rfl, .ref d, D, F, q, rfl, tb, g, ga, fun H1 l1 s1 hn1 hl1 => ⟨small (m := 0) (Nat.le_refl 0), fun e1 he1 => ?_⟩⟩
        have s5 : Same H1 (upd H1 e1 (.lst [])) := same_new he1
        have s15 := s1.trans s5
        refine ne_nil (p10_ok5 fun x hx => (inside_p10 hx).1) (.inl (.inl (s5 _ _ hl1))) (.inl (.inl upd_same)) ?_
        have hfE : (!(inside F q).isEmpty) = folderB F q := by rw [insB]; unfold folderB; rw [decide_eq_false e0, Bool.false_or]
        rw [hfE]
        refine ⟨_, rfl, rfl, _, rfl, iteN (by decide +kernel) (iteEn rfl ?_)⟩
        refine ⟨_, rfl, rfl, _, rfl, iteP (by decide +kernel) ?_⟩
        rcases (df.tx (tx_same s15)).get (s15 _ _ h2) q with ⟨e, dg⟩ | ⟨ls, t3, e, dg, hl⟩
        · refine ⟨_, rfl, _, rfl, d, _, rfl, dg, _, rfl, iteEn rfl ⟨_, rfl, _, rfl, ?_⟩⟩
          cases hfb : folderB F q with
          | true =>
            have et : dR (told F (.kind q)) = dR .folder := by simp only [told, e, hfb, Option.isSome_none]; rfl
            refine iteEn rfl ⟨_, rfl, rfl, _, rfl, iteP (by decide +kernel) ⟨small (m := 1) (Nat.le_refl 1), fun t2 ht2 => k _ _ (s15.trans (same_new ht2)) (by rw [et]; exact Dt.one upd_same (.str _))⟩⟩
          | false =>
            have et : dR (told F (.kind q)) = dR .none := by simp only [told, e, hfb, Option.isSome_none]; rfl
            refine iteE rfl ⟨small (m := 1) (Nat.le_refl 1), fun t2 ht2 => k _ _ (s15.trans (same_new ht2)) (by rw [et]; exact Dt.one upd_same (.str _))⟩
        · have et : dR (told F (.kind q)) = dR .file := by simp only [told, e, Option.isSome_some]; rfl
          exact ⟨_, rfl, _, rfl, d, _, rfl, dg, _, rfl, iteE rfl ⟨small (m := 1) (Nat.le_refl 1), fun t2 ht2 => k _ _ (s15.trans (same_new ht2)) (by rw [et]; exact Dt.one upd_same (.str _))⟩⟩
    | list q =>
      obtain ⟨t, x1, x2, rfl, hs, e1, e2⟩ := hx.twoI
      cases e1.strI
      cases e2.strI
      refine ⟨_, rfl, t, _, 0, _, rfl, rfl, hs.sq, rfl, _, rfl, t, _, 1, _, rfl, rfl, hs.sq, rfl, ?_⟩
      refine ⟨_, rfl, rfl, _, rfl, iteN (by decide +kernel) ⟨_, rfl, rfl, _, rfl, ?_⟩⟩
      by_cases e0 : q = ""
      · have hfb0 : folderB F q = true := by unfold folderB; rw [decide_eq_true e0, Bool.true_or]
        refine iteP (by rw [e0]) ?_
        refine ⟨_, rfl, rfl, _, rfl, iteN (by decide +kernel) (iteEn rfl ?_)⟩
        refine ⟨_, rfl, rfl, _, rfl, iteN (by decide +kernel) (iteEn rfl ⟨_, rfl, _, rfl, ?_⟩)⟩
        cases hfb : folderB F q with
        | false =>
          rw [hfb0] at hfb
          cases hfb
        | true =>
          have et : dR (told F (.list q)) = .tuple [.str "names", dL (names F q)] := by simp only [told, hfb, dR]; rfl
          refine iteEn rfl ⟨_, rfl, rfl, _, rfl, iteN (by decide +kernel) ⟨_, rfl, rfl, _, rfl, iteN (by decide +kernel) ?_⟩⟩
          refine ⟨_, rfl, _, rfl, .ref d, D, F, q, rfl, tb.same (Same.refl H), g, ga, fun H3 b3 s3 hb => ⟨small (m := 2) (Nat.le_refl 2), fun t2 ht2 => k _ _ (((Same.refl H).trans s3).trans (same_new ht2)) ?_⟩⟩
          rw [et]
          exact Dt.two upd_same (.str _) ((Dt.lines hb).same (same_new ht2))
      · refine iteN (fun z => e0 (V.str.inj z)) ⟨_, rfl, _, rfl, .ref d, D, F, q, rfl, tb, g, ga, fun H1 l1 s1 hn1 hl1 => ⟨small (m := 0) (Nat.le_refl 0), fun e1 he1 => ?_⟩⟩
        have s5 : Same H1 (upd H1 e1 (.lst [])) := same_new he1
        have s15 := s1.trans s5
        refine ne_nil (p10_ok5 fun x hx => (inside_p10 hx).1) (.inl (.inl (s5 _ _ hl1))) (.inl (.inl upd_same)) ?_
        have hfE : (!(inside F q).isEmpty) = folderB F q := by rw [insB]; unfold folderB; rw [decide_eq_false e0, Bool.false_or]
        rw [hfE]
        refine ⟨_, rfl, rfl, _, rfl, iteN (by decide +kernel) (iteEn rfl ?_)⟩
        refine ⟨_, rfl, rfl, _, rfl, iteN (by decide +kernel) (iteEn rfl ⟨_, rfl, _, rfl, ?_⟩)⟩
        cases hfb : folderB F q with
        | false =>
          have et : dR (told F (.list q)) = dR .none := by simp only [told, hfb]; rfl
          refine iteE rfl ⟨small (m := 1) (Nat.le_refl 1), fun t2 ht2 => k _ _ (s15.trans (same_new ht2)) (by rw [et]; exact Dt.one upd_same (.str _))⟩
        | true =>
          have et : dR (told F (.list q)) = .tuple [.str "names", dL (names F q)] := by simp only [told, hfb, dR]; rfl
          refine iteEn rfl ⟨_, rfl, rfl, _, rfl, iteN (by decide +kernel) ⟨_, rfl, rfl, _, rfl, iteN (by decide +kernel) ?_⟩⟩
          refine ⟨_, rfl, _, rfl, .ref d, D, F, q, rfl, tb.same s15, g, ga, fun H3 b3 s3 hb => ⟨small (m := 2) (Nat.le_refl 2), fun t2 ht2 => k _ _ ((s15.trans s3).trans (same_new ht2)) ?_⟩⟩
          rw [et]
          exact Dt.two upd_same (.str _) ((Dt.lines hb).same (same_new ht2))
    | count q =>
      obtain ⟨t, x1, x2, rfl, hs, e1, e2⟩ := hx.twoI
      cases e1.strI
      cases e2.strI
      refine ⟨_, rfl, t, _, 0, _, rfl, rfl, hs.sq, rfl, _, rfl, t, _, 1, _, rfl, rfl, hs.sq, rfl, ?_⟩
      refine ⟨_, rfl, rfl, _, rfl, iteN (by decide +kernel) ⟨_, rfl, rfl, _, rfl, ?_⟩⟩
      by_cases e0 : q = ""
      · have hfb0 : folderB F q = true := by unfold folderB; rw [decide_eq_true e0, Bool.true_or]
        refine iteP (by rw [e0]) ?_
        refine ⟨_, rfl, rfl, _, rfl, iteN (by decide +kernel) (iteEn rfl ?_)⟩
        refine ⟨_, rfl, rfl, _, rfl, iteN (by decide +kernel) (iteEn rfl ⟨_, rfl, _, rfl, ?_⟩)⟩
        cases hfb : folderB F q with
        | false =>
          rw [hfb0] at hfb
          cases hfb
        | true =>
          have et : dR (told F (.count q)) = .tuple [.str "many", .int ((inside F q).length : Int)] := by simp only [told, hfb, dR]; rfl
          refine iteEn rfl ⟨_, rfl, rfl, _, rfl, iteN (by decide +kernel) ⟨_, rfl, rfl, _, rfl, iteP (by decide +kernel) ?_⟩⟩
          refine ⟨_, rfl, _, rfl, .ref d, D, F, q, rfl, tb.same (Same.refl H), g, ga, fun H3 l3 s3 hn3 hb => ⟨l3, _, rfl, .inl (.inl (.inl hb)), small (m := 2) (Nat.le_refl 2), fun t2 ht2 => k _ _ (((Same.refl H).trans s3).trans (same_new ht2)) ?_⟩⟩
          rw [et, List.length_map]
          exact Dt.two upd_same (.str _) (.int _)
      · refine iteN (fun z => e0 (V.str.inj z)) ⟨_, rfl, _, rfl, .ref d, D, F, q, rfl, tb, g, ga, fun H1 l1 s1 hn1 hl1 => ⟨small (m := 0) (Nat.le_refl 0), fun e1 he1 => ?_⟩⟩
        have s5 : Same H1 (upd H1 e1 (.lst [])) := same_new he1
        have s15 := s1.trans s5
        refine ne_nil (p10_ok5 fun x hx => (inside_p10 hx).1) (.inl (.inl (s5 _ _ hl1))) (.inl (.inl upd_same)) ?_
        have hfE : (!(inside F q).isEmpty) = folderB F q := by rw [insB]; unfold folderB; rw [decide_eq_false e0, Bool.false_or]
        rw [hfE]
        refine ⟨_, rfl, rfl, _, rfl, iteN (by decide +kernel) (iteEn rfl ?_)⟩
        refine ⟨_, rfl, rfl, _, rfl, iteN (by decide +kernel) (iteEn rfl ⟨_, rfl, _, rfl, ?_⟩)⟩
        cases hfb : folderB F q with
        | false =>
          have et : dR (told F (.count q)) = dR .none := by simp only [told, hfb]; rfl
          refine iteE rfl ⟨small (m := 1) (Nat.le_refl 1), fun t2 ht2 => k _ _ (s15.trans (same_new ht2)) (by rw [et]; exact Dt.one upd_same (.str _))⟩
        | true =>
          have et : dR (told F (.count q)) = .tuple [.str "many", .int ((inside F q).length : Int)] := by simp only [told, hfb, dR]; rfl
          refine iteEn rfl ⟨_, rfl, rfl, _, rfl, iteN (by decide +kernel) ⟨_, rfl, rfl, _, rfl, iteP (by decide +kernel) ?_⟩⟩
          refine ⟨_, rfl, _, rfl, .ref d, D, F, q, rfl, tb.same s15, g, ga, fun H3 l3 s3 hn3 hb => ⟨l3, _, rfl, .inl (.inl (.inl hb)), small (m := 2) (Nat.le_refl 2), fun t2 ht2 => k _ _ ((s15.trans s3).trans (same_new ht2)) ?_⟩⟩
          rw [et, List.length_map]
          exact Dt.two upd_same (.str _) (.int _)
    | find q wd =>
      obtain ⟨t, x1, x2, x3, rfl, hs, e1, e2, e3⟩ := hx.threeI
      cases e1.strI
      cases e2.strI
      cases e3.strI
      refine ⟨_, rfl, t, _, 0, _, rfl, rfl, hs.sq, rfl, _, rfl, t, _, 1, _, rfl, rfl, hs.sq, rfl, ?_⟩
      refine ⟨_, rfl, rfl, _, rfl, iteN (by decide +kernel) ⟨_, rfl, rfl, _, rfl, ?_⟩⟩
      by_cases e0 : q = ""
      · have hfb0 : folderB F q = true := by unfold folderB; rw [decide_eq_true e0, Bool.true_or]
        refine iteP (by rw [e0]) ?_
        refine ⟨_, rfl, rfl, _, rfl, iteP (by decide +kernel) ?_⟩
        rcases (df.tx (tx_same (Same.refl H))).get ((Same.refl H) _ _ h2) q with ⟨e, dg⟩ | ⟨ls, t3, e, dg, hl⟩
        · refine ⟨_, rfl, _, rfl, d, _, rfl, dg, _, rfl, iteEn rfl ⟨_, rfl, _, rfl, ?_⟩⟩
          cases hfb : folderB F q with
          | true =>
            have et : dR (told F (.find q wd)) = .tuple [.str "found", .tuple ((found F q wd).map dRow)] := by simp only [told, e, hfb, Bool.or_true, dR]; rfl
            refine iteE rfl ⟨_, rfl, _, rfl, _, rfl, t, _, 2, _, rfl, rfl, file_stt (Same.refl H) hs, rfl, .ref d, D, F, q, wd, rfl, tb.same (Same.refl H), g, ga.1, ga.2, fun H3 b3 xs s3 hb hd => ⟨small (m := 2) (Nat.le_refl 2), fun t2 ht2 => k _ _ (((Same.refl H).trans s3).trans (same_new ht2)) ?_⟩⟩
            rw [et]
            exact Dt.two upd_same (.str _) ((Dt.new hb hd).same (same_new ht2))
          | false =>
            rw [hfb0] at hfb
            cases hfb
        · have et : dR (told F (.find q wd)) = .tuple [.str "found", .tuple ((found F q wd).map dRow)] := by simp only [told, e, Option.isSome_some, Bool.true_or, dR]; rfl
          refine ⟨_, rfl, _, rfl, d, _, rfl, dg, _, rfl, iteE rfl (iteE rfl ⟨_, rfl, _, rfl, _, rfl, t, _, 2, _, rfl, rfl, file_stt (Same.refl H) hs, rfl, .ref d, D, F, q, wd, rfl, tb.same (Same.refl H), g, ga.1, ga.2, fun H3 b3 xs s3 hb hd => ⟨small (m := 2) (Nat.le_refl 2), fun t2 ht2 => k _ _ (((Same.refl H).trans s3).trans (same_new ht2)) ?_⟩⟩)⟩
          rw [et]
          exact Dt.two upd_same (.str _) ((Dt.new hb hd).same (same_new ht2))
      · refine iteN (fun z => e0 (V.str.inj z)) ⟨_, rfl, _, rfl, .ref d, D, F, q, rfl, tb, g, ga.1, fun H1 l1 s1 hn1 hl1 => ⟨small (m := 0) (Nat.le_refl 0), fun e1 he1 => ?_⟩⟩
        have s5 : Same H1 (upd H1 e1 (.lst [])) := same_new he1
        have s15 := s1.trans s5
        refine ne_nil (p10_ok5 fun x hx => (inside_p10 hx).1) (.inl (.inl (s5 _ _ hl1))) (.inl (.inl upd_same)) ?_
        have hfE : (!(inside F q).isEmpty) = folderB F q := by rw [insB]; unfold folderB; rw [decide_eq_false e0, Bool.false_or]
        rw [hfE]
        refine ⟨_, rfl, rfl, _, rfl, iteP (by decide +kernel) ?_⟩
        rcases (df.tx (tx_same s15)).get (s15 _ _ h2) q with ⟨e, dg⟩ | ⟨ls, t3, e, dg, hl⟩
        · refine ⟨_, rfl, _, rfl, d, _, rfl, dg, _, rfl, iteEn rfl ⟨_, rfl, _, rfl, ?_⟩⟩
          cases hfb : folderB F q with
          | true =>
            have et : dR (told F (.find q wd)) = .tuple [.str "found", .tuple ((found F q wd).map dRow)] := by simp only [told, e, hfb, Bool.or_true, dR]; rfl
            refine iteE rfl ⟨_, rfl, _, rfl, _, rfl, t, _, 2, _, rfl, rfl, file_stt s15 hs, rfl, .ref d, D, F, q, wd, rfl, tb.same s15, g, ga.1, ga.2, fun H3 b3 xs s3 hb hd => ⟨small (m := 2) (Nat.le_refl 2), fun t2 ht2 => k _ _ ((s15.trans s3).trans (same_new ht2)) ?_⟩⟩
            rw [et]
            exact Dt.two upd_same (.str _) ((Dt.new hb hd).same (same_new ht2))
          | false =>
            have et : dR (told F (.find q wd)) = dR .none := by simp only [told, e, hfb, Option.isSome_none]; rfl
            refine iteEn rfl ⟨_, rfl, rfl, _, rfl, iteN (by decide +kernel) (iteEn rfl ⟨_, rfl, _, rfl, iteE rfl ⟨small (m := 1) (Nat.le_refl 1), fun t2 ht2 => k _ _ (s15.trans (same_new ht2)) (by rw [et]; exact Dt.one upd_same (.str _))⟩⟩)⟩
        · have et : dR (told F (.find q wd)) = .tuple [.str "found", .tuple ((found F q wd).map dRow)] := by simp only [told, e, Option.isSome_some, Bool.true_or, dR]; rfl
          refine ⟨_, rfl, _, rfl, d, _, rfl, dg, _, rfl, iteE rfl (iteE rfl ⟨_, rfl, _, rfl, _, rfl, t, _, 2, _, rfl, rfl, file_stt s15 hs, rfl, .ref d, D, F, q, wd, rfl, tb.same s15, g, ga.1, ga.2, fun H3 b3 xs s3 hb hd => ⟨small (m := 2) (Nat.le_refl 2), fun t2 ht2 => k _ _ ((s15.trans s3).trans (same_new ht2)) ?_⟩⟩)⟩
          rw [et]
          exact Dt.two upd_same (.str _) ((Dt.new hb hd).same (same_new ht2))
    | write => cases iq
    | remove => cases iq
    | move => cases iq
    | splice => cases iq
end
end Sa
/-! text H8 -/
/-! the law: a table with one change -/
namespace Sa
open PySem PySem.Spec L2 PyProof.Rows
def withF (F : Files) (p : Str) : Option (List Str) → Files
  | none => del F p
  | some ls => put F p ls
theorem take_nd {α : Type} {κ : Type} [DecidableEq κ] {l : List (κ × α)} {i : Nat} {k : κ} {v : α} (nd : (l.map (·.1)).Nodup) (h : l[i]? = some (k, v)) : k ∉ (l.take i).map (·.1) := fun hm => by
  rw [List.map_take] at hm
  have hi := (List.getElem?_eq_some_iff.mp h).1
  obtain ⟨j, hj, e⟩ := List.mem_take_iff_getElem.mp hm
  have hl : (l.map (·.1)).length = l.length := List.length_map ..
  have hji : j < i := by omega
  have := List.pairwise_iff_getElem.mp nd j i (by omega) (by omega) hji
  rw [e, List.getElem_map, (List.getElem?_eq_some_iff.mp h).2] at this
  exact this rfl
section
variable {P : Program} {w : World} {K : PySem.W.Frag} {mg : Str → Option Value} {base : Heap}
theorem DF.of_val {H : Hp} {kvs : List (Key × V)} {F : Files} (nd : (kvs.map (·.1)).Nodup) (h1 : ∀ k v, valV kvs k = some v → ∃ p ls, k = Sum.inr p ∧ F p = some ls ∧ Dt K H v (dL ls)) (h2 : ∀ p ls, F p = some ls → ∃ v, valV kvs (Sum.inr p) = some v) : DF K H kvs F :=
  ⟨nd, fun k v h => h1 k v (valV_of_mem nd h), fun p ls h => by
    obtain ⟨v, e⟩ := h2 p ls h
    exact ⟨v, mem_of_valV e⟩⟩
theorem DF.val {H : Hp} {kvs : List (Key × V)} {F : Files} (f : DF K H kvs F) {k : Key} {v : V} (h : valV kvs k = some v) : ∃ p ls, k = Sum.inr p ∧ F p = some ls ∧ Dt K H v (dL ls) := f.fst k v (mem_of_valV h)
theorem DF.val2 {H : Hp} {kvs : List (Key × V)} {F : Files} (f : DF K H kvs F) {p : Str} {ls : List Str} (h : F p = some ls) : ∃ v, valV kvs (Sum.inr p) = some v := by
  obtain ⟨v, e⟩ := f.snd p ls h
  exact ⟨v, valV_of_mem f.nd e⟩
theorem DF.putK {H : Hp} {kvs : List (Key × V)} {F : Files} {p : Str} {ls : List Str} {v : V} (f : DF K H kvs F) (hv : Dt K H v (dL ls)) : DF K H (L2.putK kvs (Sum.inr p) v) (put F p ls) := by
  refine DF.of_val ?_ (fun k x h => ?_) fun q ms h => ?_
  · rw [keys_putK]
    split
    · exact f.nd
    · rename_i hn
      refine List.nodup_append.mpr ⟨f.nd, by simp, fun a ha b hb => ?_⟩
      rw [List.mem_singleton.mp hb]
      rintro rfl
      obtain ⟨⟨k, x⟩, hm, e⟩ := List.mem_map.mp ha
      have e' : k = Sum.inr p := e
      rw [e'] at hm
      rw [valV_of_mem f.nd hm] at hn
      exact hn rfl
  · rw [valV_put] at h
    split at h
    · rename_i e
      cases h
      exact ⟨p, ls, e, put_same, hv⟩
    · rename_i e
      obtain ⟨q, ms, e1, e2, e3⟩ := f.val h
      exact ⟨q, ms, e1, by rw [put_ne (fun z => e (by rw [e1, z]))]; exact e2, e3⟩
  · rw [valV_put]
    by_cases e : q = p
    · rw [e, if_pos rfl]
      exact ⟨v, rfl⟩
    · rw [put_ne e] at h
      rw [if_neg (fun z => e (Sum.inr.inj z))]
      exact f.val2 h
theorem valV_drop {κ : Type} [DecidableEq κ] {kvs : List (κ × V)} {k j : κ} (nd : (kvs.map (·.1)).Nodup) : valV (dropK kvs k) j = if j = k then none else valV kvs j := by
  have nd' := nd_dropK (k := k) nd
  by_cases e : j = k
  · rw [if_pos e]
    cases q : valV (dropK kvs k) j with
    | none => rfl
    | some v =>
      have hm := mem_of_valV q
      unfold dropK at hm
      have := (List.mem_filter.mp hm).2
      rw [decide_eq_false (by rw [e]; exact fun z => z rfl)] at this
      cases this
  · rw [if_neg e]
    cases q : valV kvs j with
    | none =>
      cases q2 : valV (dropK kvs k) j with
      | none => rfl
      | some v =>
        have := valV_of_mem nd (dropK_mem (mem_of_valV q2))
        rw [q] at this
        cases this
    | some v =>
      refine valV_of_mem nd' ?_
      unfold dropK
      exact List.mem_filter.mpr ⟨mem_of_valV q, decide_eq_true e⟩
theorem DF.dropK {H : Hp} {kvs : List (Key × V)} {F : Files} {p : Str} (f : DF K H kvs F) : DF K H (L2.dropK kvs (Sum.inr p)) (del F p) := by
  refine DF.of_val (nd_dropK f.nd) (fun k x h => ?_) fun q ms h => ?_
  · rw [valV_drop f.nd] at h
    split at h
    · cases h
    · rename_i e
      obtain ⟨q, ms, e1, e2, e3⟩ := f.val h
      exact ⟨q, ms, e1, by rw [del_ne (fun z => e (by rw [e1, z]))]; exact e2, e3⟩
  · by_cases e : q = p
    · rw [e, del_same] at h
      cases h
    · rw [del_ne e] at h
      rw [valV_drop f.nd, if_neg (fun z => e (Sum.inr.inj z))]
      exact f.val2 h
def spLWith (K : PySem.W.Frag) : Sp := fun vs H Q _ => ∃ (v x : V) (D : List Addr) (F : Files) (p : Str) (o : Option (List Str)), vs = [v, .str p, x] ∧ TabAt K D H v F ∧ GoodF F ∧ Dok D H ∧ (o = none → x = .non ∧ ∃ ls, F p = some ls) ∧ (∀ ls, o = some ls → Dt K H x (dL ls)) ∧
  ∀ H' z, Same H H' → TabAt K D H' z (withF F p o) → Q z H'
theorem sc_law_with : FnScope ["_law_table_here", "_law_path_here", "_law_lines_here", "_law_other", "_law_one"] ["_law_table_here", "_law_path_here", "_law_lines_here"] (defScope s_law_with) := ⟨rfl, rfl, rfl, by decide +kernel, rfl, by decide +kernel, by decide +kernel⟩
theorem cal_law_with (T : Tx K mg) : Cal P w K mg base 1 "_law_with" (spLWith K) := by
  refine T.cal 83 45 (f_at (x := "_law_with") rfl) (g_at rfl) (N := ["_law_table_here", "_law_path_here", "_law_lines_here", "_law_other", "_law_one"]) (ps := ["_law_table_here", "_law_path_here", "_law_lines_here"]) (fun _ _ _ _ _ _ us hl => match us, hl with | [_, _, _], _ => rfl) sc_law_with (fun vs H Q E h => ?_) (fun f cdv A outer s H vs Q E hr h => ?_)
  · obtain ⟨v, x, D, F, p, o, rfl, _⟩ := h
    rfl
  · obtain ⟨v, x, D, F, p, o, rfl, ⟨d, kvs, rfl, h2, nD, df⟩, g, ok, c1, c2, k⟩ := h
    have kl := df.len g
    refine ⟨_, pss_cons (ps_set (i := 3) sc_law_with.nd rfl (by first | exact Or.inl rfl | exact Or.inr rfl) (pe_dnewK)) (pss_cons (ps_lock (ps_for PassesOwn.never rfl (pi_keys (pv 0)) (pg_name (i := 4) sc_law_with.nd rfl (by first | exact Or.inl rfl | exact Or.inr rfl)) (pss_one (ps_dput (u1 hr) (pv 3) (pv 4) (pe_dget (u1 hr) (pv 0) (pv 4) (fun _ _ => rfl)) rfl)))) (pss_cons (ps_if (pt_cmp (pc_isN (pv 2))) (pss_one (ps_expr (pe_dpop1 (pv 3) (pv 1) ⟨rfl, rfl, rfl, rfl⟩))) (pss_one (ps_dput (u1 hr) (pv 3) (pv 1) (pe_callTy call_tuple_of (by rfl) (T.free 89) bv_tuple (pa_cons (pv 2) pa_nil)) rfl))) (pss_one (ps_ret (pv 3))))), ?_⟩
    refine fun e he => ?_
    have hde : d ≠ e := ne_of_none h2 he
    have hd1 : upd H e (.dK []) d = some (.dK kvs) := by rw [upd_ne hde]; exact h2
    have nDe : e ∉ D := ok.out he
    refine ⟨d, .dK kvs, hd1, trivial, fun od => ?_⟩
    have hf0 : ∀ a u, H a = some u → a ≠ d → upd (upd H e (.dK [])) d (.frz od (.dK kvs)) a = some u := fun a u h n => by rw [upd_ne n, upd_ne (ne_of_none h he)]; exact h
    refine ⟨_, rfl, d, od, rfl, .inl ⟨kvs, upd_same, for_it walk_keys (fun i σ H' => ∃ v4, σ = [some (.ref d), some (.str p), some x, some (.ref e), v4] ∧ (∀ a u, H a = some u → a ≠ d → H' a = some u) ∧ H' d = some (.frz od (.dK kvs)) ∧ H' e = some (.dK (kvs.take i))) ⟨_, rfl, hf0, upd_same, by rw [upd_ne (Ne.symm hde)]; exact upd_same⟩ (fun i σ H' _ ⟨_, _, _, q, _⟩ => q) ?_ ?_⟩⟩
    · rintro i y σ H0 H1 hi ⟨v4, rfl, q1, q2, q3⟩ ⟨rfl, kk, vv, hkv, rfl⟩
      have hm := List.mem_of_getElem? hkv
      have hval := valV_of_mem df.nd hm
      refine ⟨_, rfl, _, rfl, d, vv, rfl, .inl ⟨kvs, kk, .inr ⟨od, q2⟩, rfl, hval.symm⟩, _, rfl, _, rfl, e, _, rfl, DPut.k (k := kk) q3 (smallt (m := 10) (by rw [List.length_take]; omega)), ?_⟩
      have hnone : valV (kvs.take i) kk = none := by
        cases q : valV (kvs.take i) kk with
        | none => rfl
        | some x => exact absurd (valV_in q) (take_nd df.nd hkv)
      have ept : L2.putK (kvs.take i) kk vv = kvs.take (i + 1) := by
        rw [putK_new vv hnone, List.take_succ, hkv]
        rfl
      rw [ept]
      exact ⟨_, rfl, fun a u h n => by rw [upd_ne (ne_of_none h he)]; exact q1 a u h n, by rw [upd_ne hde]; exact q2, upd_same⟩
    · rintro σ H1 ⟨v4, rfl, q1, q2, q3⟩
      rw [List.take_length] at q3
      refine ⟨q2, ?_⟩
      have s2 : Same H (upd H1 d (.dK kvs)) := fun a u h => by
        by_cases z : a = d
        · rw [z] at h ⊢
          rw [upd_same, ← h2, h]
        · rw [upd_ne z]
          exact q1 a u h z
      have he2 : upd H1 d (.dK kvs) e = some (.dK kvs) := by rw [upd_ne (Ne.symm hde)]; exact q3
      have df2 := df.tx (tx_same s2)
      cases o with
      | none =>
        obtain ⟨rfl, ls, hF⟩ := c1 rfl
        obtain ⟨v0, hv0⟩ := df2.val2 hF
        refine ⟨_, rfl, _, rfl, iteP rfl ⟨_, rfl, e, rfl, .inl ⟨kvs, .inl he2⟩, _, rfl, kvs, Sum.inr p, v0, he2, rfl, hv0, _, rfl, ?_⟩⟩
        refine k _ (.ref e) (same_mut s2 he) ⟨e, _, rfl, upd_same, nDe, ?_⟩
        exact df2.dropK.tx (tx_upd (by rw [he2]; rfl))
      | some ls =>
        have hx := (c2 ls rfl).same s2
        obtain ⟨t, rfl, ht⟩ := Dt.linesI hx
        refine ⟨_, rfl, _, rfl, iteN (fun z => nomatch z) ⟨_, rfl, t, _, rfl, .inr ⟨ht.sq, _, rfl, _, rfl, e, _, rfl, DPut.k (k := Sum.inr p) he2 (smallt (m := 10) (by omega)), _, rfl, ?_⟩⟩⟩
        refine k _ (.ref e) (same_mut s2 he) ⟨e, _, rfl, upd_same, nDe, ?_⟩
        exact (df2.putK hx).tx (tx_upd (by rw [he2]; rfl))
end
end Sa
/-! text H9 -/
/-! the law: splice -/
namespace Sa
open PySem PySem.Spec L2 PyProof.Rows
section
variable {P : Program} {w : World} {K : PySem.W.Frag} {mg : Str → Option Value} {base : Heap}
/-- a pair of an answer and a table is given back -/
def ResT (K : PySem.W.Frag) (D : List Addr) (H : Hp) (Q : VK) (o : Ans × Files) : Prop := ∀ H' a y t, Same H H' → H' a = some (.tup [y, t]) → Dt K H' y (dR o.1) → TabAt K D H' t o.2 → Q (.ref a) H'
theorem ResT.word {D : List Addr} {H H1 : Hp} {Q : VK} {o : Ans × Files} {v : V} {x : Str} {c r : Addr} (k : ResT K D H Q o) (s : Same H H1) (e : dR o.1 = .tuple [.str x]) (hc : H1 c = none) (t : TabAt K D H v o.2) (hr : upd H1 c (.tup [.str x]) r = none) :
    Q (.ref r) (upd (upd H1 c (.tup [.str x])) r (.tup [.ref c, v])) := by
  have s1 : Same H1 (upd H1 c (.tup [.str x])) := same_new hc
  have s2 : Same (upd H1 c (.tup [.str x])) (upd (upd H1 c (.tup [.str x])) r (.tup [.ref c, v])) := same_new hr
  refine k _ r _ _ (s.trans (s1.trans s2)) upd_same ?_ (t.same (s.trans (s1.trans s2)))
  rw [e]
  exact (Dt.one upd_same (.str x)).same s2
/-- the answer was made before the table -/
theorem ResT.done {D : List Addr} {H H1 H2 : Hp} {Q : VK} {o : Ans × Files} {v : V} {c r : Addr} (k : ResT K D H Q o) (s : Same H H1) (e : o.1 = .done) (hc : H1 c = none) (s2 : Same (upd H1 c (.tup [.str "done"])) H2) (t : TabAt K D H2 v o.2) (hr : H2 r = none) :
    Q (.ref r) (upd H2 r (.tup [.ref c, v])) := by
  have s1 : Same H1 (upd H1 c (.tup [.str "done"])) := same_new hc
  have s3 : Same H2 (upd H2 r (.tup [.ref c, v])) := same_new hr
  refine k _ r _ _ (s.trans (s1.trans (s2.trans s3))) upd_same ?_ (t.same s3)
  rw [e]
  exact (Dt.one (s2 _ _ upd_same) (.str "done")).same s3
theorem dp_ints {H : Hp} : ∀ ls : List Nat, DpAll K H (ls.map fun k : Nat => V.int (k : Int)) (ls.map fun k : Nat => PyData.int (k : Int))
  | [] => .nil
  | x :: r => .cons (.int _) (dp_ints r)
theorem eq_nilI {H : Hp} {a b : Addr} {ls : List Nat} {Q : VK} (h : ∀ l ∈ ls, l < 1000) (ha : SqL K H a (ls.map fun k : Nat => V.int (k : Int))) (hb : SqL K H b []) (q : Q (.bl ls.isEmpty) H) : rEqD K (.ref a) (.ref b) H Q := by
  refine ⟨.list (ls.map fun k : Nat => PyData.int (k : Int)), .list [], .lst ha (dp_ints ls), .lst hb .nil, shaped_list (OkAll.map (k := 0) (n := 24) fun x hx => OkD.int (by have := h x hx; omega)) (by decide), shaped_list (k := 0) OkAll.nil (by decide), ?_⟩
  rw [eqv_nil]
  have e : (ls.map fun k : Nat => PyData.int (k : Int)).isEmpty = ls.isEmpty := by cases ls <;> rfl
  rw [e]
  exact q
def spLSpliced (K : PySem.W.Frag) : Sp := fun vs H Q _ => ∃ (v x y : V) (D : List Addr) (F : Files) (p : Str) (old new ls : List Str), vs = [v, .str p, x, y] ∧ TabAt K D H v F ∧ GoodF F ∧ Dok D H ∧ F p = some ls ∧ Dt K H x (dL old) ∧ GoodLs old ∧ old ≠ [] ∧ Dt K H y (dL new) ∧ GoodLs new ∧ ResT K D H Q (spliced F p old new ls)
theorem sc_law_spliced : FnScope ["_law_table_here", "_law_path_here", "_law_old", "_law_new", "_law_lines_here", "_law_places", "_law_k"] ["_law_table_here", "_law_path_here", "_law_old", "_law_new"] (defScope s_law_spliced) := ⟨rfl, rfl, rfl, by decide +kernel, rfl, by decide +kernel, by decide +kernel⟩
theorem cal_law_spliced (T : Tx K mg) : Cal P w K mg base 2 "_law_spliced" (spLSpliced K) := by
  refine T.cal 84 46 (f_at (x := "_law_spliced") rfl) (g_at rfl) (N := ["_law_table_here", "_law_path_here", "_law_old", "_law_new", "_law_lines_here", "_law_places", "_law_k"]) (ps := ["_law_table_here", "_law_path_here", "_law_old", "_law_new"]) (fun _ _ _ _ _ _ us hl => match us, hl with | [_, _, _, _], _ => rfl) sc_law_spliced (fun vs H Q E h => ?_) (fun f cdv A outer s H vs Q E hr h => ?_)
  · obtain ⟨v, x, y, D, F, p, old, new, ls, rfl, _⟩ := h
    rfl
  · obtain ⟨v, x, y, D, F, p, old, new, ls, rfl, tb, g, ok, hF, hx, go, gne, hy, gn, k⟩ := h
    obtain ⟨d, kvs, rfl, h2, nD, df⟩ := id tb
    obtain ⟨xa, rfl, hxs⟩ := Dt.linesI hx
    obtain ⟨ya, rfl, hys⟩ := Dt.linesI hy
    have gl := (g.one p ls hF).2
    obtain ⟨za, hz1, hzs⟩ := df.at hF
    have dg : DGet H d (.str p) (some (.ref za)) := by
      have q := DGet.k (k := Sum.inr p) h2
      rw [hz1] at q
      exact q
    have l1 : (ls.map V.str).length = ls.length := List.length_map ..
    have l2 : (old.map V.str).length = old.length := List.length_map ..
    have l3 : (new.map V.str).length = new.length := List.length_map ..
    have g1 := gl.1
    have g2 := go.1
    have g3 := gn.1
    have sp := fun i : Nat => places_lt (ls := ls) (part := old) (k := i)
    refine ⟨_, pss_cons (ps_set (i := 4) sc_law_spliced.nd rfl (by first | exact Or.inl rfl | exact Or.inr rfl) (pe_dget (u1 hr) (pv 0) (pv 1) (fun _ _ => rfl))) (pss_cons (ps_setLc (i := 5) (y := "_law_places") (own := [("_law_k", 6)]) (g := gName 6) rfl sc_law_spliced.nd rfl rfl (sw_true rfl rfl rfl (by decide +kernel)) (pi_range1 rfl (T.free 92) (pa_cons (pe_op op_add (pe_op op_sub (pe_callB call_len_seq (by rfl) (T.free 85) bv_len (pa_cons (pv 4) pa_nil)) (pe_callB call_len_seq (by rfl) (T.free 85) bv_len (pa_cons (pv 2) pa_nil))) (pe_int)) pa_nil)) (blkOk_by (own := [("_law_k", 6)]) (N := ["_law_table_here", "_law_path_here", "_law_old", "_law_new", "_law_lines_here", "_law_places", "_law_k"]) (sc := defScope s_law_spliced) (by decide +kernel)) (fun _ _ _ _ _ => pg_name (i := 6) sc_law_spliced.nd rfl (by first | exact Or.inl rfl | exact Or.inr rfl)) (fun _ _ _ _ _ => pts_one (pt_cmpR (op_eqDK K rfl hr.units) (pe_slice (sl_tupAK K rfl) (pv 4) (po_some (pv 6)) (po_some (pe_op op_add (pv 6) (pe_callB (call_len_seqK K rfl) (by rfl) (T.free 85) bv_len (pa_cons (pv 2) pa_nil))))) (pv 2) (nomark _))) (fun _ _ _ _ _ => pv 6)) (pss_cons (ps_if (pt_cmpR (op_eqD hr.units) (pv 5) (pe_lst (pa_nil)) (nomark _)) (pss_one (ps_ret (pe_tup (pa_cons (pe_tup (pa_cons (pe_str) pa_nil)) (pa_cons (pv 0) pa_nil))))) (pss_nil)) (pss_cons (ps_if (pt_cmpR op_gt (pe_callB call_len_seq (by rfl) (T.free 85) bv_len (pa_cons (pv 5) pa_nil)) (pe_int) (nomark _)) (pss_one (ps_ret (pe_tup (pa_cons (pe_tup (pa_cons (pe_str) pa_nil)) (pa_cons (pv 0) pa_nil))))) (pss_nil)) (pss_cons (ps_if (pt_cmpR op_gt (pe_op op_add (pe_op op_sub (pe_callB call_len_seq (by rfl) (T.free 85) bv_len (pa_cons (pv 4) pa_nil)) (pe_callB call_len_seq (by rfl) (T.free 85) bv_len (pa_cons (pv 2) pa_nil))) (pe_callB call_len_seq (by rfl) (T.free 85) bv_len (pa_cons (pv 3) pa_nil))) (pe_int) (nomark _)) (pss_one (ps_ret (pe_tup (pa_cons (pe_tup (pa_cons (pe_str) pa_nil)) (pa_cons (pv 0) pa_nil))))) (pss_nil)) (pss_one (ps_ret (pe_tup (pa_cons (pe_tup (pa_cons (pe_str) pa_nil)) (pa_cons (pe_c (cal_law_with T) hr (by decide) rfl (pa_cons (pv 0) (pa_cons (pv 1) (pa_cons (pe_op op_catA (pe_op op_catA (pe_slice sl_tupA (pv 4) (po_none) (po_some (pe_ix ix_list (pv 5) (pe_int) (fun _ _ => rfl)))) (pv 3)) (pe_slice sl_tupA (pv 4) (po_some (pe_op op_add (pe_ix ix_list (pv 5) (pe_int) (fun _ _ => rfl)) (pe_callB call_len_seq (by rfl) (T.free 85) bv_len (pa_cons (pv 2) pa_nil)))) (po_none))) pa_nil)))) pa_nil))))))))), ?_⟩
    refine ⟨_, rfl, _, rfl, d, .ref za, rfl, dg, ?_⟩
    refine ⟨_, rfl, za, _, rfl, .inr hzs.sq, _, rfl, xa, _, rfl, .inr hxs.sq, _, _, rfl, rfl, _, _, rfl, rfl, _, rfl, by rw [l1, l2]; omega, by rw [l1, l2]; omega, ?_⟩
    have en : ((((ls.map V.str).length : Int) - ((old.map V.str).length : Int) + 1)).toNat = ls.length + 1 - old.length := by
      rw [l1, l2]
      omega
    refine fun B hB => lc_it walk_range (fun i H' => Same H H' ∧ H' B = some (.lst ((((List.range (ls.length + 1 - old.length)).take i).filter fun k => decide ((ls.drop k).take old.length = old)).map fun k : Nat => V.int (k : Int)))) ⟨same_new hB, upd_same⟩ (fun _ _ _ _ => trivial) ?_ ?_
    · rintro i y0 H0 H2 hi ⟨s1, hl⟩ ⟨rfl, rfl⟩
      have hi2 : i < ls.length + 1 - old.length := by
        rw [← en]
        exact hi
      have hr' : (List.range (ls.length + 1 - old.length))[i]? = some i := List.getElem?_range hi2
      have tf := take_filter (fun k => decide ((ls.drop k).take old.length = old)) hr'
      have gc : GoodLs ((ls.drop i).take old.length) := ⟨Nat.le_trans (List.length_take_le' _ _) (by rw [List.length_drop]; omega), fun l hl => gl.2 l (List.mem_of_mem_drop (List.mem_of_mem_take hl))⟩
      have hol : 0 < old.length := List.length_pos_iff.mpr gne
      refine ⟨rfl, _, rfl, _, rfl, _, rfl, _, rfl, _, rfl, xa, _, rfl, .inr (file_stt s1 hxs), _, _, rfl, rfl, _, rfl, ?_⟩
      refine slA_dt (ls := ls) (i := i) (m := old.length) (hzs.tx (tx_same s1)) (by omega) (by omega) (by rw [l2]; omega) fun c H3 s3 hc => ⟨_, rfl, ?_⟩
      refine eqL_of (a := (ls.drop i).take old.length) (b := old) (Dt.linesS hc) (Dt.linesS (hxs.tx (tx_same (s1.trans s3)))) gc go ⟨_, rfl, ?_⟩
      by_cases e : (ls.drop i).take old.length = old
      · rw [decide_eq_true e] at tf
        refine iteP e ⟨_, rfl, _, s3 _ _ hl, smallt (m := 20) ?_, same_mut (s1.trans s3) hB, ?_⟩
        · rw [List.length_map]
          exact filter_le (by rw [List.length_range]; omega)
        · rw [upd_same, tf, List.map_append]
          show some (HO.lst (_ ++ [V.int (0 + (i : Int))])) = _
          rw [Int.zero_add]
          rfl
      · rw [decide_eq_false e] at tf
        refine iteN e ⟨s1.trans s3, ?_⟩
        rw [tf]
        exact (s3 _ _ hl).trans (by rw [if_neg (by decide), List.append_nil])
    rintro H1 ⟨s1, hb0⟩
    rw [List.take_of_length_le (by rw [List.length_range]; omega)] at hb0
    have hb : H1 B = some (.lst ((places ls old).map fun k : Nat => V.int (k : Int))) := hb0
    clear hb0
    have hpl1000 : ∀ l ∈ places ls old, l < 1000 := fun l hl => by
      have := (sp l hl gne).1
      omega
    refine ⟨_, rfl, small (m := 0) (Nat.le_refl 0), fun e0 he0 => ?_⟩
    have s2 : Same H1 (upd H1 e0 (.lst [])) := same_new he0
    have s12 := s1.trans s2
    have hb2 := s2 _ _ hb
    refine eq_nilI hpl1000 (.inl (.inl hb2)) (.inl (.inl upd_same)) ⟨_, rfl, ?_⟩
    cases hpl : places ls old with
    | nil =>
      have ea : spliced F p old new ls = (.absent, F) := by simp only [spliced, hpl]
      rw [ea] at k
      exact iteE rfl ⟨small (m := 1) (Nat.le_refl 1), fun c hc => ⟨_, rfl, small (m := 2) (Nat.le_refl 2), fun r hr2 => k.word (x := "absent") s12 rfl hc tb hr2⟩⟩
    | cons i rs =>
      rw [hpl] at hb2
      refine iteEn rfl ?_
      refine ⟨_, rfl, B, _, rfl, .inl (.inl (.inl hb2)), _, _, rfl, rfl, _, rfl, ?_⟩
      cases rs with
      | cons i2 rs =>
        have ea : spliced F p old new ls = (.ambiguous, F) := by simp only [spliced, hpl, ne_eq, reduceCtorEq, not_false_eq_true, if_true]
        rw [ea] at k
        refine iteP (by rw [List.length_map, List.length_cons, List.length_cons]; omega) ⟨small (m := 1) (Nat.le_refl 1), fun c hc => ⟨_, rfl, small (m := 2) (Nat.le_refl 2), fun r hr2 => k.word (x := "ambiguous") s12 rfl hc tb hr2⟩⟩
      | nil =>
        refine iteN (by rw [List.length_map, List.length_cons, List.length_nil]; omega) ?_
        refine ⟨_, rfl, za, _, rfl, .inr (file_stt s12 hzs), _, rfl, xa, _, rfl, .inr (file_stt s12 hxs), _, _, rfl, rfl, _, rfl, ya, _, rfl, .inr (file_stt s12 hys), _, _, rfl, rfl, _, _, rfl, rfl, _, rfl, ?_⟩
        by_cases hlong : (12 : Int) < (ls.length : Int) - (old.length : Int) + (new.length : Int)
        · have ea : spliced F p old new ls = (.long, F) := by simp only [spliced, hpl, ne_eq, not_true_eq_false, if_false, if_pos hlong]
          rw [ea] at k
          refine iteP (by rw [l1, l2, l3]; exact hlong) ⟨small (m := 1) (Nat.le_refl 1), fun c hc => ⟨_, rfl, small (m := 2) (Nat.le_refl 2), fun r hr2 => k.word (x := "long") s12 rfl hc tb hr2⟩⟩
        · have ea : spliced F p old new ls = (.done, put F p (ls.take i ++ new ++ ls.drop (i + old.length))) := by simp only [spliced, hpl, ne_eq, not_true_eq_false, if_false, if_neg hlong]
          rw [ea] at k
          have hi := sp i (by rw [hpl]; exact List.mem_cons_self) gne
          refine iteN (by rw [l1, l2, l3]; exact hlong) ?_
          refine ⟨small (m := 1) (Nat.le_refl 1), fun c hc => ?_⟩
          have sC : Same (upd H1 e0 (.lst [])) (upd (upd H1 e0 (.lst [])) c (.tup [.str "done"])) := same_new hc
          have s13 := s12.trans sC
          refine ⟨_, rfl, _, rfl, _, rfl, _, rfl, B, _, 0, _, rfl, rfl, .inl (.inl (sC _ _ hb2)), at0, _, rfl, ?_⟩
          refine slA_pre (i := i) (hzs.tx (tx_same s13)) (by have := hi.1; omega) fun c2 H2 s2' hc2 => ⟨_, rfl, ?_⟩
          refine catA_of hc2 (hys.tx (tx_same (s13.trans s2'))) (by rw [List.length_take]; omega) fun c3 H3 s3 hc3 => ⟨_, rfl, _, rfl, B, _, 0, _, rfl, rfl, .inl (.inl (s3 _ _ (s2' _ _ (sC _ _ hb2)))), at0, _, rfl, xa, _, rfl, .inr (file_stt ((s13.trans s2').trans s3) hxs), _, _, rfl, rfl, _, rfl, ?_⟩
          rw [l2]
          delta tNoPart
          have s14 := (s13.trans s2').trans s3
          refine slA_suf (i := i) (m := old.length) (hzs.tx (tx_same s14)) hi.1 fun c4 H4 s4 hc4 => ?_
          refine catA_of (hc3.tx (tx_same s4)) hc4 (by rw [List.length_append, List.length_take, List.length_drop]; omega) fun c5 H5 s5 hc5 => ?_
          have sD : Same (upd (upd H1 e0 (.lst [])) c (.tup [.str "done"])) H5 := (s2'.trans s3).trans (s4.trans s5)
          have s15 := s13.trans sD
          refine ⟨.ref d, .ref c5, D, F, p, some (ls.take i ++ new ++ ls.drop (i + old.length)), rfl, tb.same s15, g, ok.same s15, fun z => (nomatch z), fun ms e => ?_, fun H6 z6 s6 ht6 => ⟨small (m := 2) (Nat.le_refl 2), fun r hr2 => k.done s12 rfl hc (sD.trans s6) ht6 hr2⟩⟩
          cases e
          exact Dt.linesS hc5
end
end Sa
/-! text H10 -/
/-! the law: act -/
namespace Sa
open PySem PySem.Spec L2 PyProof.Rows
section
variable {P : Program} {w : World} {K : PySem.W.Frag} {mg : Str → Option Value} {base : Heap}
def pathA : Act → Str
  | .read p => p
  | .kind p => p
  | .list p => p
  | .find p _ => p
  | .count p => p
  | .write p _ => p
  | .remove p => p
  | .move p _ => p
  | .splice p _ _ => p
theorem Dt.actP {H : Hp} {v : V} {a : Act} (h : Dt K H v (dA a)) : ∃ t p xs, v = .ref t ∧ St1 K H t (.str (wordA a) :: .str p :: xs) ∧ pathA a = p := by
  cases a <;> (obtain ⟨t, xs, rfl, h1, h2⟩ := Dt.tupI h; obtain ⟨x, r, rfl, h3, h4⟩ := DtAll.consI h2; obtain ⟨y, r2, rfl, h5, h6⟩ := DtAll.consI h4; rw [Dt.strI h3, Dt.strI h5] at h1; exact ⟨t, _, r2, rfl, h1, rfl⟩)
def spLAct (K : PySem.W.Frag) : Sp := fun vs H Q _ => ∃ (v x : V) (D : List Addr) (F : Files) (a : Act), vs = [v, x] ∧ TabAt K D H v F ∧ GoodF F ∧ Dok D H ∧ Dt K H x (dA a) ∧ GoodA a ∧ ResT K D H Q (actF F a)
theorem sc_law_act : FnScope ["_law_table_here", "_law_action_here", "_law_word", "_law_path_here", "_law_rest"] ["_law_table_here", "_law_action_here"] (defScope s_law_act) := ⟨rfl, rfl, rfl, by decide +kernel, rfl, by decide +kernel, by decide +kernel⟩
theorem cal_law_act (T : Tx K mg) : Cal P w K mg base 4 "_law_act" (spLAct K) := by
  refine T.cal 85 47 (f_at (x := "_law_act") rfl) (g_at rfl) (N := ["_law_table_here", "_law_action_here", "_law_word", "_law_path_here", "_law_rest"]) (ps := ["_law_table_here", "_law_action_here"]) (fun _ _ _ _ _ _ us hl => match us, hl with | [_, _], _ => rfl) sc_law_act (fun vs H Q E h => ?_) (fun f cdv A outer s H vs Q E hr h => ?_)
  · obtain ⟨v, x, D, F, a, rfl, _⟩ := h
    rfl
  · obtain ⟨v, x, D, F, ac, rfl, tb, g, ok, hx, ga, k⟩ := h
    obtain ⟨d, kvs, rfl, h2, nD, df⟩ := id tb
    have kl := df.len g
    have hxA := hx
    obtain ⟨t, p, xr, rfl, hs, hpA⟩ := hx.actP
    refine ⟨_, pss_cons (ps_set (i := 2) sc_law_act.nd rfl (by first | exact Or.inl rfl | exact Or.inr rfl) (pe_ix ix_tup (pv 1) (pe_int) (fun _ _ => rfl))) (pss_cons (ps_set (i := 3) sc_law_act.nd rfl (by first | exact Or.inl rfl | exact Or.inr rfl) (pe_ix ix_tup (pv 1) (pe_int) (fun _ _ => rfl))) (pss_cons (ps_if (pt_cmpR op_in_seq (pv 2) (pe_tup (pa_cons (pe_str) (pa_cons (pe_str) (pa_cons (pe_str) (pa_cons (pe_str) (pa_cons (pe_str) pa_nil)))))) (by rfl)) (pss_one (ps_ret (pe_tup (pa_cons (pe_c (cal_law_told T) hr (by decide) rfl (pa_cons (pv 0) (pa_cons (pv 1) pa_nil))) (pa_cons (pv 0) pa_nil))))) (pss_nil)) (pss_cons (ps_if (pt_cmpR op_eq (pv 2) (pe_str) (nomark _)) (pss_cons (ps_if (pt_val (pe_c (cal_law_barred T) hr (by decide) rfl (pa_cons (pv 0) (pa_cons (pv 3) pa_nil)))) (pss_one (ps_ret (pe_tup (pa_cons (pe_tup (pa_cons (pe_str) pa_nil)) (pa_cons (pv 0) pa_nil))))) (pss_nil)) (pss_cons (ps_if (PW.pt (pw_and (pt_cmp (pc_dnotin (u1 hr) (pv 3) (pv 0))) (pw_and1 (pt_cmpR op_eq (pe_callB call_lenD (by rfl) (T.free 85) bv_len (pa_cons (pv 0) pa_nil)) (pe_int) (nomark _))))) (pss_one (ps_ret (pe_tup (pa_cons (pe_tup (pa_cons (pe_str) pa_nil)) (pa_cons (pv 0) pa_nil))))) (pss_nil)) (pss_one (ps_ret (pe_tup (pa_cons (pe_tup (pa_cons (pe_str) pa_nil)) (pa_cons (pe_c (cal_law_with T) hr (by decide) rfl (pa_cons (pv 0) (pa_cons (pv 3) (pa_cons (pe_ix ix_tup (pv 1) (pe_int) (fun _ _ => rfl)) pa_nil)))) pa_nil))))))) (pss_nil)) (pss_cons (ps_if (pt_cmp (pc_dnotin (u1 hr) (pv 3) (pv 0))) (pss_one (ps_ret (pe_tup (pa_cons (pe_tup (pa_cons (pe_str) pa_nil)) (pa_cons (pv 0) pa_nil))))) (pss_nil)) (pss_cons (ps_if (pt_cmpR op_eq (pv 2) (pe_str) (nomark _)) (pss_one (ps_ret (pe_tup (pa_cons (pe_tup (pa_cons (pe_str) pa_nil)) (pa_cons (pe_c (cal_law_with T) hr (by decide) rfl (pa_cons (pv 0) (pa_cons (pv 3) (pa_cons (pe_non) pa_nil)))) pa_nil))))) (pss_nil)) (pss_cons (ps_if (pt_cmpR op_eq (pv 2) (pe_str) (nomark _)) (pss_one (ps_ret (pe_c (cal_law_spliced T) hr (by decide) rfl (pa_cons (pv 0) (pa_cons (pv 3) (pa_cons (pe_ix ix_tup (pv 1) (pe_int) (fun _ _ => rfl)) (pa_cons (pe_ix ix_tup (pv 1) (pe_int) (fun _ _ => rfl)) pa_nil))))))) (pss_nil)) (pss_cons (ps_set (i := 4) sc_law_act.nd rfl (by first | exact Or.inl rfl | exact Or.inr rfl) (pe_c (cal_law_with T) hr (by decide) rfl (pa_cons (pv 0) (pa_cons (pv 3) (pa_cons (pe_non) pa_nil))))) (pss_cons (ps_if (PW.pt (pw_or (pt_cmp (pc_din (u1 hr) (pe_ix ix_tup (pv 1) (pe_int) (fun _ _ => rfl)) (pv 4))) (pw_or1 (pt_val (pe_c (cal_law_barred T) hr (by decide) rfl (pa_cons (pv 4) (pa_cons (pe_ix ix_tup (pv 1) (pe_int) (fun _ _ => rfl)) pa_nil))))))) (pss_one (ps_ret (pe_tup (pa_cons (pe_tup (pa_cons (pe_str) pa_nil)) (pa_cons (pv 0) pa_nil))))) (pss_nil)) (pss_one (ps_ret (pe_tup (pa_cons (pe_tup (pa_cons (pe_str) pa_nil)) (pa_cons (pe_c (cal_law_with T) hr (by decide) rfl (pa_cons (pv 4) (pa_cons (pe_ix ix_tup (pv 1) (pe_int) (fun _ _ => rfl)) (pa_cons (pe_dget (u1 hr) (pv 0) (pv 3) (fun _ _ => rfl)) pa_nil)))) pa_nil))))))))))))), ?_⟩
    have at1 : atI (V.str (wordA ac) :: V.str p :: xr) 1 = some (.str p) := atI_nat (j := 1) rfl
    refine ⟨_, rfl, t, _, 0, _, rfl, rfl, hs.sq, at0, _, rfl, t, _, 1, _, rfl, rfl, hs.sq, at1, ?_⟩
    refine ⟨_, rfl, small (m := 5) (Nat.le_refl 5), fun wt hwt => ⟨wt, _, rfl, .inr (.inl (.inl upd_same)), rfl, by decide +kernel, _, rfl, ?_⟩⟩
    have sW : Same H (upd H wt (.tup [.str "read", .str "kind", .str "list", .str "find", .str "count"])) := same_new hwt
    have eq_ : inV (.str (wordA ac)) [.str "read", .str "kind", .str "list", .str "find", .str "count"] = isQ ac := by cases ac <;> simp only [wordA, isQ] <;> decide +kernel
    generalize upd H wt (.tup [.str "read", .str "kind", .str "list", .str "find", .str "count"]) = H1 at sW ⊢
    have tb1 := tb.same sW
    have df1 := df.tx (tx_same sW)
    have h21 := sW _ _ h2
    cases iq : isQ ac with
    | true =>
      rw [act_q iq] at k
      refine iteE (eq_.trans iq) ⟨_, rfl, _, rfl, .ref d, .ref t, D, F, ac, rfl, tb1, g, hxA.same sW, ga, iq, fun H2 y s2 hy => ⟨_, rfl, small (m := 2) (Nat.le_refl 2), fun r hr2 => ?_⟩⟩
      exact k _ r _ _ ((sW.trans s2).trans (same_new hr2)) upd_same (hy.same (same_new hr2)) (tb.same ((sW.trans s2).trans (same_new hr2)))
    | false =>
      refine iteEn (eq_.trans iq) ?_
      cases ac with
      | read q => cases iq
      | kind q => cases iq
      | list q => cases iq
      | find q w => cases iq
      | count q => cases iq
      | write q ls =>
        obtain rfl : q = p := hpA
        obtain ⟨t', e0, e1, y, et, hs3, i0, i1, i2⟩ := hxA.threeI
        cases et
        cases i0.strI
        cases i1.strI
        refine ⟨_, rfl, rfl, _, rfl, iteP rfl ⟨_, rfl, _, rfl, .ref d, D, F, q, rfl, tb1, g, ga.1, fun H2 s2 => ⟨_, rfl, ?_⟩⟩⟩
        have s12 := sW.trans s2
        cases hb : blockedB F q with
        | true =>
          have ea : actF F (.write q ls) = (.blocked, F) := by simp only [actF, hb, if_true]
          rw [ea] at k
          exact iteE rfl ⟨small (m := 1) (Nat.le_refl 1), fun c hc => ⟨_, rfl, small (m := 2) (Nat.le_refl 2), fun r hr2 => k.word (x := "blocked") s12 rfl hc tb hr2⟩⟩
        | false =>
          have hkl := keys_len F
          have ea : actF F (.write q ls) = (.done, put F q ls) := by
            have e20 : decide ((keys F).length = 20) = false := decide_eq_false (by omega)
            simp only [actF, hb, e20, Bool.and_false, if_false, Bool.false_eq_true]
          rw [ea] at k
          have dg := DGet.k (k := Sum.inr q) (s12 _ _ h2)
          have fin : ∀ c, H2 c = none → ∃ ts, True := fun _ _ => ⟨(), trivial⟩
          refine iteEn rfl ⟨_, rfl, _, rfl, d, _, rfl, dg, ?_⟩
          cases hv : valV kvs (Sum.inr q) with
          | none =>
            refine ⟨_, rfl, iteE rfl ⟨_, rfl, d, kvs, rfl, s12 _ _ h2, rfl, _, rfl, iteN (fun z => by have := V.int.inj z; omega) ?_⟩⟩
            refine ⟨small (m := 1) (Nat.le_refl 1), fun c hc => ?_⟩
            have sC : Same H2 (upd H2 c (.tup [.str "done"])) := same_new hc
            have s13 := s12.trans sC
            refine ⟨_, rfl, _, rfl, _, rfl, t, _, 2, _, rfl, rfl, file_stt s13 hs3, rfl, .ref d, y, D, F, q, some ls, rfl, tb.same s13, g, ok.same s13, fun z => (nomatch z), fun ms e => ?_, fun H6 z6 s6 ht6 => ⟨small (m := 2) (Nat.le_refl 2), fun r hr2 => k.done s12 rfl hc s6 ht6 hr2⟩⟩
            cases e
            exact i2.same s13
          | some v0 =>
            refine ⟨_, rfl, iteEn rfl (iteEn rfl ?_)⟩
            refine ⟨small (m := 1) (Nat.le_refl 1), fun c hc => ?_⟩
            have sC : Same H2 (upd H2 c (.tup [.str "done"])) := same_new hc
            have s13 := s12.trans sC
            refine ⟨_, rfl, _, rfl, _, rfl, t, _, 2, _, rfl, rfl, file_stt s13 hs3, rfl, .ref d, y, D, F, q, some ls, rfl, tb.same s13, g, ok.same s13, fun z => (nomatch z), fun ms e => ?_, fun H6 z6 s6 ht6 => ⟨small (m := 2) (Nat.le_refl 2), fun r hr2 => k.done s12 rfl hc s6 ht6 hr2⟩⟩
            cases e
            exact i2.same s13
      | remove q =>
        obtain rfl : q = p := hpA
        refine ⟨_, rfl, rfl, _, rfl, iteN (by show ¬ V.str "remove" = V.str "write"; decide +kernel) ⟨_, rfl, _, rfl, d, ?_⟩⟩
        rcases df1.get h21 q with ⟨e, dg⟩ | ⟨ls, t3, e, dg, hl⟩
        · have ea : actF F (.remove q) = (.missing, F) := by simp only [actF, e, Option.isNone_none, if_true]
          rw [ea] at k
          exact ⟨_, rfl, dg, _, rfl, iteE rfl ⟨small (m := 1) (Nat.le_refl 1), fun c hc => ⟨_, rfl, small (m := 2) (Nat.le_refl 2), fun r hr2 => k.word (x := "missing") sW rfl hc tb hr2⟩⟩⟩
        · have ea : actF F (.remove q) = (.done, del F q) := by simp only [actF, e, Option.isNone_some, Bool.false_eq_true, if_false]
          rw [ea] at k
          refine ⟨_, rfl, dg, _, rfl, iteEn rfl ⟨_, rfl, rfl, _, rfl, iteP rfl ⟨small (m := 1) (Nat.le_refl 1), fun c hc => ?_⟩⟩⟩
          have sC : Same H1 (upd H1 c (.tup [.str "done"])) := same_new hc
          exact ⟨_, rfl, _, rfl, .ref d, .non, D, F, q, none, rfl, tb.same (sW.trans sC), g, ok.same (sW.trans sC), fun _ => ⟨rfl, ls, e⟩, fun _ z => (nomatch z), fun H6 z6 s6 ht6 => ⟨small (m := 2) (Nat.le_refl 2), fun r hr2 => k.done sW rfl hc s6 ht6 hr2⟩⟩
      | move q q2 =>
        obtain rfl : q = p := hpA
        obtain ⟨t', e0, e1, y, et, hs3, i0, i1, i2⟩ := hxA.threeI
        cases et
        cases i0.strI
        cases i1.strI
        cases i2.strI
        refine ⟨_, rfl, rfl, _, rfl, iteN (by show ¬ V.str "move" = V.str "write"; decide +kernel) ⟨_, rfl, _, rfl, d, ?_⟩⟩
        rcases df1.get h21 q with ⟨e, dg⟩ | ⟨ls, t3, e, dg, hl⟩
        · have ea : actF F (.move q q2) = (.missing, F) := by simp only [actF, e]
          rw [ea] at k
          exact ⟨_, rfl, dg, _, rfl, iteE rfl ⟨small (m := 1) (Nat.le_refl 1), fun c hc => ⟨_, rfl, small (m := 2) (Nat.le_refl 2), fun r hr2 => k.word (x := "missing") sW rfl hc tb hr2⟩⟩⟩
        · have gl := (g.one q ls e).2
          refine ⟨_, rfl, dg, _, rfl, iteEn rfl ⟨_, rfl, rfl, _, rfl, iteN (by show ¬ V.str "move" = V.str "remove"; decide +kernel) ⟨_, rfl, rfl, _, rfl, iteN (by show ¬ V.str "move" = V.str "splice"; decide +kernel) ?_⟩⟩⟩
          refine ⟨_, rfl, _, rfl, .ref d, .non, D, F, q, none, rfl, tb1, g, ok.same sW, fun _ => ⟨rfl, ls, e⟩, fun _ z => (nomatch z), fun H2 z2 s2 ht2 => ?_⟩
          have gd := goodF_del g q
          have s12 := sW.trans s2
          obtain ⟨d2, kvs2, rfl, h22, nD2, df2⟩ := id ht2
          refine ⟨_, rfl, t, _, 2, _, rfl, rfl, file_stt s12 hs3, rfl, _, rfl, d2, ?_⟩
          have kb : ((del F q) q2).isSome = true ∨ blockedB (del F q) q2 = true → actF F (.move q q2) = (.blocked, F) := fun hb => by
            have : (((del F q) q2).isSome || blockedB (del F q) q2) = true := by rw [Bool.or_eq_true]; exact hb
            simp only [actF, e, this, if_true]
          rcases df2.get h22 q2 with ⟨e2, dg2⟩ | ⟨ls2, t4, e2, dg2, hl2⟩
          · refine ⟨_, rfl, dg2, _, rfl, iteEn rfl ⟨_, rfl, _, rfl, t, _, 2, _, rfl, rfl, file_stt s12 hs3, rfl, .ref d2, D, del F q, q2, rfl, ht2, gd, ga.2, fun H3 s3 => ⟨_, rfl, ?_⟩⟩⟩
            have s13 := s12.trans s3
            cases hb : blockedB (del F q) q2 with
            | true =>
              rw [kb (.inr hb)] at k
              exact iteE rfl ⟨small (m := 1) (Nat.le_refl 1), fun c hc => ⟨_, rfl, small (m := 2) (Nat.le_refl 2), fun r hr2 => k.word (x := "blocked") s13 rfl hc tb hr2⟩⟩
            | false =>
              have ea : actF F (.move q q2) = (.done, put (del F q) q2 ls) := by
                have e3 : (del F q) q2 = none := e2
                simp only [actF, e, e3, hb, Option.isSome_none, Bool.or_false, if_false, Bool.false_eq_true]
              rw [ea] at k
              refine iteEn rfl ⟨small (m := 1) (Nat.le_refl 1), fun c hc => ?_⟩
              have sC : Same H3 (upd H3 c (.tup [.str "done"])) := same_new hc
              have s14 := s13.trans sC
              obtain ⟨t5, w1, w2⟩ := df1.at e
              have dg5 : DGet (upd H3 c (.tup [.str "done"])) d (.str q) (some (.ref t5)) := by
                have q5 := DGet.k (k := Sum.inr q) (s14 _ _ h2)
                rw [w1] at q5
                exact q5
              have hl5 : Dt K H1 (.ref t5) (dL ls) := Dt.linesS w2
              refine ⟨_, rfl, _, rfl, t, _, 2, _, rfl, rfl, file_stt s14 hs3, rfl, _, rfl, _, rfl, d, .ref t5, rfl, dg5, .ref d2, .ref t5, D, del F q, q2, some ls, rfl, ht2.same (s3.trans sC), gd, ok.same s14, fun z => (nomatch z), fun ms em => ?_, fun H6 z6 s6 ht6 => ⟨small (m := 2) (Nat.le_refl 2), fun r hr2 => k.done s13 rfl hc s6 ht6 hr2⟩⟩
              cases em
              exact hl5.same ((s2.trans s3).trans sC)
          · rw [kb (.inl (by have e3 : (del F q) q2 = some ls2 := e2; rw [e3]; rfl))] at k
            exact ⟨_, rfl, dg2, _, rfl, iteE rfl (iteE rfl ⟨small (m := 1) (Nat.le_refl 1), fun c hc => ⟨_, rfl, small (m := 2) (Nat.le_refl 2), fun r hr2 => k.word (x := "blocked") s12 rfl hc tb hr2⟩⟩)⟩
      | splice q old new =>
        obtain rfl : q = p := hpA
        obtain ⟨t', e0, e1, y, z, et, hs4, i0, i1, i2, i3⟩ := hxA.fourI
        cases et
        cases i0.strI
        cases i1.strI
        refine ⟨_, rfl, rfl, _, rfl, iteN (by show ¬ V.str "splice" = V.str "write"; decide +kernel) ⟨_, rfl, _, rfl, d, ?_⟩⟩
        rcases df1.get h21 q with ⟨e, dg⟩ | ⟨ls, t3, e, dg, hl⟩
        · have ea : actF F (.splice q old new) = (.missing, F) := by simp only [actF, e]
          rw [ea] at k
          exact ⟨_, rfl, dg, _, rfl, iteE rfl ⟨small (m := 1) (Nat.le_refl 1), fun c hc => ⟨_, rfl, small (m := 2) (Nat.le_refl 2), fun r hr2 => k.word (x := "missing") sW rfl hc tb hr2⟩⟩⟩
        · have ea : actF F (.splice q old new) = spliced F q old new ls := by simp only [actF, e]
          rw [ea] at k
          refine ⟨_, rfl, dg, _, rfl, iteEn rfl ⟨_, rfl, rfl, _, rfl, iteN (by show ¬ V.str "splice" = V.str "remove"; decide +kernel) ⟨_, rfl, rfl, _, rfl, iteP rfl ⟨_, rfl, _, rfl, _, rfl, t, _, 2, _, rfl, rfl, file_stt sW hs4, rfl, _, rfl, t, _, 3, _, rfl, rfl, file_stt sW hs4, rfl, .ref d, y, z, D, F, q, old, new, ls, rfl, tb1, g, ok.same sW, e, i2.same sW, ga.2.1, ga.2.2.1, i3.same sW, ga.2.2.2, fun H' a y t s2 => k H' a y t (sW.trans s2)⟩⟩⟩⟩
end
end Sa
/-! text H11 -/
/-! the law: the first table, its files, a run, alike -/
namespace Sa
open PySem PySem.Spec L2 PyProof.Rows
theorem runF_snoc {F : Files} {a : Act} : ∀ {l : List Act}, runF F (l ++ [a]) = ((runF F l).1 ++ [(a, (actF (runF F l).2 a).1)], (actF (runF F l).2 a).2)
  | [] => rfl
  | b :: l => by
    have ih := runF_snoc (F := (actF F b).2) (a := a) (l := l)
    show ((b, (actF F b).1) :: (runF (actF F b).2 (l ++ [a])).1, (runF (actF F b).2 (l ++ [a])).2) = _
    rw [ih]
    rfl
theorem runF_good {F : Files} (g : GoodF F) : ∀ {l : List Act}, (∀ a ∈ l, GoodA a) → GoodF (runF F l).2 ∧ (∀ e ∈ (runF F l).1, GoodE e) ∧ (runF F l).1.length = l.length := by
  intro l
  induction l generalizing F with
  | nil => intro _; exact ⟨g, fun _ h => absurd h (by simp [runF]), rfl⟩
  | cons a l ih =>
    intro h
    obtain ⟨h1, h2, h3⟩ := ih (goodF_act g (h a List.mem_cons_self)) fun b hb => h b (List.mem_cons_of_mem _ hb)
    refine ⟨h1, fun e he => ?_, congrArg Nat.succ h3⟩
    change e ∈ (a, (actF F a).1) :: (runF (actF F a).2 l).1 at he
    rcases List.mem_cons.mp he with q | q
    · rw [q]
      exact ⟨h a List.mem_cons_self, goodR_act g (h a List.mem_cons_self)⟩
    · exact h2 e q
section
variable {P : Program} {w : World} {K : PySem.W.Frag} {mg : Str → Option Value} {base : Heap}
theorem TabAt.bk {D : List Addr} {H H' : Hp} {b dl : Addr} {v : V} {F : Files} (t : TabAt K D H v F) (k : BK b H H') (bx : BoxAt H b dl) : TabAt K D H' v F := by
  obtain ⟨d, kvs, e, h, n, f⟩ := t
  have tx := k.tx bx
  obtain ⟨m, ns, h1, _⟩ := bx
  exact ⟨d, kvs, e, k _ _ h (ne_of h h1 (by intro z; cases z)), n, f.tx tx⟩
def spLTable (K : PySem.W.Frag) : Sp := fun vs H Q _ => ∃ (b dl : Addr) (m : Nat), vs = [.ref b, .int (m : Int)] ∧ BoxAt H b dl ∧ m ≤ 100 ∧ ∀ H' v F, BK b H H' → BoxAt H' b dl → TabAt K [] H' v F → GoodF F → Q v H'
theorem sc_law_table : FnScope ["_law_box", "_law_most", "_law_table_here", "_law_turn"] ["_law_box", "_law_most"] (defScope s_law_table) := ⟨rfl, rfl, rfl, by decide +kernel, rfl, by decide +kernel, by decide +kernel⟩
theorem cal_law_table (T : Tx K mg) : Cal P w K mg base 5 "_law_table" (spLTable K) := by
  refine T.cal 77 39 (f_at (x := "_law_table") rfl) (g_at rfl) (N := ["_law_box", "_law_most", "_law_table_here", "_law_turn"]) (ps := ["_law_box", "_law_most"]) (fun _ _ _ _ _ _ us hl => match us, hl with | [_, _], _ => rfl) sc_law_table (fun vs H Q E h => ?_) (fun f cdv A outer s H vs Q E hr h => ?_)
  · obtain ⟨b, dl, m, rfl, _⟩ := h
    rfl
  · obtain ⟨b, dl, m, rfl, hb, hm, k⟩ := h
    refine ⟨_, pss_cons (ps_set (i := 2) sc_law_table.nd rfl (by first | exact Or.inl rfl | exact Or.inr rfl) (pe_dnewK)) (pss_cons (ps_for PassesOwn.never rfl (pi_range1 rfl (T.free 92) (pa_cons (pe_c (cal_law_draw T) hr (by decide) rfl (pa_cons (pv 0) (pa_cons (pe_op op_add (pv 1) (pe_int)) pa_nil))) pa_nil)) (pg_name (i := 3) sc_law_table.nd rfl (by first | exact Or.inl rfl | exact Or.inr rfl)) (pss_one (ps_set (i := 2) sc_law_table.nd rfl (by first | exact Or.inl rfl | exact Or.inr rfl) (pe_ix ix_tup (pe_c (cal_law_act T) hr (by decide) rfl (pa_cons (pv 2) (pa_cons (pe_tup (pa_cons (pe_str) (pa_cons (pe_c (cal_law_path T) hr (by decide) rfl (pa_cons (pv 0) pa_nil)) (pa_cons (pe_c (cal_law_lines T) hr (by decide) rfl (pa_cons (pv 0) (pa_cons (pe_int) pa_nil))) pa_nil)))) pa_nil))) (pe_int) (fun _ _ => rfl))))) (pss_one (ps_ret (pv 2)))), ?_⟩
    refine fun d0 hd0 => ?_
    have s0 : Same H (upd H d0 (.dK [])) := same_new hd0
    have tb0 : TabAt K [] (upd H d0 (.dK [])) (.ref d0) (fun _ => none) := ⟨d0, [], rfl, upd_same, by simp, ⟨List.nodup_nil, fun k v h => absurd h (by simp), fun p ls h => nomatch h⟩⟩
    refine ⟨_, rfl, _, rfl, _, _, rfl, rfl, b, dl, m + 1, rfl, by omega, hb.same s0, fun H1 r kb1 bx1 hr => ?_⟩
    refine ⟨(r : Int), rfl, by omega, by omega, for_range (fun i σ H' => ∃ v2 v3 F, σ = [some (.ref b), some (.int (m : Int)), some v2, v3] ∧ BK b H H' ∧ BoxAt H' b dl ∧ TabAt K [] H' v2 F ∧ GoodF F) ⟨_, _, _, rfl, (bk_same s0).trans kb1, bx1, tb0.bk kb1 (hb.same s0), good_none⟩ ?_ ?_⟩
    · rintro i σ H2 hi ⟨v2, v3, F, rfl, kb2, bx2, tb2, g2⟩
      refine ⟨_, rfl, _, rfl, b, dl, rfl, bx2, fun H3 p kb3 bx3 hp => ⟨_, rfl, b, dl, 4, rfl, by decide, bx3, fun H4 la ls kb4 bx4 hla gls => ⟨small (m := 3) (Nat.le_refl 3), fun q hq => ?_⟩⟩⟩
      have s5 : Same H4 (upd H4 q (.tup [.str "write", .str p, .ref la])) := same_new hq
      have kb34 := kb3.trans kb4
      refine ⟨v2, .ref q, [], F, .write p ls, rfl, ((tb2.bk kb34 bx2).same s5), g2, fun x hx => absurd hx (by simp), Dt.three upd_same (.str _) (.str _) ((Dt.lines hla).same s5), ⟨hp, gls⟩, fun H6 a y z s6 ha hy hz => ?_⟩
      exact ⟨a, _, 1, z, rfl, rfl, .inl (.inl ha), rfl, z, _, _, rfl, (kb2.trans kb34).trans (bk_same (s5.trans s6)), bx4.same (s5.trans s6), hz, goodF_act g2 (a := .write p ls) ⟨hp, gls⟩⟩
    · rintro σ H2 ⟨v2, v3, F, rfl, kb2, bx2, tb2, g2⟩
      exact ⟨_, rfl, k H2 v2 F kb2 bx2 tb2 g2⟩
def spLFiles (K : PySem.W.Frag) : Sp := fun vs H Q _ => ∃ (v : V) (D : List Addr) (F : Files), vs = [v] ∧ TabAt K D H v F ∧ GoodF F ∧ ∀ H' a, Same H H' → Dt K H' (.ref a) (dFs F) → Q (.ref a) H'
theorem sc_law_files : FnScope ["_law_table_here", "_law_path_here"] ["_law_table_here"] (defScope s_law_files) := ⟨rfl, rfl, rfl, by decide +kernel, rfl, by decide +kernel, by decide +kernel⟩
theorem cal_law_files (T : Tx K mg) : Cal P w K mg base 1 "_law_files" (spLFiles K) := by
  refine T.cal 86 48 (f_at (x := "_law_files") rfl) (g_at rfl) (N := ["_law_table_here", "_law_path_here"]) (ps := ["_law_table_here"]) (fun _ _ _ _ _ _ us hl => match us, hl with | [_], _ => rfl) sc_law_files (fun vs H Q E h => ?_) (fun f cdv A outer s H vs Q E hr h => ?_)
  · obtain ⟨v, D, F, rfl, _⟩ := h
    rfl
  · obtain ⟨v, D, F, rfl, ⟨d, kvs, rfl, h2, n, f⟩, g, k⟩ := h
    obtain ⟨ks, e1, e2, e3⟩ := f.sorted g
    have hl0 := keys_len F
    refine ⟨_, pss_one (ps_ret (pe_callTy call_tuple_of (by rfl) (T.free 89) bv_tuple (pa_cons (pe_lc (own := [("_law_path_here", 1)]) (g := gName 1) (tt := tYes) rfl sc_law_files.nd (pi_list (pe_callB (call_sortedD rfl) (by rfl) (T.free 90) bv_sorted (pa_cons (pv 0) pa_nil))) (blkOk_by (own := [("_law_path_here", 1)]) (N := ["_law_table_here", "_law_path_here"]) (sc := defScope s_law_files) (by decide +kernel)) (fun _ _ _ _ _ => pg_name (i := 1) sc_law_files.nd rfl (by first | exact Or.inl rfl | exact Or.inr rfl)) (fun _ _ _ _ _ => pts_nil) (fun _ _ _ _ _ => pe_tup (pa_cons (pv 1) (pa_cons (pe_dget (u1 hr) (pv 0) (pv 1) (fun _ _ => rfl)) pa_nil)))) pa_nil))), ?_⟩
    refine ⟨_, rfl, d, kvs, ks, rfl, .inl h2, e1, e2, fun ys p hp so hq' => ?_⟩
    cases e3 ys hp so
    refine ⟨p, rfl, ⟨_, .inl (.inl upd_same)⟩, fun B hB => lc_list (xs := (keys F).map V.str) (fun i H' => Same (upd H p (.lst ((keys F).map V.str))) H' ∧ ∃ xs, H' B = some (.lst xs) ∧ DtAll K H' xs (((keys F).take i).map (dFl F))) ⟨same_new hB, [], upd_same, .nil⟩ (fun i H' _ q => .inl (.inl (q.1 _ _ upd_same))) ?_ ?_⟩
    · rintro i y H1 hi ⟨s1, xs, hl, hd⟩
      rw [List.getElem?_map] at hi
      obtain ⟨q, hq, rfl⟩ := Option.map_eq_some_iff.mp hi
      obtain ⟨ls, hF⟩ := keys_get (List.mem_of_getElem? hq)
      have sH : Same H H1 := (same_new hq').trans s1
      obtain ⟨t, ht1, ht2⟩ := f.at hF
      have dg : DGet H1 d (.str q) (some (.ref t)) := by
        have q5 := DGet.k (k := Sum.inr q) (sH _ _ h2)
        rw [ht1] at q5
        exact q5
      have e2 : dFl F q = .tuple [.str q, dL ls] := by
        unfold dFl
        rw [hF]
        rfl
      refine ⟨rfl, t_yes ⟨_, rfl, _, rfl, _, rfl, d, .ref t, rfl, dg, small (m := 2) (Nat.le_refl 2), fun t3 ht3 => ?_⟩⟩
      have s2 : Same H1 (upd H1 t3 (.tup [.str q, .ref t])) := same_new ht3
      refine ⟨xs, s2 _ _ hl, ?_, same_mut (s1.trans s2) hB, _, upd_same, ?_⟩
      · refine smallt (m := 20) ?_
        rw [hd.length, List.length_map, List.length_take]
        omega
      · rw [take_map _ hq, e2]
        have t2 : TX (upd H1 t3 (.tup [.str q, .ref t])) (upd (upd H1 t3 (.tup [.str q, .ref t])) B (.lst (xs ++ [.ref t3]))) := tx_upd (by rw [s2 _ _ hl]; rfl)
        refine DtAll.snoc ((hd.same s2).tx t2) ?_
        exact (Dt.two upd_same (.str q) ((Dt.linesS (ht2.tx (tx_same sH))).same s2)).tx t2
    · rintro H1 ⟨s1, xs, hl, hd⟩
      have hk : (keys F).take (keys F).length = keys F := List.take_length
      rw [List.length_map, hk] at hd
      refine ⟨B, xs, rfl, .inl ⟨.inl (.inl hl), fun l hl' => ?_⟩⟩
      have s2 : Same H1 (upd H1 l (.tup xs)) := same_new hl'
      exact k _ l (((same_new hq').trans s1).trans s2) (Dt.new upd_same (hd.same s2))
def spLRun (K : PySem.W.Frag) : Sp := fun vs H Q _ => ∃ (v : V) (l : Addr) (xs : List V) (D : List Addr) (F : Files) (as : List Act), vs = [v, .ref l] ∧ TabAt K D H v F ∧ GoodF F ∧ Dok D H ∧ H l = some (.lst xs) ∧ DtAll K H xs (as.map dA) ∧ (∀ a ∈ as, GoodA a) ∧ as.length ≤ 100 ∧
  ∀ H' a jx z, Same H H' → H' a = some (.tup [jx, z]) → Dt K H' jx (dJ (runF F as).1) → TabAt K D H' z (runF F as).2 → Q (.ref a) H'
theorem sc_law_run : FnScope ["_law_table_here", "_law_actions", "_law_journal", "_law_action_here", "_law_told_here"] ["_law_table_here", "_law_actions"] (defScope s_law_run) := ⟨rfl, rfl, rfl, by decide +kernel, rfl, by decide +kernel, by decide +kernel⟩
theorem cal_law_run (T : Tx K mg) : Cal P w K mg base 5 "_law_run" (spLRun K) := by
  refine T.cal 87 49 (f_at (x := "_law_run") rfl) (g_at rfl) (N := ["_law_table_here", "_law_actions", "_law_journal", "_law_action_here", "_law_told_here"]) (ps := ["_law_table_here", "_law_actions"]) (fun _ _ _ _ _ _ us hl => match us, hl with | [_, _], _ => rfl) sc_law_run (fun vs H Q E h => ?_) (fun f cdv A outer s H vs Q E hr h => ?_)
  · obtain ⟨v, l, xs, D, F, as, rfl, _⟩ := h
    rfl
  · obtain ⟨v, l, xs, D, F, as, rfl, tb, g, ok, hl, hd, ga, h100, k⟩ := h
    have hxl : xs.length = as.length := by rw [hd.length, List.length_map]
    refine ⟨_, pss_cons (ps_set (i := 2) sc_law_run.nd rfl (by first | exact Or.inl rfl | exact Or.inr rfl) (pe_lst (pa_nil))) (pss_cons (ps_for PassesOwn.never rfl (pi_list (pv 1)) (pg_name (i := 3) sc_law_run.nd rfl (by first | exact Or.inl rfl | exact Or.inr rfl)) (pss_cons (ps_set (i := 4) sc_law_run.nd rfl (by first | exact Or.inl rfl | exact Or.inr rfl) (pe_c (cal_law_act T) hr (by decide) rfl (pa_cons (pv 0) (pa_cons (pv 3) pa_nil)))) (pss_cons (ps_expr (pe_bm PySem.F.plainAttrs_list PySem.F.slot_list_append PySem.F.type_list_append mt_append (pv 2) (pa_cons (pe_tup (pa_cons (pv 3) (pa_cons (pe_ix ix_tup (pv 4) (pe_int) (fun _ _ => rfl)) pa_nil))) pa_nil))) (pss_one (ps_set (i := 0) sc_law_run.nd rfl (by first | exact Or.inl rfl | exact Or.inr rfl) (pe_ix ix_tup (pv 4) (pe_int) (fun _ _ => rfl))))))) (pss_one (ps_ret (pe_tup (pa_cons (pe_callTy call_tuple_of (by rfl) (T.free 89) bv_tuple (pa_cons (pv 2) pa_nil)) (pa_cons (pv 0) pa_nil)))))), ?_⟩
    refine ⟨small (m := 0) (Nat.le_refl 0), fun B hB => ?_⟩
    have s0 : Same H (upd H B (.lst [])) := same_new hB
    have hlB : l ≠ B := ne_of_none hl hB
    refine ⟨_, rfl, l, rfl, ⟨xs, .inl (.inl (s0 _ _ hl))⟩, for_list (xs := xs) (fun i σ H' => ∃ v0 v3 v4 es, σ = [some v0, some (.ref l), some (.ref B), v3, v4] ∧ Same H H' ∧ H' B = some (.lst es) ∧ DtAll K H' es ((runF F (as.take i)).1.map dE) ∧ TabAt K D H' v0 (runF F (as.take i)).2) ⟨_, _, _, [], rfl, s0, upd_same, .nil, tb.same s0⟩ (fun i σ H' _ ⟨_, _, _, _, _, q, _⟩ => .inl (.inl (q _ _ hl))) ?_ ?_⟩
    · rintro i y σ H2 hi ⟨v0, v3, v4, es, rfl, s2, hB2, he2, tb2⟩
      obtain ⟨dd, h1, h2⟩ := hd.get hi
      rw [List.getElem?_map] at h1
      obtain ⟨a, ha, rfl⟩ := Option.map_eq_some_iff.mp h1
      have hm := List.mem_of_getElem? ha
      obtain ⟨g2, ge, gl⟩ := runF_good g (l := as.take i) fun b hb => ga b (List.mem_of_mem_take hb)
      have ilt := (List.getElem?_eq_some_iff.mp ha).1
      refine ⟨_, rfl, _, rfl, v0, y, D, _, a, rfl, tb2, g2, ok.same s2, h2.same s2, ga a hm, fun H3 c y3 z3 s3 hc hy hz => ?_⟩
      have s23 := s2.trans s3
      refine ⟨_, rfl, .inl ⟨rfl, _, .inl (.inl (s3 _ _ hB2))⟩, _, rfl, _, rfl, c, _, 0, y3, rfl, rfl, .inl (.inl hc), rfl, small (m := 2) (Nat.le_refl 2), fun e he => ?_⟩
      have s4 : Same H3 (upd H3 e (.tup [y, y3])) := same_new he
      have hB4 := s4 _ _ (s3 _ _ hB2)
      have hcB : c ≠ B := ne_of hc (s3 _ _ hB2) (by intro z; cases z)
      refine ⟨B, es, .ref e, rfl, rfl, hB4, smallt (m := 200) ?_, ?_⟩
      · rw [he2.length, List.length_map, gl, List.length_take]
        omega
      · have tx : TX (upd H3 e (.tup [y, y3])) (upd (upd H3 e (.tup [y, y3])) B (.lst (es ++ [.ref e]))) := tx_upd (by rw [hB4]; rfl)
        refine ⟨_, rfl, c, _, 1, z3, rfl, rfl, .inl (.inl (tx _ _ (s4 _ _ hc))), rfl, z3, _, _, es ++ [.ref e], rfl, same_mut (s23.trans s4) hB, upd_same, ?_, ?_⟩
        · rw [List.take_succ, ha]
          show DtAll K _ _ ((runF F (as.take i ++ [a])).1.map dE)
          rw [runF_snoc, List.map_append]
          refine DtAll.snoc ((he2.same (s3.trans s4)).tx tx) ?_
          exact (Dt.two upd_same ((h2.same s23).same s4) (hy.same s4)).tx tx
        · rw [List.take_succ, ha]
          show TabAt K D _ _ (runF F (as.take i ++ [a])).2
          rw [runF_snoc]
          refine TabAt.ev (C := CT K) ?_ (hz.same s4)
          exact ev_upd (by rw [hB4]; rfl)
    · rintro σ H2 ⟨v0, v3, v4, es, rfl, s2, hB2, he2, tb2⟩
      rw [hxl, List.take_length] at he2 tb2
      refine ⟨_, rfl, B, es, rfl, .inl ⟨.inl (.inl hB2), fun q hq => ⟨_, rfl, small (m := 2) (Nat.le_refl 2), fun r hr => ?_⟩⟩⟩
      have s3 : Same H2 (upd H2 q (.tup es)) := same_new hq
      have s4 : Same (upd H2 q (.tup es)) (upd (upd H2 q (.tup es)) r (.tup [.ref q, v0])) := same_new hr
      exact k _ r (.ref q) v0 ((s2.trans s3).trans s4) upd_same ((Dt.new upd_same (he2.same s3)).same s4) (tb2.same (s3.trans s4))
def spLAlike (K : PySem.W.Frag) : Sp := fun vs H Q _ => ∃ (x y : V) (ds : List PyData) (k n : Nat), vs = [x, y] ∧ Dt K H x (.tuple ds) ∧ Dt K H y (.tuple ds) ∧ OkD (.tuple ds) k n ∧ k ≤ 60 ∧ n ≤ 2 ^ 20 ∧ Q (.bl true) H
theorem sc_law_alike : FnScope ["_law_one", "_law_two"] ["_law_one", "_law_two"] (defScope s_law_alike) := ⟨rfl, rfl, rfl, by decide +kernel, rfl, by decide +kernel, by decide +kernel⟩
theorem cal_law_alike (T : Tx K mg) : CalG P w K mg base 1 "_law_alike" (spLAlike K) := by
  refine T.calG 71 33 (f_at (x := "_law_alike") rfl) (g_at rfl) (N := ["_law_one", "_law_two"]) (ps := ["_law_one", "_law_two"]) (fun _ _ _ _ _ _ us hl => match us, hl with | [_, _], _ => rfl) sc_law_alike (fun vs H Q E h => ?_) (fun f cdv A outer s H vs Q E hgu hr h => ?_)
  · obtain ⟨x, y, ds, k, n, rfl, _⟩ := h
    rfl
  · obtain ⟨x, y, ds, m, n, rfl, hx, hy, o, hm, hn, k⟩ := h
    obtain ⟨a, xs, rfl, _⟩ := Dt.tupI hx
    obtain ⟨b, ys, rfl, _⟩ := Dt.tupI hy
    have hdep := o.dep
    refine ⟨_, pss_one (ps_ret (pe_cmpR op_eq (pe_callB (call_reprD hgu hr) (by rfl) (T.free 97) bv_repr (pa_cons (pv 0) pa_nil)) (pe_callB (call_reprD hgu hr) (by rfl) (T.free 97) bv_repr (pa_cons (pv 1) pa_nil)) (nomark _))), ?_⟩
    refine ⟨_, rfl, a, _, rfl, hx.dp, o.sh, o.nod, by omega, o.fits hn, _, rfl, b, _, rfl, hy.dp, o.sh, o.nod, by omega, o.fits hn, rfl, ?_⟩
    rw [decide_eq_true rfl]
    exact k
end
end Sa
/-! text H12 -/
/-! the law: a drawn check -/
namespace Sa
open PySem PySem.Spec L2 PyProof.Rows
def LAn : List Ans := [.none, .file, .folder, .lines [], .lines ["p"], .many 1, .found [], .names []]
theorem lan_good : ∀ r ∈ LAn, GoodR r := by
  intro r hr
  simp only [LAn, List.mem_cons, List.not_mem_nil, or_false] at hr
  rcases hr with rfl | rfl | rfl | rfl | rfl | rfl | rfl | rfl
  · trivial
  · trivial
  · trivial
  · exact GoodLs.nil
  · exact ⟨by decide, by decide +kernel⟩
  · show 1 ≤ 20
    decide
  · exact ⟨fun _ h => absurd h (by simp), Nat.zero_le _⟩
  · exact ⟨fun _ h => absurd h (by simp), Nat.zero_le _⟩
theorem any_mem {as : List Ans} {r : Ans} : (!(as.map dR).any fun z => PyData.eqv z (dR r)) = !decide (r ∈ as) := by
  congr 1
  rw [List.any_map]
  induction as with
  | nil => rfl
  | cons a as ih =>
    rw [List.any_cons, ih]
    show (PyData.eqv (dR a) (dR r) || decide (r ∈ as)) = _
    rw [eqR]
    by_cases h : a = r
    · subst h
      simp
    · simp [h, Ne.symm h]
theorem goodC_snoc {crs : List CRow} {n : Nat} {r : CRow} (h : ∀ j q, crs[j]? = some q → GoodC j n q) (hr : GoodC crs.length n r) : ∀ j q, (crs ++ [r])[j]? = some q → GoodC j n q := fun j q e => by
  by_cases hj : j < crs.length
  · rw [List.getElem?_append_left hj] at e
    exact h j q e
  · rw [List.getElem?_append_right (by omega)] at e
    have h1 : j - crs.length < 1 := (List.getElem?_eq_some_iff.mp e).1
    have h2 : q = r := List.mem_singleton.mp (List.mem_of_getElem? e)
    have h3 : j = crs.length := by omega
    rw [h2, h3]
    exact hr
theorem goodC_end {r : CRow} {j n : Nat} (h : isEnd r = true) : GoodC j n r := by
  cases r with
  | ask a cs o => cases h
  | pass => trivial
  | fail => trivial
section
variable {P : Program} {w : World} {K : PySem.W.Frag} {mg : Str → Option Value} {base : Heap}
def spLCheck (K : PySem.W.Frag) : Sp := fun vs H Q _ => ∃ b dl : Addr, vs = [.ref b] ∧ BoxAt H b dl ∧ ∀ H' x c, BK b H H' → BoxAt H' b dl → Dt K H' x (dCk c) → GoodCk c → Q x H'
theorem sc_law_check : FnScope ["_law_box", "_law_rows", "_law_many", "_law_k", "_law_question_here", "_law_cases", "_law_turn", "_law_answer", "_law_pair"] ["_law_box"] (defScope s_law_check) := ⟨rfl, rfl, rfl, by decide +kernel, rfl, by decide +kernel, by decide +kernel⟩
theorem cal_law_check (T : Tx K mg) : Cal P w K mg base 4 "_law_check" (spLCheck K) := by
  refine T.cal 88 50 (f_at (x := "_law_check") rfl) (g_at rfl) (N := ["_law_box", "_law_rows", "_law_many", "_law_k", "_law_question_here", "_law_cases", "_law_turn", "_law_answer", "_law_pair"]) (ps := ["_law_box"]) (fun _ _ _ _ _ _ us hl => match us, hl with | [_], _ => rfl) sc_law_check (fun vs H Q E h => ?_) (fun f cdv A outer s H vs Q E hr h => ?_)
  · obtain ⟨b, dl, rfl, _⟩ := h
    rfl
  · obtain ⟨b, dl, rfl, hb, k⟩ := h
    refine ⟨_, pss_cons (ps_set (i := 1) sc_law_check.nd rfl (by first | exact Or.inl rfl | exact Or.inr rfl) (pe_lst (pa_nil))) (pss_cons (ps_set (i := 2) sc_law_check.nd rfl (by first | exact Or.inl rfl | exact Or.inr rfl) (pe_c (cal_law_draw T) hr (by decide) rfl (pa_cons (pv 0) (pa_cons (pe_int) pa_nil)))) (pss_cons (ps_for PassesOwn.never rfl (pi_range1 rfl (T.free 92) (pa_cons (pv 2) pa_nil)) (pg_name (i := 3) sc_law_check.nd rfl (by first | exact Or.inl rfl | exact Or.inr rfl)) (pss_cons (ps_set (i := 4) sc_law_check.nd rfl (by first | exact Or.inl rfl | exact Or.inr rfl) (pe_c (cal_law_question T) hr (by decide) rfl (pa_cons (pv 0) pa_nil))) (pss_cons (ps_set (i := 5) sc_law_check.nd rfl (by first | exact Or.inl rfl | exact Or.inr rfl) (pe_lst (pa_nil))) (pss_cons (ps_for PassesOwn.never rfl (pi_range1 rfl (T.free 92) (pa_cons (pe_c (cal_law_draw T) hr (by decide) rfl (pa_cons (pv 0) (pa_cons (pe_int) pa_nil))) pa_nil)) (pg_name (i := 6) sc_law_check.nd rfl (by first | exact Or.inl rfl | exact Or.inr rfl)) (pss_cons (ps_set (i := 7) sc_law_check.nd rfl (by first | exact Or.inl rfl | exact Or.inr rfl) (pe_ix ix_list (pe_lst (pa_cons (pe_tup (pa_cons (pe_str) pa_nil)) (pa_cons (pe_tup (pa_cons (pe_str) pa_nil)) (pa_cons (pe_tup (pa_cons (pe_str) pa_nil)) (pa_cons (pe_tup (pa_cons (pe_str) (pa_cons (pe_tup (pa_nil)) pa_nil))) (pa_cons (pe_tup (pa_cons (pe_str) (pa_cons (pe_tup (pa_cons (pe_str) pa_nil)) pa_nil))) (pa_cons (pe_tup (pa_cons (pe_str) (pa_cons (pe_int) pa_nil))) (pa_cons (pe_tup (pa_cons (pe_str) (pa_cons (pe_tup (pa_nil)) pa_nil))) (pa_cons (pe_tup (pa_cons (pe_str) (pa_cons (pe_tup (pa_nil)) pa_nil))) pa_nil))))))))) (pe_c (cal_law_draw T) hr (by decide) rfl (pa_cons (pv 0) (pa_cons (pe_int) pa_nil))) (fun _ _ => rfl))) (pss_one (ps_if (pt_cmpR (op_notInD (u65 hr)) (pv 7) (pe_lc (own := [("_law_pair", 8)]) (g := gName 8) (tt := tYes) rfl sc_law_check.nd (pi_list (pv 5)) (blkOk_by (own := [("_law_pair", 8)]) (N := ["_law_box", "_law_rows", "_law_many", "_law_k", "_law_question_here", "_law_cases", "_law_turn", "_law_answer", "_law_pair"]) (sc := defScope s_law_check) (by decide +kernel)) (fun _ _ _ _ _ => pg_name (i := 8) sc_law_check.nd rfl (by first | exact Or.inl rfl | exact Or.inr rfl)) (fun _ _ _ _ _ => pts_nil) (fun _ _ _ _ _ => pe_ix (ix_tupK K rfl) (pv 8) (pe_int) (fun _ _ => rfl))) (by rfl)) (pss_one (ps_expr (pe_bm PySem.F.plainAttrs_list PySem.F.slot_list_append PySem.F.type_list_append mt_append (pv 5) (pa_cons (pe_tup (pa_cons (pv 7) (pa_cons (pe_op op_add (pe_op op_add (pv 3) (pe_int)) (pe_c (cal_law_draw T) hr (by decide) rfl (pa_cons (pv 0) (pa_cons (pe_op op_sub (pe_op op_add (pv 2) (pe_int)) (pv 3)) pa_nil)))) pa_nil))) pa_nil)))) (pss_nil))))) (pss_one (ps_expr (pe_bm PySem.F.plainAttrs_list PySem.F.slot_list_append PySem.F.type_list_append mt_append (pv 1) (pa_cons (pe_tup (pa_cons (pe_str) (pa_cons (pv 4) (pa_cons (pe_callTy call_tuple_of (by rfl) (T.free 89) bv_tuple (pa_cons (pv 5) pa_nil)) (pa_cons (pe_op op_add (pe_op op_add (pv 3) (pe_int)) (pe_c (cal_law_draw T) hr (by decide) rfl (pa_cons (pv 0) (pa_cons (pe_op op_sub (pe_op op_add (pv 2) (pe_int)) (pv 3)) pa_nil)))) pa_nil))))) pa_nil)))))))) (pss_cons (ps_expr (pe_bm PySem.F.plainAttrs_list PySem.F.slot_list_append PySem.F.type_list_append mt_append (pv 1) (pa_cons (pe_ix ix_list (pe_lst (pa_cons (pe_tup (pa_cons (pe_str) pa_nil)) (pa_cons (pe_tup (pa_cons (pe_str) pa_nil)) pa_nil))) (pe_c (cal_law_draw T) hr (by decide) rfl (pa_cons (pv 0) (pa_cons (pe_int) pa_nil))) (fun _ _ => rfl)) pa_nil))) (pss_cons (ps_expr (pe_bm PySem.F.plainAttrs_list PySem.F.slot_list_append PySem.F.type_list_append mt_append (pv 1) (pa_cons (pe_ix ix_list (pe_lst (pa_cons (pe_tup (pa_cons (pe_str) pa_nil)) (pa_cons (pe_tup (pa_cons (pe_str) pa_nil)) pa_nil))) (pe_c (cal_law_draw T) hr (by decide) rfl (pa_cons (pv 0) (pa_cons (pe_int) pa_nil))) (fun _ _ => rfl)) pa_nil))) (pss_one (ps_ret (pe_callTy call_tuple_of (by rfl) (T.free 89) bv_tuple (pa_cons (pv 1) pa_nil)))))))), ?_⟩
    refine ⟨small (m := 0) (Nat.le_refl 0), fun B hB => ?_⟩
    have s0 : Same H (upd H B (.lst [])) := same_new hB
    have nB := hb.nb hB
    refine ⟨_, rfl, b, dl, 4, rfl, by decide, hb.same s0, fun H1 many kb1 bx1 hmany => ?_⟩
    have kbH1 : BK b H H1 := (bk_same s0).trans kb1
    have hB1 : H1 B = some (.lst []) := kb1 _ _ upd_same (Ne.symm nB.1)
    refine ⟨_, rfl, (many : Int), rfl, by omega, by omega, for_range (fun i σ H' => ∃ v3 v4 v5 v6 v7 v8 rs crs, σ = [some (.ref b), some (.ref B), some (.int (many : Int)), v3, v4, v5, v6, v7, v8] ∧ BK b H H' ∧ BoxAt H' b dl ∧ H' B = some (.lst rs) ∧ DtAll K H' rs (crs.map dC) ∧ crs.length = i ∧ ∀ j r, crs[j]? = some r → GoodC j (many + 2) r) ⟨_, _, _, _, _, _, [], [], rfl, kbH1, bx1, hB1, .nil, rfl, fun j r h => by simp at h⟩ ?_ ?_⟩
    · rintro i σ H2 hi ⟨v3, v4, v5, v6, v7, v8, rs, crs, rfl, kb2, bx2, hB2, hrs, hcl, hgc⟩
      have hi' : i < many := hi
      refine ⟨_, rfl, b, dl, rfl, bx2, fun H3 qv a kb3 bx3 hqv ga iq => ?_⟩
      have hB3 := kb3 _ _ hB2 (Ne.symm nB.1)
      refine ⟨small (m := 0) (Nat.le_refl 0), fun C hC => ?_⟩
      have s4 : Same H3 (upd H3 C (.lst [])) := same_new hC
      have nC := bx3.nb hC
      have nBC : B ≠ C := ne_of_none hB3 hC
      have hCH : H C = none := by
        cases q : H C with
        | none => rfl
        | some o =>
          have nCb : C ≠ b := Ne.symm nC.1
          rw [kb3 _ _ (kb2 _ _ q nCb) nCb] at hC
          cases hC
      refine ⟨_, rfl, b, dl, 3, rfl, by decide, bx3.same s4, fun H5 tn kb5 bx5 htn => ?_⟩
      have kb25 : BK b H2 H5 := (kb3.trans (bk_same s4)).trans kb5
      have tx25 := kb25.tx bx2
      have tx35 := ((bk_same s4).trans kb5).tx bx3
      have hC5 : H5 C = some (.lst []) := kb5 _ _ upd_same (Ne.symm nC.1)
      have hB5 : H5 B = some (.lst rs) := kb5 _ _ (s4 _ _ hB3) (Ne.symm nB.1)
      have kbH5 : BK b H H5 := kb2.trans kb25
      have hqv5 := hqv.tx tx35
      have hrs5 := hrs.tx tx25
      refine ⟨(tn : Int), rfl, by omega, by omega, for_range (fun j σ H' => ∃ v6 v7 v8 cvs cs, σ = [some (.ref b), some (.ref B), some (.int (many : Int)), some (.int (0 + (i : Int))), some qv, some (.ref C), v6, v7, v8] ∧ BK b H H' ∧ BoxAt H' b dl ∧ H' B = some (.lst rs) ∧ DtAll K H' rs (crs.map dC) ∧ Dt K H' qv (dA a) ∧ H' C = some (.lst cvs) ∧ DtAll K H' cvs (cs.map dCase) ∧ cs.length ≤ j ∧ (cs.map Prod.fst).Nodup ∧ ∀ c ∈ cs, GoodR c.1 ∧ i < c.2 ∧ c.2 < many + 2) ⟨_, _, _, [], [], rfl, kbH5, bx5, hB5, hrs5, hqv5, hC5, .nil, Nat.le_refl 0, List.nodup_nil, fun _ h => absurd h (by simp)⟩ ?_ ?_⟩
      · rintro j σ H6 hj ⟨v6, v7, v8, cvs, cs, rfl, kb6, bx6, hB6, hrs6, hqv6, hC6, hcv6, hcl6, hnd6, hgc6⟩
        have hj3 : j < tn := hj
        have acc : DtAll K H6 [] [] := .nil
        have sg : Same H6 H6 := Same.refl H6
        refine ⟨small (m := 1) (Nat.le_refl 1), fun a1 h1 => ?_⟩
        have sg1 : Same H6 (upd H6 a1 (.tup [.str "none"])) := same_new h1
        have dd1 : Dt K (upd H6 a1 (.tup [.str "none"])) (.ref a1) (.tuple [.str "none"]) := Dt.one upd_same (.str _)
        generalize upd H6 a1 (.tup [.str "none"]) = G1 at sg1 dd1 ⊢
        replace sg := sg.trans sg1
        replace acc := (acc.same sg1).snoc dd1
        refine ⟨small (m := 1) (Nat.le_refl 1), fun a2 h2 => ?_⟩
        have sg2 : Same G1 (upd G1 a2 (.tup [.str "file"])) := same_new h2
        have dd2 : Dt K (upd G1 a2 (.tup [.str "file"])) (.ref a2) (.tuple [.str "file"]) := Dt.one upd_same (.str _)
        generalize upd G1 a2 (.tup [.str "file"]) = G2 at sg2 dd2 ⊢
        replace sg := sg.trans sg2
        replace acc := (acc.same sg2).snoc dd2
        refine ⟨small (m := 1) (Nat.le_refl 1), fun a3 h3 => ?_⟩
        have sg3 : Same G2 (upd G2 a3 (.tup [.str "folder"])) := same_new h3
        have dd3 : Dt K (upd G2 a3 (.tup [.str "folder"])) (.ref a3) (.tuple [.str "folder"]) := Dt.one upd_same (.str _)
        generalize upd G2 a3 (.tup [.str "folder"]) = G3 at sg3 dd3 ⊢
        replace sg := sg.trans sg3
        replace acc := (acc.same sg3).snoc dd3
        refine ⟨small (m := 0) (Nat.le_refl 0), fun a4 h4 => ?_⟩
        have sg4 : Same G3 (upd G3 a4 (.tup [])) := same_new h4
        have dd4 : Dt K (upd G3 a4 (.tup [])) (.ref a4) (.tuple []) := Dt.new upd_same .nil
        generalize upd G3 a4 (.tup []) = G4 at sg4 dd4 ⊢
        replace sg := sg.trans sg4
        replace acc := acc.same sg4
        refine ⟨small (m := 2) (Nat.le_refl 2), fun a5 h5 => ?_⟩
        have sg5 : Same G4 (upd G4 a5 (.tup [.str "lines", .ref a4])) := same_new h5
        have dd5 : Dt K (upd G4 a5 (.tup [.str "lines", .ref a4])) (.ref a5) (.tuple [.str "lines", .tuple []]) := Dt.two upd_same (.str _) (dd4.same sg5)
        generalize upd G4 a5 (.tup [.str "lines", .ref a4]) = G5 at sg5 dd5 ⊢
        replace sg := sg.trans sg5
        replace acc := (acc.same sg5).snoc dd5
        refine ⟨small (m := 1) (Nat.le_refl 1), fun a6 h6 => ?_⟩
        have sg6 : Same G5 (upd G5 a6 (.tup [.str "p"])) := same_new h6
        have dd6 : Dt K (upd G5 a6 (.tup [.str "p"])) (.ref a6) (.tuple [.str "p"]) := Dt.one upd_same (.str _)
        generalize upd G5 a6 (.tup [.str "p"]) = G6 at sg6 dd6 ⊢
        replace sg := sg.trans sg6
        replace acc := acc.same sg6
        refine ⟨small (m := 2) (Nat.le_refl 2), fun a7 h7 => ?_⟩
        have sg7 : Same G6 (upd G6 a7 (.tup [.str "lines", .ref a6])) := same_new h7
        have dd7 : Dt K (upd G6 a7 (.tup [.str "lines", .ref a6])) (.ref a7) (.tuple [.str "lines", .tuple [.str "p"]]) := Dt.two upd_same (.str _) (dd6.same sg7)
        generalize upd G6 a7 (.tup [.str "lines", .ref a6]) = G7 at sg7 dd7 ⊢
        replace sg := sg.trans sg7
        replace acc := (acc.same sg7).snoc dd7
        refine ⟨small (m := 2) (Nat.le_refl 2), fun a8 h8 => ?_⟩
        have sg8 : Same G7 (upd G7 a8 (.tup [.str "many", .int 1])) := same_new h8
        have dd8 : Dt K (upd G7 a8 (.tup [.str "many", .int 1])) (.ref a8) (.tuple [.str "many", .int 1]) := Dt.two upd_same (.str _) (.int _)
        generalize upd G7 a8 (.tup [.str "many", .int 1]) = G8 at sg8 dd8 ⊢
        replace sg := sg.trans sg8
        replace acc := (acc.same sg8).snoc dd8
        refine ⟨small (m := 0) (Nat.le_refl 0), fun a9 h9 => ?_⟩
        have sg9 : Same G8 (upd G8 a9 (.tup [])) := same_new h9
        have dd9 : Dt K (upd G8 a9 (.tup [])) (.ref a9) (.tuple []) := Dt.new upd_same .nil
        generalize upd G8 a9 (.tup []) = G9 at sg9 dd9 ⊢
        replace sg := sg.trans sg9
        replace acc := acc.same sg9
        refine ⟨small (m := 2) (Nat.le_refl 2), fun a10 h10 => ?_⟩
        have sg10 : Same G9 (upd G9 a10 (.tup [.str "found", .ref a9])) := same_new h10
        have dd10 : Dt K (upd G9 a10 (.tup [.str "found", .ref a9])) (.ref a10) (.tuple [.str "found", .tuple []]) := Dt.two upd_same (.str _) (dd9.same sg10)
        generalize upd G9 a10 (.tup [.str "found", .ref a9]) = G10 at sg10 dd10 ⊢
        replace sg := sg.trans sg10
        replace acc := (acc.same sg10).snoc dd10
        refine ⟨small (m := 0) (Nat.le_refl 0), fun a11 h11 => ?_⟩
        have sg11 : Same G10 (upd G10 a11 (.tup [])) := same_new h11
        have dd11 : Dt K (upd G10 a11 (.tup [])) (.ref a11) (.tuple []) := Dt.new upd_same .nil
        generalize upd G10 a11 (.tup []) = G11 at sg11 dd11 ⊢
        replace sg := sg.trans sg11
        replace acc := acc.same sg11
        refine ⟨small (m := 2) (Nat.le_refl 2), fun a12 h12 => ?_⟩
        have sg12 : Same G11 (upd G11 a12 (.tup [.str "names", .ref a11])) := same_new h12
        have dd12 : Dt K (upd G11 a12 (.tup [.str "names", .ref a11])) (.ref a12) (.tuple [.str "names", .tuple []]) := Dt.two upd_same (.str _) (dd11.same sg12)
        generalize upd G11 a12 (.tup [.str "names", .ref a11]) = G12 at sg12 dd12 ⊢
        replace sg := sg.trans sg12
        replace acc := (acc.same sg12).snoc dd12
        refine ⟨small (m := 8) (Nat.le_refl 8), fun l hl => ?_⟩
        have sl : Same G12 (upd G12 l (.lst [.ref a1, .ref a2, .ref a3, .ref a5, .ref a7, .ref a8, .ref a10, .ref a12])) := same_new hl
        have acc2 := acc.same sl
        have bxl := (bx6.same sg).same sl
        have nl := (bx6.same sg).nb hl
        refine ⟨_, rfl, b, dl, 8, rfl, by decide, bxl, fun H7 r7 kb7 bx7 hr7 => ?_⟩
        obtain ⟨an, han⟩ : ∃ an, LAn[r7]? = some an := ⟨LAn[r7]'hr7, List.getElem?_eq_getElem hr7⟩
        obtain ⟨av, hav, hdav⟩ := DtAll.at (ds := LAn.map dR) acc2 (by rw [List.getElem?_map, han]; rfl)
        have kb67 : BK b H6 H7 := (bk_same (sg.trans sl)).trans kb7
        have tx7 := kb7.tx bxl
        have tx67 := kb67.tx bx6
        have gan := lan_good an (List.mem_of_getElem? han)
        refine ⟨l, _, (r7 : Int), av, rfl, rfl, .inl (.inl (kb7 _ _ upd_same (Ne.symm nl.1))), atI_nat hav, ?_⟩
        have hdav7 := hdav.tx tx7
        have hC7 := kb67 _ _ hC6 (Ne.symm nC.1)
        have hB7 := kb67 _ _ hB6 (Ne.symm nB.1)
        have hcv7 := hcv6.tx tx67
        have hrs7 := hrs6.tx tx67
        have hqv7 := hqv6.tx tx67
        have kbH7 := kb6.trans kb67
        have cvl : cvs.length = cs.length := by rw [hcv6.length, List.length_map]
        refine ⟨_, rfl, _, rfl, C, rfl, ⟨cvs, .inl (.inl hC7)⟩, fun B2 hB2 => lc_list (xs := cvs) (fun i2 H' => Same H7 H' ∧ ∃ ws, H' B2 = some (.lst ws) ∧ DtAll K H' ws (((cs.map Prod.fst).take i2).map dR)) ⟨same_new hB2, [], upd_same, .nil⟩ (fun i2 H' _ q => .inl (.inl (q.1 _ _ hC7))) ?_ ?_⟩
        · rintro i2 y H8 hi2 ⟨s8, ws, hw8, hdw8⟩
          obtain ⟨cc, t2, rr, hc, rfl, ht2, hrr⟩ := case_at hcv7 hi2
          have hilt := (List.getElem?_eq_some_iff.mp hc).1
          refine ⟨rfl, t_yes ⟨_, rfl, t2, _, 0, rr, rfl, rfl, file_stt s8 ht2, rfl, ws, hw8, smallt (m := 20) ?_, same_mut s8 hB2, _, upd_same, ?_⟩⟩
          · rw [hdw8.length, List.length_map, List.length_take, List.length_map]
            omega
          · have e : (cs.map Prod.fst)[i2]? = some cc.1 := by rw [List.getElem?_map, hc]; rfl
            have tx : TX H8 (upd H8 B2 (.lst (ws ++ [rr]))) := tx_upd (by rw [hw8]; rfl)
            rw [take_map _ e]
            exact DtAll.snoc (hdw8.tx tx) ((hrr.same s8).tx tx)
        rintro H8 ⟨s8, ws, hw8, hdw8⟩
        rw [cvl, List.take_of_length_le (by rw [List.length_map]; exact Nat.le_refl _)] at hdw8
        have okW : OkAll ((cs.map Prod.fst).map dR) 3 ((cs.map Prod.fst).length * 4001) := OkAll.map fun r hr => by
          obtain ⟨cc, hcc, rfl⟩ := List.mem_map.mp hr
          exact ok_dR (hgc6 cc hcc).1
        refine ⟨dR an, (cs.map Prod.fst).map dR, (hdav7.same s8).dp, .lst (.inl (.inl hw8)) hdw8.dp, (ok_dR gan).shaped (by decide), shaped_list okW (by decide), ?_⟩
        rw [any_mem]
        have tx68 := tx67.trans (tx_same s8)
        have bx8 := bx7.same s8
        have kbH8 := kbH7.trans (bk_same s8)
        refine ⟨_, rfl, ?_⟩
        by_cases hm : an ∈ cs.map Prod.fst
        · exact iteEn (by rw [decide_eq_true hm]; rfl) ⟨_, _, _, cvs, cs, rfl, kbH8, bx8, s8 _ _ hB7, hrs7.same s8, hqv7.same s8, s8 _ _ hC7, hcv7.same s8, by omega, hnd6, hgc6⟩
        · refine iteE (by rw [decide_eq_false hm]; rfl) ⟨_, rfl, .inl ⟨rfl, _, .inl (.inl (s8 _ _ hC7))⟩, _, rfl, _, rfl, _, _, rfl, rfl, _, rfl, _, rfl, _, _, rfl, rfl, _, rfl, _, _, rfl, rfl, ?_⟩
          have e1 : (many : Int) + 1 - (0 + (i : Int)) = ((many + 1 - i : Nat) : Int) := by omega
          refine ⟨b, dl, many + 1 - i, by rw [← e1]; rfl, by omega, bx8, fun H9 r9 kb9 bx9 hr9 => ⟨_, _, rfl, rfl, small (m := 2) (Nat.le_refl 2), fun q hq => ?_⟩⟩
          have tx9 := kb9.tx bx8
          have hC9 := kb9 _ _ (s8 _ _ hC7) (Ne.symm nC.1)
          have hB9 := kb9 _ _ (s8 _ _ hB7) (Ne.symm nB.1)
          have sq : Same H9 (upd H9 q (.tup [av, .int (0 + (i : Int) + 1 + (r9 : Int))])) := same_new hq
          have e2 : (0 + (i : Int) + 1 + (r9 : Int)) = ((i + 1 + r9 : Nat) : Int) := by omega
          have hnew : Dt K (upd H9 q (.tup [av, .int (0 + (i : Int) + 1 + (r9 : Int))])) (.ref q) (dCase (an, i + 1 + r9)) := by
            refine Dt.two upd_same (((hdav7.same s8).tx tx9).same sq) ?_
            rw [e2]
            exact .int _
          refine ⟨C, cvs, .ref q, rfl, rfl, sq _ _ hC9, smallt (m := 20) (by omega), ?_⟩
          have txc : TX (upd H9 q (.tup [av, .int (0 + (i : Int) + 1 + (r9 : Int))])) (upd (upd H9 q (.tup [av, .int (0 + (i : Int) + 1 + (r9 : Int))])) C (.lst (cvs ++ [.ref q]))) := tx_upd (by rw [sq _ _ hC9]; rfl)
          have txa := ((tx_same s8).trans tx9).trans ((tx_same sq).trans txc)
          refine ⟨_, _, _, cvs ++ [.ref q], cs ++ [(an, i + 1 + r9)], rfl, ((kbH8.trans kb9).trans (bk_same sq)).mut hCH, (bx9.same sq).mut nC, ?_, hrs7.tx txa, hqv7.tx txa, upd_same, ?_, ?_, ?_, fun c hc => ?_⟩
          · rw [upd_ne nBC]
            exact sq _ _ hB9
          · rw [List.map_append]
            exact DtAll.snoc (hcv7.tx txa) (hnew.tx txc)
          · rw [List.length_append]
            show cs.length + 1 ≤ j + 1
            omega
          · rw [List.map_append]
            refine List.nodup_append.mpr ⟨hnd6, by simp, fun x hx y hy => ?_⟩
            have hy2 : y = an := by simpa using hy
            rw [hy2]
            rintro rfl
            exact hm hx
          · rcases List.mem_append.mp hc with h | h
            · exact hgc6 c h
            · rw [List.mem_singleton.mp h]
              exact ⟨gan, by show i < i + 1 + r9; omega, by show i + 1 + r9 < many + 2; omega⟩
      · rintro σ H6 ⟨v6, v7, v8, cvs, cs, rfl, kb6, bx6, hB6, hrs6, hqv6, hC6, hcv6, hcl6, hnd6, hgc6⟩
        have etn : ((tn : Int)).toNat = tn := rfl
        rw [etn] at hcl6
        refine ⟨_, rfl, .inl ⟨rfl, _, .inl (.inl hB6)⟩, _, rfl, _, rfl, C, cvs, rfl, .inl ⟨.inl (.inl hC6), fun ct hct => ?_⟩⟩
        have s7 : Same H6 (upd H6 ct (.tup cvs)) := same_new hct
        have bx7 := bx6.same s7
        have e1 : (many : Int) + 1 - (0 + (i : Int)) = ((many + 1 - i : Nat) : Int) := by omega
        refine ⟨_, rfl, _, _, rfl, rfl, _, rfl, _, rfl, _, _, rfl, rfl, _, rfl, _, _, rfl, rfl, ?_⟩
        refine ⟨b, dl, many + 1 - i, by rw [← e1]; rfl, by omega, bx7, fun H9 r9 kb9 bx9 hr9 => ⟨_, _, rfl, rfl, small (m := 4) (Nat.le_refl 4), fun q hq => ?_⟩⟩
        have tx9 := kb9.tx bx7
        have hct7 : upd H6 ct (.tup cvs) ct = some (.tup cvs) := upd_same
        have hB9 := kb9 _ _ (s7 _ _ hB6) (Ne.symm nB.1)
        have sq : Same H9 (upd H9 q (.tup [.str "ask", qv, .ref ct, .int (0 + (i : Int) + 1 + (r9 : Int))])) := same_new hq
        have e2 : (0 + (i : Int) + 1 + (r9 : Int)) = ((i + 1 + r9 : Nat) : Int) := by omega
        have hnew : Dt K (upd H9 q (.tup [.str "ask", qv, .ref ct, .int (0 + (i : Int) + 1 + (r9 : Int))])) (.ref q) (dC (.ask a cs (i + 1 + r9))) := by
          refine Dt.four upd_same (.str _) (((hqv6.same s7).tx tx9).same sq) (((Dt.new hct7 (hcv6.same s7)).tx tx9).same sq) ?_
          rw [e2]
          exact .int _
        have rl : rs.length = crs.length := by rw [hrs6.length, List.length_map]
        refine ⟨B, rs, .ref q, rfl, rfl, sq _ _ hB9, smallt (m := 20) (by omega), ?_⟩
        have txb : TX (upd H9 q (.tup [.str "ask", qv, .ref ct, .int (0 + (i : Int) + 1 + (r9 : Int))])) (upd (upd H9 q (.tup [.str "ask", qv, .ref ct, .int (0 + (i : Int) + 1 + (r9 : Int))])) B (.lst (rs ++ [.ref q]))) := tx_upd (by rw [sq _ _ hB9]; rfl)
        have txa := ((tx_same s7).trans tx9).trans ((tx_same sq).trans txb)
        refine ⟨_, _, _, _, _, _, rs ++ [.ref q], crs ++ [.ask a cs (i + 1 + r9)], rfl, (((kb6.trans (bk_same s7)).trans kb9).trans (bk_same sq)).mut hB, (bx9.same sq).mut nB, upd_same, ?_, by rw [List.length_append, hcl]; rfl, ?_⟩
        · rw [List.map_append]
          exact DtAll.snoc (hrs6.tx txa) (hnew.tx txb)
        · exact goodC_snoc hgc (by rw [hcl]; exact ⟨iq, ga, by omega, hnd6, hgc6, by omega, by omega⟩)
    · rintro σ H2 ⟨v3, v4, v5, v6, v7, v8, rs, crs, rfl, kb2, bx2, hB2, hrs, hcl, hgc⟩
      have emn : ((many : Int)).toNat = many := rfl
      rw [emn] at hcl
      have rl : rs.length = crs.length := by rw [hrs.length, List.length_map]
      refine ⟨_, rfl, .inl ⟨rfl, _, .inl (.inl hB2)⟩, ?_⟩
      refine ⟨small (m := 1) (Nat.le_refl 1), fun pA hpA => ⟨small (m := 1) (Nat.le_refl 1), fun fA hfA => ⟨small (m := 2) (Nat.le_refl 2), fun lA hlA => ?_⟩⟩⟩
      have spA : Same H2 (upd H2 pA (.tup [.str "pass"])) := same_new hpA
      have sfA : Same (upd H2 pA (.tup [.str "pass"])) (upd (upd H2 pA (.tup [.str "pass"])) fA (.tup [.str "fail"])) := same_new hfA
      have slA : Same (upd (upd H2 pA (.tup [.str "pass"])) fA (.tup [.str "fail"])) (upd (upd (upd H2 pA (.tup [.str "pass"])) fA (.tup [.str "fail"])) lA (.lst [.ref pA, .ref fA])) := same_new hlA
      have ssA := (spA.trans sfA).trans slA
      have hp2A := slA _ _ (sfA _ _ (upd_same (H := H2) (a := pA) (o := .tup [.str "pass"])))
      have hf2A := slA _ _ (upd_same (H := upd H2 pA (.tup [.str "pass"])) (a := fA) (o := .tup [.str "fail"]))
      have hl2A : upd (upd (upd H2 pA (.tup [.str "pass"])) fA (.tup [.str "fail"])) lA (.lst [.ref pA, .ref fA]) lA = some (.lst [.ref pA, .ref fA]) := upd_same
      have nlA := (bx2.same (spA.trans sfA)).nb hlA
      generalize upd (upd (upd H2 pA (.tup [.str "pass"])) fA (.tup [.str "fail"])) lA (.lst [.ref pA, .ref fA]) = JA at ssA hp2A hf2A hl2A ⊢
      have bjA := bx2.same ssA
      refine ⟨_, rfl, b, dl, 2, rfl, by decide, bjA, fun MA rA kmA bmA hrA => ?_⟩
      have txmA := kmA.tx bjA
      obtain ⟨evA, ecA, hevA, hdvA, hieA⟩ : ∃ ev ec, ([.ref pA, .ref fA] : List V)[rA]? = some ev ∧ Dt K MA ev (dC ec) ∧ isEnd ec = true := by
        match rA, hrA with
        | 0, _ => exact ⟨_, .pass, rfl, Dt.one (txmA _ _ hp2A) (.str _), rfl⟩
        | 1, _ => exact ⟨_, .fail, rfl, Dt.one (txmA _ _ hf2A) (.str _), rfl⟩
      have hBmA := kmA _ _ (ssA _ _ hB2) (Ne.symm nB.1)
      refine ⟨lA, _, (rA : Int), evA, rfl, rfl, .inl (.inl (kmA _ _ hl2A (Ne.symm nlA.1))), atI_nat hevA, B, _, _, rfl, rfl, hBmA, smallt (m := 20) (by omega), ?_⟩
      have txbA : TX MA (upd MA B (.lst (rs ++ [evA]))) := tx_upd (by rw [hBmA]; rfl)
      have hrsA := DtAll.snoc ((hrs.tx ((tx_same ssA).trans txmA)).tx txbA) (hdvA.tx txbA)
      have kbzA := (kb2.trans ((bk_same ssA).trans kmA)).mut (o := .lst (rs ++ [evA])) hB
      have bxzA := bmA.mut (o := .lst (rs ++ [evA])) nB
      have hBzA : upd MA B (.lst (rs ++ [evA])) B = some (.lst (rs ++ [evA])) := upd_same
      generalize upd MA B (.lst (rs ++ [evA])) = ZA at txbA hrsA kbzA bxzA hBzA ⊢
      refine ⟨_, rfl, .inl ⟨rfl, _, .inl (.inl hBzA)⟩, ?_⟩
      refine ⟨small (m := 1) (Nat.le_refl 1), fun pB hpB => ⟨small (m := 1) (Nat.le_refl 1), fun fB hfB => ⟨small (m := 2) (Nat.le_refl 2), fun lB hlB => ?_⟩⟩⟩
      have spB : Same ZA (upd ZA pB (.tup [.str "pass"])) := same_new hpB
      have sfB : Same (upd ZA pB (.tup [.str "pass"])) (upd (upd ZA pB (.tup [.str "pass"])) fB (.tup [.str "fail"])) := same_new hfB
      have slB : Same (upd (upd ZA pB (.tup [.str "pass"])) fB (.tup [.str "fail"])) (upd (upd (upd ZA pB (.tup [.str "pass"])) fB (.tup [.str "fail"])) lB (.lst [.ref pB, .ref fB])) := same_new hlB
      have ssB := (spB.trans sfB).trans slB
      have hp2B := slB _ _ (sfB _ _ (upd_same (H := ZA) (a := pB) (o := .tup [.str "pass"])))
      have hf2B := slB _ _ (upd_same (H := upd ZA pB (.tup [.str "pass"])) (a := fB) (o := .tup [.str "fail"]))
      have hl2B : upd (upd (upd ZA pB (.tup [.str "pass"])) fB (.tup [.str "fail"])) lB (.lst [.ref pB, .ref fB]) lB = some (.lst [.ref pB, .ref fB]) := upd_same
      have nlB := (bxzA.same (spB.trans sfB)).nb hlB
      generalize upd (upd (upd ZA pB (.tup [.str "pass"])) fB (.tup [.str "fail"])) lB (.lst [.ref pB, .ref fB]) = JB at ssB hp2B hf2B hl2B ⊢
      have bjB := bxzA.same ssB
      refine ⟨_, rfl, b, dl, 2, rfl, by decide, bjB, fun MB rB kmB bmB hrB => ?_⟩
      have txmB := kmB.tx bjB
      obtain ⟨evB, ecB, hevB, hdvB, hieB⟩ : ∃ ev ec, ([.ref pB, .ref fB] : List V)[rB]? = some ev ∧ Dt K MB ev (dC ec) ∧ isEnd ec = true := by
        match rB, hrB with
        | 0, _ => exact ⟨_, .pass, rfl, Dt.one (txmB _ _ hp2B) (.str _), rfl⟩
        | 1, _ => exact ⟨_, .fail, rfl, Dt.one (txmB _ _ hf2B) (.str _), rfl⟩
      have hBmB := kmB _ _ (ssB _ _ hBzA) (Ne.symm nB.1)
      refine ⟨lB, _, (rB : Int), evB, rfl, rfl, .inl (.inl (kmB _ _ hl2B (Ne.symm nlB.1))), atI_nat hevB, B, _, _, rfl, rfl, hBmB, smallt (m := 20) (by rw [List.length_append]; show rs.length + 1 ≤ 20; omega), ?_⟩
      have txbB : TX MB (upd MB B (.lst ((rs ++ [evA]) ++ [evB]))) := tx_upd (by rw [hBmB]; rfl)
      have hrsB := DtAll.snoc ((hrsA.tx ((tx_same ssB).trans txmB)).tx txbB) (hdvB.tx txbB)
      have kbzB := (kbzA.trans ((bk_same ssB).trans kmB)).mut (o := .lst ((rs ++ [evA]) ++ [evB])) hB
      have bxzB := bmB.mut (o := .lst ((rs ++ [evA]) ++ [evB])) nB
      have hBzB : upd MB B (.lst ((rs ++ [evA]) ++ [evB])) B = some (.lst ((rs ++ [evA]) ++ [evB])) := upd_same
      generalize upd MB B (.lst ((rs ++ [evA]) ++ [evB])) = ZB at txbB hrsB kbzB bxzB hBzB ⊢
      refine ⟨_, rfl, B, _, rfl, .inl ⟨.inl (.inl hBzB), fun q hq => ?_⟩⟩
      have sZ : Same ZB (upd ZB q (.tup (rs ++ [evA] ++ [evB]))) := same_new hq
      have eall : (crs.map dC ++ [dC ecA]) ++ [dC ecB] = (crs ++ [ecA] ++ [ecB]).map dC := by
        rw [List.map_append, List.map_append]
        rfl
      rw [eall] at hrsB
      refine k _ (.ref q) (crs ++ [ecA] ++ [ecB]) (kbzB.trans (bk_same sZ)) (bxzB.same sZ) (Dt.new upd_same (hrsB.same sZ)) ?_
      have clen : (crs ++ [ecA] ++ [ecB]).length = many + 2 := by
        rw [List.length_append, List.length_append, hcl]
        rfl
      refine ⟨by omega, by omega, ⟨ecB, ?_, hieB⟩, ?_⟩
      · rw [clen, List.getElem?_append_right (by rw [List.length_append, hcl]; show many + 1 ≤ _; omega)]
        have e0 : many + 2 - 1 - (crs ++ [ecA]).length = 0 := by
          rw [List.length_append, hcl]
          show many + 2 - 1 - (many + 1) = 0
          omega
        rw [e0]
        rfl
      · rw [clen]
        exact goodC_snoc (goodC_snoc hgc (goodC_end hieA)) (goodC_end hieB)
end
end Sa
/-! text H13 -/
/-! the law: what is told -/
namespace Sa
open PySem PySem.Spec L2 PyProof.Rows
/-- what the law and the trunk may change -/
def XL (n : Nat) : Bool := decide (n = 20 ∨ n = 21 ∨ 50 ≤ n)
theorem xl0 : XL 0 = false := by decide
theorem xl_50 {n : Nat} (h : XL n = false) : X50 n = false := decide_eq_false fun z => by
  have := of_decide_eq_false h
  omega
section
variable {K : PySem.W.Frag} {mg : Str → Option Value} {D : List Addr} {ro : Addr → Nat} {X : Nat → Bool} {H H' : Hp} {A : Ad} {S S' : Sta}
def TvAt (K : PySem.W.Frag) (ro : Addr → Nat) (H : Hp) (v : V) (j : Jr) : Prop := ∃ a es, v = .ref a ∧ ro a = 0 ∧ H a = some (.lst es) ∧ DtAll K H es (j.map dE)
structure ToldAt (K : PySem.W.Frag) (ro : Addr → Nat) (H : Hp) (tks : List (Key × V)) (S : Sta) : Prop where
  nd : (tks.map (·.1)).Nodup
  t1 : ∀ (k : Key) (v : V), valV tks k = some v → ∃ (i : Nat) (s : Ses), k = Sum.inl (i : Int) ∧ S.ses[i]? = some s ∧ s.op = 0 ∧ TvAt K ro H v s.j
  t2 : ∀ (i : Nat) (s : Ses), S.ses[i]? = some s → s.op = 0 → ∃ v, valV tks (Sum.inl (i : Int)) = some v
def SesSame (S S' : Sta) (n : Nat) : Prop := ∀ i, i ≠ n → (S'.ses[i]?).map (fun s => (s.op, s.j)) = (S.ses[i]?).map (fun s => (s.op, s.j))
theorem SesSame.fw {n i : Nat} {s : Ses} (h : SesSame S S' n) (hi : i ≠ n) (e : S.ses[i]? = some s) : ∃ s', S'.ses[i]? = some s' ∧ s'.op = s.op ∧ s'.j = s.j := by
  have q := h i hi
  rw [e] at q
  obtain ⟨s', h1, h2⟩ := Option.map_eq_some_iff.mp q
  have h3 := Prod.mk.inj h2
  exact ⟨s', h1, h3.1, h3.2⟩
theorem SesSame.bw {n i : Nat} {s' : Ses} (h : SesSame S S' n) (hi : i ≠ n) (e : S'.ses[i]? = some s') : ∃ s, S.ses[i]? = some s ∧ s'.op = s.op ∧ s'.j = s.j := by
  have q := h i hi
  rw [e] at q
  obtain ⟨s, h1, h2⟩ := Option.map_eq_some_iff.mp q.symm
  have h3 := Prod.mk.inj h2
  exact ⟨s, h1, h3.1.symm, h3.2.symm⟩
theorem TvAt.mv {v : V} {j : Jr} (g : Go K D ro X H H') (x : X 0 = false) (h : TvAt K ro H v j) : TvAt K ro H' v j := by
  obtain ⟨a, es, e, h0, h1, h2⟩ := h
  exact ⟨a, es, e, h0, g.kp _ _ h1 (by rw [h0]; exact x), h2.tx g.ev.t⟩
theorem ToldAt.mv {tks : List (Key × V)} (g : Go K D ro X H H') (x : X 0 = false) (h : ToldAt K ro H tks S) (e : S'.ses = S.ses) : ToldAt K ro H' tks S' := by
  refine ⟨h.nd, fun k v hk => ?_, fun i s hi ho => h.t2 i s (by rw [← e]; exact hi) ho⟩
  obtain ⟨i, s, h1, h2, h3, h4⟩ := h.t1 k v hk
  exact ⟨i, s, h1, by rw [e]; exact h2, h3, h4.mv g x⟩
/-- session n's list is told anew -/
theorem ToldAt.put {tks : List (Key × V)} {n : Nat} {s' : Ses} {v : V} (h : ToldAt K ro H tks S) (e : SesSame S S' n) (hn : S'.ses[n]? = some s') (ho : s'.op = 0) (hv : TvAt K ro H v s'.j) : ToldAt K ro H (putK tks (Sum.inl (n : Int)) v) S' := by
  refine ⟨?_, fun k x hk => ?_, fun i s hi hop => ?_⟩
  · rw [keys_putK]
    split
    · exact h.nd
    · rename_i hnn
      refine List.nodup_append.mpr ⟨h.nd, by simp, fun a ha b hb => ?_⟩
      rw [List.mem_singleton.mp hb]
      rintro rfl
      obtain ⟨⟨k, x⟩, hm, e⟩ := List.mem_map.mp ha
      have e' : k = Sum.inl (n : Int) := e
      rw [e'] at hm
      rw [valV_of_mem h.nd hm] at hnn
      exact hnn rfl
  · rw [valV_put] at hk
    split at hk
    · rename_i ek
      cases hk
      exact ⟨n, s', ek, hn, ho, hv⟩
    · rename_i ek
      obtain ⟨i, s, h1, h2, h3, h4⟩ := h.t1 k x hk
      have hin : i ≠ n := fun z => ek (by rw [h1, z])
      obtain ⟨s2, g1, g2, g3⟩ := e.fw hin h2
      exact ⟨i, s2, h1, g1, g2.trans h3, by rw [g3]; exact h4⟩
  · rw [valV_put]
    by_cases hin : i = n
    · rw [if_pos (by rw [hin])]
      exact ⟨v, rfl⟩
    · rw [if_neg (fun z => hin (by have := Sum.inl.inj z; omega))]
      obtain ⟨s2, g1, g2, g3⟩ := e.bw hin hi
      exact h.t2 i s2 g1 (g2.symm.trans hop)
/-- session n is told no more -/
theorem ToldAt.pop {tks : List (Key × V)} {n : Nat} {s' : Ses} (h : ToldAt K ro H tks S) (e : SesSame S S' n) (hn : S'.ses[n]? = some s') (ho : s'.op ≠ 0) : ToldAt K ro H (dropK tks (Sum.inl (n : Int))) S' := by
  refine ⟨nd_dropK h.nd, fun k x hk => ?_, fun i s hi hop => ?_⟩
  · rw [valV_drop h.nd] at hk
    split at hk
    · cases hk
    · rename_i ek
      obtain ⟨i, s, h1, h2, h3, h4⟩ := h.t1 k x hk
      have hin : i ≠ n := fun z => ek (by rw [h1, z])
      obtain ⟨s2, g1, g2, g3⟩ := e.fw hin h2
      exact ⟨i, s2, h1, g1, g2.trans h3, by rw [g3]; exact h4⟩
  · by_cases hin : i = n
    · rw [hin, hn] at hi
      cases hi
      exact absurd hop ho
    · rw [valV_drop h.nd, if_neg (fun z => hin (by have := Sum.inl.inj z; omega))]
      obtain ⟨s2, g1, g2, g3⟩ := e.bw hin hi
      exact h.t2 i s2 g1 (g2.symm.trans hop)
theorem ToldAt.at {tks : List (Key × V)} {n : Nat} {s : Ses} (h : ToldAt K ro H tks S) (hn : S.ses[n]? = some s) (ho : s.op = 0) : ∃ a es, valV tks (Sum.inl (n : Int)) = some (.ref a) ∧ ro a = 0 ∧ H a = some (.lst es) ∧ DtAll K H es (s.j.map dE) ∧ es.length = s.j.length := by
  obtain ⟨v, hv⟩ := h.t2 n s hn ho
  obtain ⟨i, s2, e1, e2, e3, a, es, e4, e5, e6, e7⟩ := h.t1 _ _ hv
  have : i = n := by have := Sum.inl.inj e1; omega
  subst this
  rw [hn] at e2
  cases e2
  rw [e4] at hv
  exact ⟨a, es, hv, e5, e6, e7, by rw [e7.length, List.length_map]⟩
theorem nodup_sub {α : Type} [DecidableEq α] : ∀ {l m : List α}, l.Nodup → (∀ x ∈ l, x ∈ m) → l.length ≤ m.length
  | [], _, _, _ => Nat.zero_le _
  | a :: l, m, nd, h => by
    obtain ⟨h1, h2⟩ := List.nodup_cons.mp nd
    have ha := h a List.mem_cons_self
    have ih := nodup_sub (l := l) (m := m.erase a) h2 fun x hx => (List.mem_erase_of_ne (fun z => h1 (by rw [← z]; exact hx))).mpr (h x (List.mem_cons_of_mem _ hx))
    rw [List.length_erase_of_mem ha] at ih
    have := List.length_pos_of_mem ha
    rw [List.length_cons]
    omega
theorem ToldAt.len {tks : List (Key × V)} (h : ToldAt K ro H tks S) : tks.length ≤ S.ses.length := by
  have h1 := nodup_sub (m := (List.range S.ses.length).map fun i : Nat => (Sum.inl (i : Int) : Key)) h.nd fun k hk => by
    obtain ⟨⟨k', v⟩, hm, e⟩ := List.mem_map.mp hk
    have e' : k' = k := e
    subst e'
    obtain ⟨i, s, e1, e2, _⟩ := h.t1 _ _ (valV_of_mem h.nd hm)
    exact List.mem_map.mpr ⟨i, List.mem_range.mpr (List.getElem?_eq_some_iff.mp e2).1, e1.symm⟩
  rw [List.length_map, List.length_map, List.length_range] at h1
  exact h1
def opIdx : Nat → List Ses → List Nat
  | _, [] => []
  | k, s :: l => if s.op = 0 then k :: opIdx (k + 1) l else opIdx (k + 1) l
theorem opIdx_len : ∀ (l : List Ses) (k : Nat), (opIdx k l).length = l.countP fun s => decide (s.op = 0)
  | [], _ => rfl
  | s :: l, k => by
    have ih := opIdx_len l (k + 1)
    unfold opIdx
    by_cases h : s.op = 0
    · rw [if_pos h, List.length_cons, ih, List.countP_cons]
      simp [h]
    · rw [if_neg h, ih, List.countP_cons]
      simp [h]
theorem opIdx_mem : ∀ (l : List Ses) (k i : Nat), i ∈ opIdx k l → k ≤ i ∧ ∃ s, l[i - k]? = some s ∧ s.op = 0
  | [], _, _, h => absurd h (by simp [opIdx])
  | s :: l, k, i, h => by
    have step : i ∈ opIdx (k + 1) l → k ≤ i ∧ ∃ s', (s :: l)[i - k]? = some s' ∧ s'.op = 0 := fun h => by
      obtain ⟨h1, s', h2, h3⟩ := opIdx_mem l (k + 1) i h
      refine ⟨by omega, s', ?_, h3⟩
      rw [show i - k = (i - (k + 1)) + 1 by omega, List.getElem?_cons_succ]
      exact h2
    unfold opIdx at h
    by_cases h0 : s.op = 0
    · rw [if_pos h0] at h
      rcases List.mem_cons.mp h with e | h
      · rw [e, Nat.sub_self]
        exact ⟨Nat.le_refl _, s, rfl, h0⟩
      · exact step h
    · rw [if_neg h0] at h
      exact step h
theorem opIdx_nd : ∀ (l : List Ses) (k : Nat), (opIdx k l).Nodup
  | [], _ => List.nodup_nil
  | s :: l, k => by
    have ih := opIdx_nd l (k + 1)
    unfold opIdx
    split
    · refine List.nodup_cons.mpr ⟨fun h => ?_, ih⟩
      have := (opIdx_mem l (k + 1) k h).1
      omega
    · exact ih
/-- open sessions are told -/
theorem ToldAt.opens {tks : List (Key × V)} (h : ToldAt K ro H tks S) : openN S ≤ tks.length := by
  have e1 : openN S = (opIdx 0 S.ses).length := (opIdx_len S.ses 0).symm
  rw [e1]
  have hnd : ((opIdx 0 S.ses).map fun i : Nat => (Sum.inl (i : Int) : Key)).Nodup := by
    refine List.pairwise_map.mpr ((opIdx_nd S.ses 0).imp fun hne z => hne ?_)
    have := Sum.inl.inj z
    omega
  have h1 := nodup_sub (m := tks.map (·.1)) hnd fun k hk => by
    obtain ⟨i, hi, rfl⟩ := List.mem_map.mp hk
    obtain ⟨_, s, hs, h0⟩ := opIdx_mem S.ses 0 i hi
    rw [Nat.sub_zero] at hs
    obtain ⟨v, hv⟩ := h.t2 i s hs h0
    exact valV_in hv
  rw [List.length_map, List.length_map] at h1
  exact h1
/-- the law's world -/
structure LW (K : PySem.W.Frag) (D : List Addr) (ro : Addr → Nat) (H : Hp) (A : Ad) (S : Sta) (b dl td : Addr) : Prop where
  tw : TW K D ro H A S
  inv : InvS S
  box : BoxAt H b dl
  rb : ro b = 20
  rd : ro dl = 0
  rt : ro td = 21
  tdD : td ∈ D
  told : ∃ tks, H td = some (.dK tks) ∧ ToldAt K ro H tks S
  sm : S.ses.length ≤ 60
theorem LW.ne {b dl td : Addr} (w : LW K D ro H A S b dl td) : td ≠ b := ne_ro w.rt w.rb (by decide)
theorem go_box {b dl dl' : Addr} (hb : ro b = 20) (bx : BoxAt H b dl) (k : BK b H H') (bx' : BoxAt H' b dl') : Go K D ro (fun n => decide (n = 20)) H H' := by
  obtain ⟨m, ns, h1, _⟩ := bx
  obtain ⟨m', ns', h1', _⟩ := bx'
  refine ⟨fun a o e n => k a o e fun z => ?_, fun a o e => ?_, ⟨fun a xs e => k a _ e fun z => ?_, fun a dx fs e => k a _ e fun z => ?_, fun a kvs _ e => k a _ e fun z => ?_⟩⟩
  · rw [z, hb] at n
    cases n
  · by_cases z : a = b
    · rw [z]
      exact ⟨_, h1'⟩
    · exact ⟨o, k a o e z⟩
  · rw [z, h1] at e
    cases e
  · rw [z, h1] at e
    cases e
  · rw [z, h1] at e
    cases e
/-- a draw -/
theorem LW.draw {b dl td : Addr} (w : LW K D ro H A S b dl td) (k : BK b H H') (bx : BoxAt H' b dl) : LW K D ro H' A S b dl td ∧ Go K D ro XL H H' := by
  have g : Go K D ro (fun n => decide (n = 20)) H H' := go_box w.rb w.box k bx
  obtain ⟨tks, h1, h2⟩ := w.told
  refine ⟨⟨w.tw.mv g rfl fun n hn => decide_eq_false (by omega), w.inv, bx, w.rb, w.rd, w.rt, w.tdD, ⟨tks, k _ _ h1 w.ne, h2.mv g rfl rfl⟩, w.sm⟩, g.mono fun n hn => decide_eq_false fun z => ?_⟩
  have := of_decide_eq_false hn
  omega
theorem LW.same {b dl td : Addr} (w : LW K D ro H A S b dl td) (s : Same H H') : LW K D ro H' A S b dl td ∧ Go K D ro XL H H' := w.draw (bk_same s) (w.box.same s)
theorem go_xl (g : Go K D ro X50 H H') : Go K D ro XL H H' := g.mono fun _ h => xl_50 h
/-- the trunk goes on; the box and what is told stay -/
theorem LW.trunk {b dl td : Addr} (w : LW K D ro H A S b dl td) (g : Go K D ro X50 H H') : BoxAt H' b dl ∧ (∀ tks, H td = some (.dK tks) → H' td = some (.dK tks)) := by
  obtain ⟨m, ns, h1, h2, h3, h4⟩ := w.box
  exact ⟨⟨m, ns, g.kp _ _ h1 (by rw [w.rb]; rfl), h2, g.kp _ _ h3 (by rw [w.rd]; rfl), h4⟩, fun tks e => g.kp _ _ e (by rw [w.rt]; rfl)⟩
/-- the dict of what is told is written -/
theorem go_told {b dl td : Addr} {tks : List (Key × V)} {o : HO} (w : LW K D ro H A S b dl td) (h : H td = some (.dK tks)) : Go K D ro (fun n => decide (n = 21)) H (upd H td o) := go_upd (by rw [w.rt]; rfl) (by rw [h]; exact decide_eq_true w.tdD)
end
end Sa
/-! text H14 -/
/-! the law: acts -/
namespace Sa
open PySem PySem.Spec L2 PyProof.Rows
theorem same_set {S : Sta} {n : Nat} {q : Ses} : SesSame S { S with ses := S.ses.set n q } n := fun i hi => by
  show ((S.ses.set n q)[i]?).map _ = _
  rw [List.getElem?_set_ne (Ne.symm hi)]
section
variable {P : Program} {w : World} {K : PySem.W.Frag} {mg : Str → Option Value} {base : Heap}
def spActed (K : PySem.W.Frag) : Sp := fun vs H Q _ => ∃ (D : List Addr) (ro : Addr → Nat) (A : Ad) (S : Sta) (b dl td : Addr) (n : Nat) (s : Ses), vs = [.ref b, .ref A.t, .int (n : Int), .ref td] ∧ LW K D ro H A S b dl td ∧ S.ses[n]? = some s ∧ s.op = 0 ∧
  ∀ H' S' s', Go K D ro XL H H' → LW K D ro H' A S' b dl td → S'.trees = S.trees → S'.ents = S.ents → S'.ses.length = S.ses.length → S'.ses[n]? = some s' → s'.op = 0 → Q .non H'
theorem sc_law_acted : FnScope ["_law_box", "_law_trunk", "_law_session", "_law_told_here", "_law_turn", "_law_action_here"] ["_law_box", "_law_trunk", "_law_session", "_law_told_here"] (defScope s_law_acted) := ⟨rfl, rfl, rfl, by decide +kernel, rfl, by decide +kernel, by decide +kernel⟩
theorem cal_law_acted (T : Tx K mg) : Cal P w K mg base 13 "_law_acted" (spActed K) := by
  refine T.cal 89 51 (f_at (x := "_law_acted") rfl) (g_at rfl) (N := ["_law_box", "_law_trunk", "_law_session", "_law_told_here", "_law_turn", "_law_action_here"]) (ps := ["_law_box", "_law_trunk", "_law_session", "_law_told_here"]) (fun _ _ _ _ _ _ us hl => match us, hl with | [_, _, _, _], _ => rfl) sc_law_acted (fun vs H Q E h => ?_) (fun f cdv A0 outer s0 H vs Q E hr h => ?_)
  · obtain ⟨D, ro, A, S, b, dl, td, n, s, rfl, _⟩ := h
    rfl
  · obtain ⟨D, ro, A, S, b, dl, td, n, s, rfl, w0, hn, ho, k⟩ := h
    refine ⟨_, pss_one (ps_for PassesOwn.never rfl (pi_range1 rfl (T.free 92) (pa_cons (pe_c (cal_law_draw T) hr (by decide) rfl (pa_cons (pv 0) (pa_cons (pe_int) pa_nil))) pa_nil)) (pg_name (i := 4) sc_law_acted.nd rfl (by first | exact Or.inl rfl | exact Or.inr rfl)) (pss_one (ps_if (pt_cmpR op_lt (pe_callB call_len_seq (by rfl) (T.free 85) bv_len (pa_cons (pe_dget (u1 hr) (pv 3) (pv 2) (fun _ _ => rfl)) pa_nil)) (pe_int) (nomark _)) (pss_cons (ps_set (i := 5) sc_law_acted.nd rfl (by first | exact Or.inl rfl | exact Or.inr rfl) (pe_c (cal_law_action T) hr (by decide) rfl (pa_cons (pv 0) pa_nil))) (pss_one (ps_dput (u1 hr) (pv 3) (pv 2) (pe_op op_cat (pe_dget (u1 hr) (pv 3) (pv 2) (fun _ _ => rfl)) (pe_lst (pa_cons (pe_tup (pa_cons (pv 5) (pa_cons (pe_mt (met_Trunk_act T) hr (by decide) (pv 1) (pa_cons (pv 2) (pa_cons (pe_callB call_len_seq (by rfl) (T.free 85) bv_len (pa_cons (pe_dget (u1 hr) (pv 3) (pv 2) (fun _ _ => rfl)) pa_nil)) (pa_cons (pv 5) pa_nil)))) pa_nil))) pa_nil))) rfl))) (pss_nil)))), ?_⟩
    refine ⟨_, rfl, b, dl, 4, rfl, by decide, w0.box, fun H1 r kb1 bx1 hr4 => ?_⟩
    obtain ⟨w1, g1⟩ := w0.draw kb1 bx1
    refine ⟨(r : Int), rfl, by omega, by omega, for_range (fun i σ H' => ∃ v4 v5 S' s', σ = [some (.ref b), some (.ref A.t), some (.int (n : Int)), some (.ref td), v4, v5] ∧ Go K D ro XL H H' ∧ LW K D ro H' A S' b dl td ∧ S'.trees = S.trees ∧ S'.ents = S.ents ∧ S'.ses.length = S.ses.length ∧ S'.ses[n]? = some s' ∧ s'.op = 0) ⟨_, _, S, s, rfl, g1, w1, rfl, rfl, rfl, hn, ho⟩ ?_ ?_⟩
    · rintro i σ H2 hi ⟨v4, v5, S', s', rfl, g2, w2, t1, t2, t3, hn', ho'⟩
      obtain ⟨tks, htd, htold⟩ := w2.told
      obtain ⟨a, es, hv, ra, hes, hed, hel⟩ := htold.at hn' ho'
      have dg : ∀ {H' : Hp}, H' td = some (.dK tks) → DGet H' td (.int (n : Int)) (some (.ref a)) := fun h => by
        have q := DGet.k (k := Sum.inl (n : Int)) h
        rw [hv] at q
        exact q
      refine ⟨_, rfl, _, rfl, td, .ref a, rfl, dg htd, a, es, rfl, .inl (.inl (.inl hes)), _, _, rfl, rfl, _, rfl, ?_⟩
      by_cases h40 : es.length < 40
      · refine iteP (by omega) ?_
        refine ⟨_, rfl, b, dl, rfl, w2.box, fun H3 x ac kb3 bx3 hx ga => ?_⟩
        obtain ⟨w3, g3⟩ := w2.draw kb3 bx3
        have htd3 : H3 td = some (.dK tks) := kb3 _ _ htd w2.ne
        have nab : a ≠ b := fun z => by
          have := w2.rb
          rw [← z, ra] at this
          cases this
        have hes3 := kb3 _ _ hes nab
        have hed3 := hed.tx (kb3.tx w2.box)
        obtain ⟨pp, al, rn, htk3⟩ := id w3.tw.tk
        obtain ⟨gj, F, hF, hh⟩ := w3.inv.se n s' hn'
        have gF := w3.inv.tr F (List.mem_of_getElem? hF)
        refine ⟨_, rfl, _, rfl, td, .ref a, rfl, dg htd3, _, rfl, _, rfl, A.t, A.dt, _, rfl, htk3, rfl, _, rfl, _, rfl, _, rfl, td, .ref a, rfl, dg htd3, a, es, rfl, .inl (.inl (.inl hes3)), _, rfl, D, ro, A, S', n, s', F, x, ac, by rw [hel]; rfl, w3.tw, hn', ho', by omega, hF, gF, gj, hx, ga, fun H4 y g4 W4 hy4 => ?_⟩
        obtain ⟨bx4, hk4⟩ := w3.trunk g4
        have htd4 := hk4 _ htd3
        have hes4 := g4.kp _ _ hes3 (by rw [ra]; rfl)
        have iA := w3.inv.acted hn' hF ga (by omega : s'.j.length < 40)
        generalize hR : actF (leadF F (s'.j.map (·.1))) ac = o at W4 hy4 iA
        refine ⟨small (m := 2) (Nat.le_refl 2), fun q hq => ⟨small (m := 1) (Nat.le_refl 1), fun z hz => ⟨a, z, es, _, rfl, rfl, ?_, upd_same, small (m := 60) (by show es.length + 1 ≤ 60; omega), fun p hp => ?_⟩⟩⟩
        · rw [upd_ne (ne_of_none ((same_new (o := .tup [x, y]) hq) _ _ hes4) hz)]
          exact (same_new hq) _ _ hes4
        have s5 : Same H4 (upd H4 q (.tup [x, y])) := same_new hq
        have s6 : Same (upd H4 q (.tup [x, y])) (upd (upd H4 q (.tup [x, y])) z (.lst [.ref q])) := same_new hz
        have s7 : Same (upd (upd H4 q (.tup [x, y])) z (.lst [.ref q])) (upd (upd (upd H4 q (.tup [x, y])) z (.lst [.ref q])) p (.lst (es ++ [.ref q]))) := same_new hp
        have s47 := (s5.trans s6).trans s7
        have rp : ro p = 0 := ro_new (W4.same (s5.trans s6)) hp
        have hent : Dt K (upd (upd (upd H4 q (.tup [x, y])) z (.lst [.ref q])) p (.lst (es ++ [.ref q]))) (.ref q) (dE (ac, o.1)) := (Dt.two upd_same (((hx.tx g4.ev.t)).same s5) (hy4.same s5)).same (s6.trans s7)
        have hp7 : upd (upd (upd H4 q (.tup [x, y])) z (.lst [.ref q])) p (.lst (es ++ [.ref q])) p = some (.lst (es ++ [.ref q])) := upd_same
        generalize upd (upd (upd H4 q (.tup [x, y])) z (.lst [.ref q])) p (.lst (es ++ [.ref q])) = H7 at s47 hent hp7 s7 ⊢
        have htd7 := s47 _ _ htd4
        have W7 := W4.same s47
        have g47 : Go K D ro X50 H4 H7 := go_same s47
        have g37 := g4.trans g47
        have hlt := (List.getElem?_eq_some_iff.mp hn').1
        have hn7 : (actedS S' n s' ac o.1).ses[n]? = some ⟨s'.base, s'.j ++ [(ac, o.1)], 0⟩ := List.getElem?_set_self hlt
        have htold3 := htold.mv (S' := S') (go_box (D := D) w2.rb w2.box kb3 bx3) rfl rfl
        have htold7 := htold3.mv (S' := S') g37 rfl rfl
        have hTv : TvAt K ro H7 (.ref p) (s'.j ++ [(ac, o.1)]) := by
          refine ⟨p, _, rfl, rp, hp7, ?_⟩
          rw [List.map_append]
          exact DtAll.snoc (hed3.tx g37.ev.t) hent
        have hput := htold7.put (S' := actedS S' n s' ac o.1) (n := n) (v := .ref p) same_set hn7 rfl hTv
        have w7 : LW K D ro H7 A (actedS S' n s' ac o.1) b dl td → True := fun _ => trivial
        have bx7 := bx4.same s47
        have gt : Go K D ro (fun m => decide (m = 21)) H7 (upd H7 td (.dK (putK tks (Sum.inl (n : Int)) (.ref p)))) := go_upd (by rw [w2.rt]; rfl) (by rw [htd7]; exact decide_eq_true w2.tdD)
        obtain ⟨ndt, ndl⟩ : b ≠ td ∧ dl ≠ td := ⟨Ne.symm w2.ne, ne_ro w2.rd w2.rt (by decide)⟩
        have tkl : tks.length ≤ 200 ∨ True := .inr trivial
        refine ⟨_, rfl, _, rfl, td, _, rfl, DPut.k (k := Sum.inl (n : Int)) htd7 (smallt (m := 200) (by have := htold.len; have := w2.sm; omega)), ?_⟩
        refine ⟨_, _, actedS S' n s' ac o.1, ⟨s'.base, s'.j ++ [(ac, o.1)], 0⟩, rfl, ((g2.trans g3).trans (go_xl g37)).trans (gt.mono fun m hm => decide_eq_false fun z => ?_), ⟨W7.mv gt rfl fun m hm => decide_eq_false (by omega), iA, bx7.mut ⟨ndt, ndl⟩, w2.rb, w2.rd, w2.rt, w2.tdD, ⟨_, upd_same, hput.mv gt rfl rfl⟩, by show (S'.ses.set n _).length ≤ 60; rw [List.length_set]; exact w2.sm⟩, t1, t2, ?_, hn7, rfl⟩
        · have := of_decide_eq_false hm
          omega
        · show (S'.ses.set n _).length = S.ses.length
          rw [List.length_set]
          exact t3
      · exact iteN (by omega) ⟨_, _, S', s', rfl, g2, w2, t1, t2, t3, hn', ho'⟩
    · rintro σ H2 ⟨v4, v5, S', s', rfl, g2, w2, t1, t2, t3, hn', ho'⟩
      exact k H2 S' s' g2 w2 t1 t2 t3 hn' ho'
end
end Sa
/-! text H15 -/
/-! the law: a result -/
namespace Sa
open PySem PySem.Spec L2 PyProof.Rows
section
variable {P : Program} {w : World} {K : PySem.W.Frag} {mg : Str → Option Value} {base : Heap}
def spResult (K : PySem.W.Frag) : Sp := fun vs H Q _ => ∃ (D : List Addr) (ro : Addr → Nat) (A : Ad) (S' : Sta) (td ra bf a : Addr) (n nv B : Nat) (s : Ses) (p : Bool) (tks : List (Key × V)) (es : List V), vs = [.ref A.t, .int (n : Int), .ref td, .ref ra, .ref bf] ∧
  TW K D ro H A S' ∧ H td = some (.dK tks) ∧ tks.length ≤ 100 ∧ valV tks (Sum.inl (n : Int)) = some (.ref a) ∧ H a = some (.lst es) ∧ DtAll K H es (s.j.map dE) ∧ GoodJ s.j ∧ H bf = some (.lst [.int (nv : Int), .int (B : Int), .bl p]) ∧ ro td = 21 ∧ td ∈ D ∧
  ((H ra = some (.tup [.str "accepted", .int ((nv + 1 : Nat) : Int)]) ∧ S'.trees.length = nv + 2 ∧ S'.trees.length = S'.ents.length + 1 ∧ S'.ents[nv]? = some s.j ∧ (∃ s', S'.ses[n]? = some s' ∧ s'.op = 2) ∧ ∀ H', Same H H' → Q (.bl true) H') ∨
   (∃ (k m : Nat) (r : Ans) (y : V) (e : Act × Ans), H ra = some (.tup [.str "refused", .int (k : Int), y, .int (m : Int)]) ∧ S'.trees.length = nv + 1 ∧ p = false ∧ B < m ∧ m ≤ nv ∧ s.j[k]? = some e ∧ e.2 ≠ r ∧ Dt K H y (dR r) ∧ GoodR r ∧ S'.ses[n]? = some ⟨nv, s.j.take k, 0⟩ ∧
      ∀ H1 a' H2, Same H H1 → H a' = none → H1 a' = some (.lst (es.take k)) → Same (upd H1 td (.dK (putK tks (Sum.inl (n : Int)) (.ref a')))) H2 → Q (.bl true) H2) ∨
   (∃ (wd : Str) (xr : List V), H ra = some (.tup (.str wd :: xr)) ∧ (wd = "waiting" ∧ p = false ∨ wd = "failed") ∧ S'.trees.length = nv + 1 ∧ (∃ s', S'.ses[n]? = some s' ∧ s'.j = s.j ∧ s'.base = B) ∧ ∀ H', Same H H' → Q (.bl true) H'))
theorem sc_law_result : FnScope ["_law_trunk", "_law_session", "_law_told_here", "_law_result_here", "_law_before", "_law_newest"] ["_law_trunk", "_law_session", "_law_told_here", "_law_result_here", "_law_before"] (defScope s_law_result) := ⟨rfl, rfl, rfl, by decide +kernel, rfl, by decide +kernel, by decide +kernel⟩
theorem cal_law_result (T : Tx K mg) : CalG P w K mg base 3 "_law_result" (spResult K) := by
  refine T.calG 90 52 (f_at (x := "_law_result") rfl) (g_at rfl) (N := ["_law_trunk", "_law_session", "_law_told_here", "_law_result_here", "_law_before", "_law_newest"]) (ps := ["_law_trunk", "_law_session", "_law_told_here", "_law_result_here", "_law_before"]) (fun _ _ _ _ _ _ us hl => match us, hl with | [_, _, _, _, _], _ => rfl) sc_law_result (fun vs H Q E h => ?_) (fun f cdv A0 outer s0 H vs Q E hgu hr h => ?_)
  · obtain ⟨D, ro, A, S', td, ra, bf, a, n, nv, B, s, p, tks, es, rfl, _⟩ := h
    rfl
  · obtain ⟨D, ro, A, S', td, ra, bf, a, n, nv, B, s, p, tks, es, rfl, W, htd, htl, hv, hes, hed, gj, hbf, rt, tdD, hc⟩ := h
    obtain ⟨pp, al, rn, htk⟩ := id W.tk
    have hel : es.length = s.j.length := by rw [hed.length, List.length_map]
    have dg : ∀ {H' : Hp}, H' td = some (.dK tks) → DGet H' td (.int (n : Int)) (some (.ref a)) := fun h => by
      have q := DGet.k (k := Sum.inl (n : Int)) h
      rw [hv] at q
      exact q
    refine ⟨_, pss_cons (ps_set (i := 5) sc_law_result.nd rfl (by first | exact Or.inl rfl | exact Or.inr rfl) (pe_mt0 (met_Trunk_version T) hr (by decide) (pv 0))) (pss_cons (ps_if (pt_cmpR op_eq (pe_ix ix_tup (pv 3) (pe_int) (fun _ _ => rfl)) (pe_str) (nomark _)) (pss_cons (ps_if (PW.pt (pw_or (pt_cmpR op_ne (pe_ix ix_tup (pv 3) (pe_int) (fun _ _ => rfl)) (pe_op op_add (pe_ix ix_list (pv 4) (pe_int) (fun _ _ => rfl)) (pe_int)) (nomark _)) (pw_or (pt_cmpR op_ne (pv 5) (pe_op op_add (pe_ix ix_list (pv 4) (pe_int) (fun _ _ => rfl)) (pe_int)) (nomark _)) (pw_or1 (pt_not (pt_val (pe_cG (cal_law_alike T) hgu hr (by decide) rfl (pa_cons (pe_ix ix_tup (pe_mt (met_Trunk_entry T) hr (by decide) (pv 0) (pa_cons (pv 5) pa_nil)) (pe_int) (fun _ _ => rfl)) (pa_cons (pe_callTy call_tuple_of (by rfl) (T.free 89) bv_tuple (pa_cons (pe_dget (u1 hr) (pv 2) (pv 1) (fun _ _ => rfl)) pa_nil)) pa_nil))))))))) (pss_one (ps_ret (pe_bl))) (pss_nil)) (pss_one (ps_ret (pe_cmpR op_eq (pe_mt (met_Trunk_state T) hr (by decide) (pv 0) (pa_cons (pv 1) pa_nil)) (pe_str) (nomark _))))) (pss_nil)) (pss_cons (ps_if (PW.pt (pw_or (pt_cmpR op_ne (pv 5) (pe_ix ix_list (pv 4) (pe_int) (fun _ _ => rfl)) (nomark _)) (pw_or1 (PW.pt (pw_and (pt_val (pe_ix ix_list (pv 4) (pe_int) (fun _ _ => rfl))) (pw_and1 (pt_cmpR op_ne (pe_ix ix_tup (pv 3) (pe_int) (fun _ _ => rfl)) (pe_str) (nomark _)))))))) (pss_one (ps_ret (pe_bl))) (pss_nil)) (pss_cons (ps_if (pt_cmpR op_ne (pe_ix ix_tup (pv 3) (pe_int) (fun _ _ => rfl)) (pe_str) (nomark _)) (pss_one (ps_ret (pe_and (pe_cG (cal_law_alike T) hgu hr (by decide) rfl (pa_cons (pe_mt (met_Trunk_journal T) hr (by decide) (pv 0) (pa_cons (pv 1) pa_nil)) (pa_cons (pe_callTy call_tuple_of (by rfl) (T.free 89) bv_tuple (pa_cons (pe_dget (u1 hr) (pv 2) (pv 1) (fun _ _ => rfl)) pa_nil)) pa_nil))) (pe_one (pe_cmpR op_eq (pe_mt (met_Trunk_base T) hr (by decide) (pv 0) (pa_cons (pv 1) pa_nil)) (pe_ix ix_list (pv 4) (pe_int) (fun _ _ => rfl)) (nomark _)))))) (pss_nil)) (pss_cons (ps_if (PW.pt (pw_or (pt_cmpR op_eq (pe_ix ix_list (pv 4) (pe_int) (fun _ _ => rfl)) (pv 5) (nomark _)) (pw_or (pt_not (pt_chain op_lt op_le (pe_ix ix_list (pv 4) (pe_int) (fun _ _ => rfl)) (pe_ix ix_tup (pv 3) (pe_int) (fun _ _ => rfl)) (pv 5))) (pw_or1 (pt_not (pt_chain op_le op_lt (pe_int) (pe_ix ix_tup (pv 3) (pe_int) (fun _ _ => rfl)) (pe_callB call_len_seq (by rfl) (T.free 85) bv_len (pa_cons (pe_dget (u1 hr) (pv 2) (pv 1) (fun _ _ => rfl)) pa_nil)))))))) (pss_one (ps_ret (pe_bl))) (pss_nil)) (pss_cons (ps_if (pt_cmpR (op_eqD hr.units) (pe_ix ix_tup (pe_ix ix_list (pe_dget (u1 hr) (pv 2) (pv 1) (fun _ _ => rfl)) (pe_ix ix_tup (pv 3) (pe_int) (fun _ _ => rfl)) (fun _ _ => rfl)) (pe_int) (fun _ _ => rfl)) (pe_ix ix_tup (pv 3) (pe_int) (fun _ _ => rfl)) (nomark _)) (pss_one (ps_ret (pe_bl))) (pss_nil)) (pss_cons (ps_dput (u1 hr) (pv 2) (pv 1) (pe_slice sl_list (pe_dget (u1 hr) (pv 2) (pv 1) (fun _ _ => rfl)) (po_none) (po_some (pe_ix ix_tup (pv 3) (pe_int) (fun _ _ => rfl)))) rfl) (pss_one (ps_ret (pe_and (pe_cmpR op_eq (pe_mt (met_Trunk_base T) hr (by decide) (pv 0) (pa_cons (pv 1) pa_nil)) (pv 5) (nomark _)) (pe_one (pe_cG (cal_law_alike T) hgu hr (by decide) rfl (pa_cons (pe_mt (met_Trunk_journal T) hr (by decide) (pv 0) (pa_cons (pv 1) pa_nil)) (pa_cons (pe_callTy call_tuple_of (by rfl) (T.free 89) bv_tuple (pa_cons (pe_dget (u1 hr) (pv 2) (pv 1) (fun _ _ => rfl)) pa_nil)) pa_nil))))))))))))), ?_⟩
    rcases hc with ⟨hra, t1, n1, hent, ⟨s', hs', hop⟩, k⟩ | ⟨kk, m, r, y, e, hra, t1, hp, hm1, hm2, hek, her, hy, gr, hs', k⟩ | ⟨wd, xr, hra, hw, t1, ⟨s', hs', hsj, hsb⟩, k⟩
    · -- accepted
      refine ⟨_, rfl, A.t, A.dt, _, rfl, htk, rfl, D, ro, A, S', rfl, W, by omega, fun v hv' => ?_⟩
      obtain rfl : v = nv + 1 := by omega
      refine ⟨_, rfl, ra, _, 0, _, rfl, rfl, .inl (.inl hra), rfl, rfl, _, rfl, iteP rfl ?_⟩
      have e1 : (((nv + 1 : Nat) : Int)) = (nv : Int) + 1 := by omega
      refine ⟨_, rfl, ra, _, 1, _, rfl, rfl, .inl (.inl hra), rfl, _, rfl, bf, _, 0, _, rfl, rfl, .inl (.inl hbf), rfl, _, _, rfl, rfl, rfl, _, rfl, iteEn (by rw [decide_eq_true (by rw [e1])]; rfl) ?_⟩
      refine ⟨_, rfl, _, rfl, bf, _, 0, _, rfl, rfl, .inl (.inl hbf), rfl, _, _, rfl, rfl, rfl, _, rfl, iteEn (by rw [decide_eq_true (by rw [e1])]; rfl) ?_⟩
      refine ⟨_, rfl, A.t, A.dt, _, rfl, htk, rfl, _, rfl, D, ro, A, S', nv, s.j, rfl, W, n1, hent, fun ea nm jx hea hjx => ?_⟩
      refine ⟨ea, _, 1, jx, rfl, rfl, .inl (.inl hea), rfl, _, rfl, _, rfl, td, .ref a, rfl, dg htd, a, es, rfl, .inl ⟨.inl (.inl hes), fun l hl => ?_⟩⟩
      have s1 : Same H (upd H l (.tup es)) := same_new hl
      refine ⟨jx, .ref l, s.j.map dE, 5, 200000, rfl, hjx.same s1, Dt.new upd_same (hed.same s1), ok_dJ gj, by decide, by decide, _, rfl, iteEn rfl ?_⟩
      refine ⟨_, rfl, A.t, A.dt, _, rfl, (s1 _ _ htk), rfl, _, rfl, D, ro, A, S', n, s', rfl, W.same s1, hs', rfl, ?_⟩
      have e2 : decide (V.str (stS s'.op) = V.str "accepted") = true := by rw [hop]; rfl
      rw [e2]
      exact k _ s1
    · -- refused
      refine ⟨_, rfl, A.t, A.dt, _, rfl, htk, rfl, D, ro, A, S', rfl, W, by omega, fun v hv' => ?_⟩
      obtain rfl : v = nv := by omega
      subst hp
      refine ⟨_, rfl, ra, _, 0, _, rfl, rfl, .inl (.inl hra), rfl, rfl, _, rfl, iteN (by decide +kernel) ?_⟩
      refine ⟨_, rfl, _, rfl, bf, _, 0, _, rfl, rfl, .inl (.inl hbf), rfl, rfl, _, rfl, iteEn (by rw [decide_eq_true rfl]; rfl) ⟨_, rfl, bf, _, 2, _, rfl, rfl, .inl (.inl hbf), rfl, _, rfl, iteEn rfl (iteEn rfl ?_)⟩⟩
      refine ⟨_, rfl, ra, _, 0, _, rfl, rfl, .inl (.inl hra), rfl, rfl, _, rfl, iteEn (by decide +kernel) ?_⟩
      have hkl : kk < s.j.length := (List.getElem?_eq_some_iff.mp hek).1
      have hke : kk < es.length := by omega
      refine ⟨_, rfl, bf, _, 1, _, rfl, rfl, .inl (.inl hbf), rfl, _, rfl, rfl, _, rfl, iteN (fun z => by have := V.int.inj z; omega) ?_⟩
      refine ⟨_, rfl, bf, _, 1, _, rfl, rfl, .inl (.inl hbf), rfl, _, rfl, ra, _, 3, _, rfl, rfl, .inl (.inl hra), rfl, _, _, rfl, rfl, _, rfl, iteP (by omega) ⟨_, rfl, _, _, rfl, rfl, _, rfl, iteEn (by rw [decide_eq_true (by omega)]; rfl) ?_⟩⟩
      refine ⟨_, rfl, ra, _, 1, _, rfl, rfl, .inl (.inl hra), rfl, _, _, rfl, rfl, _, rfl, iteP (by omega) ⟨_, rfl, _, rfl, td, .ref a, rfl, dg htd, a, es, rfl, .inl (.inl (.inl hes)), _, _, rfl, rfl, _, rfl, iteEn (by rw [decide_eq_true (by omega)]; rfl) ?_⟩⟩
      obtain ⟨ev, hev, hevd⟩ := DtAll.at (ds := s.j.map dE) hed (by rw [List.getElem?_map, hek]; rfl)
      obtain ⟨et, ex, er, rfl, het, hex, herd⟩ := Dt.twoI hevd
      refine ⟨_, rfl, _, rfl, td, .ref a, rfl, dg htd, _, rfl, ra, _, 1, _, rfl, rfl, .inl (.inl hra), rfl, a, es, (kk : Int), .ref et, rfl, rfl, .inl (.inl hes), atI_nat hev, et, _, 1, er, rfl, rfl, het.sq, rfl, _, rfl, ra, _, 2, _, rfl, rfl, .inl (.inl hra), rfl, ?_⟩
      have ge := gj.1 e (List.mem_of_getElem? hek)
      refine eqR_of (a := e.2) (b := r) herd hy ge.r gr ⟨_, rfl, iteN her ?_⟩
      have htk1 : ∀ H', Same H H' → H' A.t = some (.ins (CK K) A.dt (tkF A pp al rn)) := fun H' s => s _ _ htk
      refine ⟨_, rfl, _, rfl, td, .ref a, rfl, dg htd, _, rfl, ra, _, 1, _, rfl, rfl, .inl (.inl hra), rfl, _, rfl, a, es, rfl, .inl (.inl hes), fun a' ha' => ?_⟩
      rw [show cutV es none (some ((kk : Nat) : Int)) = es.take kk from cut_take]
      have s1 : Same H (upd H a' (.lst (es.take kk))) := same_new ha'
      have htd1 := s1 _ _ htd
      have W1 := W.same s1
      have ha1 : upd H a' (.lst (es.take kk)) a' = some (.lst (es.take kk)) := upd_same
      have hed1 := hed.same s1
      have hk := fun H2 => k (upd H a' (.lst (es.take kk))) a' H2 s1 ha' ha1
      generalize upd H a' (.lst (es.take kk)) = H1 at s1 htd1 W1 ha1 hed1 hk ⊢
      refine ⟨_, rfl, _, rfl, td, _, rfl, DPut.k (k := Sum.inl (n : Int)) htd1 (smallt (m := 100) htl), ?_⟩
      have ntd : td ≠ a' := ne_of htd1 ha1 (by intro z; cases z)
      have gt : Go K D ro (fun m => decide (m = 21)) H1 (upd H1 td (.dK (putK tks (Sum.inl (n : Int)) (.ref a')))) := go_upd (by rw [rt]; rfl) (by rw [htd1]; exact decide_eq_true tdD)
      have W2 := W1.mv gt rfl fun m hm => decide_eq_false (by omega)
      have ha2 : upd H1 td (.dK (putK tks (Sum.inl (n : Int)) (.ref a'))) a' = some (.lst (es.take kk)) := by rw [upd_ne (Ne.symm ntd)]; exact ha1
      have htd2 : upd H1 td (.dK (putK tks (Sum.inl (n : Int)) (.ref a'))) td = some (.dK (putK tks (Sum.inl (n : Int)) (.ref a'))) := upd_same
      have hed2 := hed1.tx gt.ev.t
      generalize upd H1 td (.dK (putK tks (Sum.inl (n : Int)) (.ref a'))) = H2 at hk gt W2 ha2 htd2 hed2 ⊢
      obtain ⟨pp2, al2, rn2, htk2⟩ := id W2.tk
      refine ⟨_, rfl, A.t, A.dt, _, rfl, htk2, rfl, _, rfl, D, ro, A, S', n, _, rfl, W2, hs', _, rfl, rfl, _, rfl, iteP rfl ?_⟩
      refine ⟨_, rfl, A.t, A.dt, _, rfl, htk2, rfl, _, rfl, D, ro, A, S', n, _, rfl, W2, hs', fun jx hjx => ?_⟩
      have dg2 : DGet H2 td (.int (n : Int)) (some (.ref a')) := by
        have q := DGet.k (k := Sum.inl (n : Int)) htd2
        rw [valV_put, if_pos rfl] at q
        exact q
      refine ⟨_, rfl, _, rfl, td, .ref a', rfl, dg2, a', _, rfl, .inl ⟨.inl (.inl ha2), fun l hl => ?_⟩⟩
      have s3 : Same H2 (upd H2 l (.tup (es.take kk))) := same_new hl
      have hdt : DtAll K (upd H2 l (.tup (es.take kk))) (es.take kk) ((s.j.take kk).map dE) := by
        rw [List.map_take]
        exact (hed2.take kk).same s3
      exact ⟨jx, .ref l, (s.j.take kk).map dE, 5, 200000, rfl, hjx.same s3, Dt.new upd_same hdt, ok_dJ (good_take gj kk), by decide, by decide, hk _ s3⟩
    · -- waiting or failed
      refine ⟨_, rfl, A.t, A.dt, _, rfl, htk, rfl, D, ro, A, S', rfl, W, by omega, fun v hv' => ?_⟩
      obtain rfl : v = nv := by omega
      have hneA : ¬ V.str wd = V.str "accepted" := by rcases hw with ⟨h, _⟩ | h <;> rw [h] <;> decide +kernel
      have hneR : decide (V.str wd = V.str "refused") = false := by rcases hw with ⟨h, _⟩ | h <;> rw [h] <;> decide +kernel
      refine ⟨_, rfl, ra, _, 0, _, rfl, rfl, .inl (.inl hra), at0, rfl, _, rfl, iteN hneA ?_⟩
      refine ⟨_, rfl, _, rfl, bf, _, 0, _, rfl, rfl, .inl (.inl hbf), rfl, rfl, _, rfl, iteEn (by rw [decide_eq_true rfl]; rfl) ⟨_, rfl, bf, _, 2, _, rfl, rfl, .inl (.inl hbf), rfl, _, rfl, ?_⟩⟩
      have rest : ∀ (X : Prop), X → X := fun _ h => h
      have fin : ∀ (l : Addr), H l = none → True := fun _ _ => trivial
      cases p with
      | false =>
        refine iteEn rfl (iteEn rfl ?_)
        refine ⟨_, rfl, ra, _, 0, _, rfl, rfl, .inl (.inl hra), at0, rfl, _, rfl, iteE (by rw [hneR]; rfl) ?_⟩
        refine ⟨_, rfl, A.t, A.dt, _, rfl, htk, rfl, _, rfl, D, ro, A, S', n, s', rfl, W, hs', fun jx hjx => ?_⟩
        refine ⟨_, rfl, _, rfl, td, .ref a, rfl, dg htd, a, es, rfl, .inl ⟨.inl (.inl hes), fun l hl => ?_⟩⟩
        have s1 : Same H (upd H l (.tup es)) := same_new hl
        rw [hsj] at hjx
        refine ⟨jx, .ref l, s.j.map dE, 5, 200000, rfl, hjx.same s1, Dt.new upd_same (hed.same s1), ok_dJ gj, by decide, by decide, ?_⟩
        refine ⟨_, rfl, iteE rfl ?_⟩
        refine ⟨_, rfl, A.t, A.dt, _, rfl, (s1 _ _ htk), rfl, _, rfl, D, ro, A, S', n, s', rfl, W.same s1, hs', _, rfl, bf, _, 1, _, rfl, rfl, .inl (.inl (s1 _ _ hbf)), rfl, rfl, ?_⟩
        have eb : decide (V.int (s'.base : Int) = V.int (B : Int)) = true := by rw [hsb]; exact decide_eq_true rfl
        rw [eb]
        exact k _ s1
      | true =>
        have hwf : wd = "failed" := by
          rcases hw with ⟨_, h⟩ | h
          · cases h
          · exact h
        refine iteE rfl ⟨_, rfl, ra, _, 0, _, rfl, rfl, .inl (.inl hra), at0, rfl, _, rfl, iteEn (by rw [hwf]; decide +kernel) ?_⟩
        refine ⟨_, rfl, ra, _, 0, _, rfl, rfl, .inl (.inl hra), at0, rfl, _, rfl, iteE (by rw [hneR]; rfl) ?_⟩
        refine ⟨_, rfl, A.t, A.dt, _, rfl, htk, rfl, _, rfl, D, ro, A, S', n, s', rfl, W, hs', fun jx hjx => ?_⟩
        refine ⟨_, rfl, _, rfl, td, .ref a, rfl, dg htd, a, es, rfl, .inl ⟨.inl (.inl hes), fun l hl => ?_⟩⟩
        have s1 : Same H (upd H l (.tup es)) := same_new hl
        rw [hsj] at hjx
        refine ⟨jx, .ref l, s.j.map dE, 5, 200000, rfl, hjx.same s1, Dt.new upd_same (hed.same s1), ok_dJ gj, by decide, by decide, ?_⟩
        refine ⟨_, rfl, iteE rfl ?_⟩
        refine ⟨_, rfl, A.t, A.dt, _, rfl, (s1 _ _ htk), rfl, _, rfl, D, ro, A, S', n, s', rfl, W.same s1, hs', _, rfl, bf, _, 1, _, rfl, rfl, .inl (.inl (s1 _ _ hbf)), rfl, rfl, ?_⟩
        have eb : decide (V.int (s'.base : Int) = V.int (B : Int)) = true := by rw [hsb]; exact decide_eq_true rfl
        rw [eb]
        exact k _ s1
end
end Sa
/-! text H16 -/
/-! the law: a serial run -/
namespace Sa
open PySem PySem.Spec L2 PyProof.Rows
section
variable {P : Program} {w : World} {K : PySem.W.Frag} {mg : Str → Option Value} {base : Heap}
def spSerial (K : PySem.W.Frag) : Sp := fun vs H Q _ => ∃ (D : List Addr) (ro : Addr → Nat) (A : Ad) (S : Sta) (v : V) (F0 : Files), vs = [.ref A.t, v] ∧ TW K D ro H A S ∧ InvS S ∧ S.trees.length ≤ 100 ∧ TabAt K D H v F0 ∧ S.trees[0]? = some F0 ∧ ∀ H', Same H H' → Q (.bl true) H'
theorem sc_law_serial : FnScope ["_law_trunk", "_law_table_here", "_law_version", "_law_journal", "_law_run_here", "_law_entry"] ["_law_trunk", "_law_table_here"] (defScope s_law_serial) := ⟨rfl, rfl, rfl, by decide +kernel, rfl, by decide +kernel, by decide +kernel⟩
theorem cal_law_serial (T : Tx K mg) : CalG P w K mg base 6 "_law_serial" (spSerial K) := by
  refine T.calG 91 53 (f_at (x := "_law_serial") rfl) (g_at rfl) (N := ["_law_trunk", "_law_table_here", "_law_version", "_law_journal", "_law_run_here", "_law_entry"]) (ps := ["_law_trunk", "_law_table_here"]) (fun _ _ _ _ _ _ us hl => match us, hl with | [_, _], _ => rfl) sc_law_serial (fun vs H Q E h => ?_) (fun f cdv A0 outer s0 H vs Q E hgu hr h => ?_)
  · obtain ⟨D, ro, A, S, v, F0, rfl, _⟩ := h
    rfl
  · obtain ⟨D, ro, A, S, v, F0, rfl, W, iS, h100, tb, hF0, k⟩ := h
    obtain ⟨pp, al, rn, htk⟩ := id W.tk
    have n1 := iS.n1
    refine ⟨_, pss_cons (ps_for PassesOwn.never rfl (pi_range2 rfl (T.free 92) (pa_cons (pe_int) (pa_cons (pe_op op_add (pe_mt0 (met_Trunk_version T) hr (by decide) (pv 0)) (pe_int)) pa_nil))) (pg_name (i := 2) sc_law_serial.nd rfl (by first | exact Or.inl rfl | exact Or.inr rfl)) (pss_cons (ps_set (i := 3) sc_law_serial.nd rfl (by first | exact Or.inl rfl | exact Or.inr rfl) (pe_ix ix_tup (pe_mt (met_Trunk_entry T) hr (by decide) (pv 0) (pa_cons (pv 2) pa_nil)) (pe_int) (fun _ _ => rfl))) (pss_cons (ps_set (i := 4) sc_law_serial.nd rfl (by first | exact Or.inl rfl | exact Or.inr rfl) (pe_c (cal_law_run T) hr (by decide) rfl (pa_cons (pv 1) (pa_cons (pe_lc (own := [("_law_entry", 5)]) (g := gName 5) (tt := tYes) rfl sc_law_serial.nd (pi_tup (pv 3)) (blkOk_by (own := [("_law_entry", 5)]) (N := ["_law_trunk", "_law_table_here", "_law_version", "_law_journal", "_law_run_here", "_law_entry"]) (sc := defScope s_law_serial) (by decide +kernel)) (fun _ _ _ _ _ => pg_name (i := 5) sc_law_serial.nd rfl (by first | exact Or.inl rfl | exact Or.inr rfl)) (fun _ _ _ _ _ => pts_nil) (fun _ _ _ _ _ => pe_ix (ix_tupK K rfl) (pv 5) (pe_int) (fun _ _ => rfl))) pa_nil)))) (pss_cons (ps_if (PW.pt (pw_or (pt_not (pt_val (pe_cG (cal_law_alike T) hgu hr (by decide) rfl (pa_cons (pe_ix ix_tup (pv 4) (pe_int) (fun _ _ => rfl)) (pa_cons (pv 3) pa_nil))))) (pw_or1 (pt_not (pt_val (pe_cG (cal_law_alike T) hgu hr (by decide) rfl (pa_cons (pe_mt0 (met_Tree_files T) hr (by decide) (pe_mt (met_Trunk_tree T) hr (by decide) (pv 0) (pa_cons (pv 2) pa_nil))) (pa_cons (pe_c (cal_law_files T) hr (by decide) rfl (pa_cons (pe_ix ix_tup (pv 4) (pe_int) (fun _ _ => rfl)) pa_nil)) pa_nil)))))))) (pss_one (ps_ret (pe_bl))) (pss_nil)) (pss_one (ps_set (i := 1) sc_law_serial.nd rfl (by first | exact Or.inl rfl | exact Or.inr rfl) (pe_ix ix_tup (pv 4) (pe_int) (fun _ _ => rfl)))))))) (pss_one (ps_ret (pe_bl))), ?_⟩
    refine ⟨_, rfl, A.t, A.dt, _, rfl, htk, rfl, D, ro, A, S, rfl, W, by omega, fun nv hnv => ?_⟩
    refine ⟨_, _, rfl, rfl, 1, (nv : Int) + 1, rfl, by omega, for_range (fun i σ H' => ∃ tv v2 v3 v4 v5 Fi, σ = [some (.ref A.t), some tv, v2, v3, v4, v5] ∧ Same H H' ∧ TabAt K D H' tv Fi ∧ S.trees[i]? = some Fi) ⟨v, _, _, _, _, F0, rfl, Same.refl H, tb, hF0⟩ ?_ ?_⟩
    · rintro i σ H1 hi ⟨tv, v2, v3, v4, v5, Fi, rfl, s1, tb1, hFi⟩
      have hi' : i < nv := by
        have e : ((nv : Int) + 1 - 1).toNat = nv := by omega
        rw [e] at hi
        exact hi
      obtain ⟨j, hj⟩ : ∃ j, S.ents[i]? = some j := ⟨_, List.getElem?_eq_getElem (by omega)⟩
      obtain ⟨Fi', hFi', gj, hh, hnext⟩ := iS.ch i j hj
      rw [hFi] at hFi'
      cases hFi'
      have gFi := iS.tr Fi (List.mem_of_getElem? hFi)
      have W1 := W.same s1
      have htk1 := s1 _ _ htk
      have e1 : (1 : Int) + (i : Int) = ((i + 1 : Nat) : Int) := by omega
      have gA : ∀ a ∈ j.map Prod.fst, GoodA a := fun a ha => by
        obtain ⟨e, he, rfl⟩ := List.mem_map.mp ha
        exact (gj.1 e he).a
      have hrun := run_of_holds (F := Fi) (j := j) (i := 0) hh
      have gNext : GoodF (leadF Fi (j.map Prod.fst)) := iS.tr _ (List.mem_of_getElem? hnext)
      refine ⟨_, rfl, A.t, A.dt, _, rfl, htk1, rfl, _, rfl, D, ro, A, S, i, j, by rw [e1]; rfl, W1, n1, hj, fun ea nm jx hea hjx => ?_⟩
      refine ⟨ea, _, 1, jx, rfl, rfl, .inl (.inl hea), rfl, ?_⟩
      obtain ⟨jt, js, rfl, hjt, hjd⟩ := Dt.tupI hjx
      have jl : js.length = j.length := by rw [hjd.length, List.length_map]
      have gj40 := gj.2
      refine ⟨_, rfl, _, rfl, jt, rfl, ⟨_, hjt.sq⟩, fun B hB => lc_tup (xs := js) (fun i2 H' => Same H1 H' ∧ ∃ ws, H' B = some (.lst ws) ∧ DtAll K H' ws (((j.map Prod.fst).take i2).map dA)) ⟨same_new hB, [], upd_same, .nil⟩ (fun i2 H' _ q => file_stt q.1 hjt) ?_ ?_⟩
      · rintro i2 y H2 hi2 ⟨s2, ws, hw, hwd⟩
        obtain ⟨en, t, av, rv, he, rfl, hst, ha, hrv⟩ := ent_at hjd hi2
        have hil := (List.getElem?_eq_some_iff.mp he).1
        refine ⟨rfl, t_yes ⟨_, rfl, t, _, 0, av, rfl, rfl, file_stt s2 hst, rfl, ws, hw, smallt (m := 60) ?_, same_mut s2 hB, _, upd_same, ?_⟩⟩
        · rw [hwd.length, List.length_map, List.length_take, List.length_map]
          omega
        · have e : (j.map Prod.fst)[i2]? = some en.1 := by rw [List.getElem?_map, he]; rfl
          have tx : TX H2 (upd H2 B (.lst (ws ++ [av]))) := tx_upd (by rw [hw]; rfl)
          rw [take_map _ e]
          exact DtAll.snoc (hwd.tx tx) ((ha.same s2).tx tx)
      rintro H2 ⟨s2, ws, hw, hwd⟩
      rw [jl, List.take_of_length_le (by rw [List.length_map]; exact Nat.le_refl _)] at hwd
      have s12 := s1.trans s2
      refine ⟨tv, B, ws, D, Fi, j.map Prod.fst, rfl, tb1.same s2, gFi, W.d.same s12, hw, hwd, gA, by rw [List.length_map]; omega, fun H3 c jx2 z s3 hc hjx2 hz => ?_⟩
      rw [hrun] at hjx2 hz
      have s13 := s12.trans s3
      have s23 := s2.trans s3
      refine ⟨_, rfl, c, _, 0, jx2, rfl, rfl, .inl (.inl hc), rfl, _, rfl, jx2, .ref jt, j.map dE, 5, 200000, rfl, hjx2, hjx.same s23, ok_dJ gj, by decide, by decide, _, rfl, iteEn rfl ?_⟩
      have W3 := W.same s13
      have htk3 := s13 _ _ htk
      refine ⟨_, rfl, A.t, A.dt, _, rfl, htk3, rfl, _, rfl, D, ro, A, S, i + 1, _, by rw [e1]; rfl, W3, hnext, fun t2 ht2 => ?_⟩
      obtain ⟨ta, tdx, tfs, te, th1, th2⟩ := ht2.ins
      refine ⟨ta, tdx, tfs, te, th1, th2 _ (by decide +kernel), t2, D, _, rfl, ht2, gNext, fun H4 fa fx s4 hfa hfx => ?_⟩
      refine ⟨_, rfl, c, _, 1, z, rfl, rfl, .inl (.inl (s4 _ _ hc)), rfl, z, D, _, rfl, hz.same s4, gNext, fun H5 fb s5 hfb => ?_⟩
      have s45 := s4.trans s5
      refine ⟨.ref fa, .ref fb, (keys (leadF Fi (j.map Prod.fst))).map (dFl (leadF Fi (j.map Prod.fst))), 3, 1000, rfl, (Dt.new hfa hfx).same s5, hfb, ok_dFs gNext, by decide, by decide, _, rfl, iteEn rfl ?_⟩
      exact ⟨_, rfl, c, _, 1, z, rfl, rfl, .inl (.inl (s45 _ _ hc)), rfl, z, _, _, _, _, _, rfl, s13.trans s45, hz.same s45, hnext⟩
    · rintro σ H1 ⟨tv, v2, v3, v4, v5, Fi, rfl, s1, tb1, hFi⟩
      exact k H1 s1
end
end Sa
/-! text H17 -/
/-! the law: a new trunk's world; a session begun -/
namespace Sa
open PySem PySem.Spec L2 PyProof.Rows
def startS (F : Files) (n : Nat) : Sta := ⟨[F], [], [], [], false, n⟩
theorem startS_inv {F : Files} (g : GoodF F) (n : Nat) : InvS (startS F n) := by
  refine ⟨fun G h => ?_, rfl, fun v j h => ?_, fun i s h => ?_, fun n h => absurd h (by simp [startS]), List.nodup_nil, fun h => nomatch h⟩
  · rw [List.mem_singleton.mp h]
    exact g
  · simp [startS] at h
  · simp [startS] at h
section
variable {K : PySem.W.Frag} {mg : Str → Option Value}
theorem tw_start {H0 H' : Hp} {p dt b : Addr} {tv : V} {A : Ad} {F : Files} {u o : HO} (N : NewK K H0 H' p dt tv A) (hb : H0 b = some u) (hbp : b ≠ p) (hp : H0 p = some o) (ht : TrAt K (CT K) [] H0 tv F) (hpT : ∀ kvs, o ≠ .dK kvs) (hpI : ∀ dx fs, o ≠ .ins (CT K) dx fs) (hpU : ∀ xs, o ≠ .tup xs) :
    ∃ ro : Addr → Nat, TW K [A.ck, A.vd] ro H' A (startS F 0) ∧ ro b = 20 ∧ ∀ a v, H0 a = some v → a ≠ p → a ≠ b → ro a = 0 := by
  have nw := N.new
  have nd := N.ne
  simp only [List.nodup_cons, List.mem_cons, List.not_mem_nil, or_false, not_or, not_false_eq_true, and_true, List.nodup_nil] at nd
  obtain ⟨⟨a1, a2, a3, a4, a5, a6⟩, ⟨b1, b2, b3, b4, b5⟩, ⟨c1, c2, c3, c4⟩, ⟨d1, d2, d3⟩, ⟨e1, e2⟩, f1⟩ := nd
  have n1 : H0 A.tl = none := nw _ (by simp)
  have n2 : H0 A.el = none := nw _ (by simp)
  have n3 : H0 A.sl = none := nw _ (by simp)
  have n4 : H0 A.ln = none := nw _ (by simp)
  have n5 : H0 A.ll = none := nw _ (by simp)
  have n6 : H0 A.ck = none := nw _ (by simp)
  have n7 : H0 A.vd = none := nw _ (by simp)
  have kt : ∀ a v, H0 a = some v → a ≠ A.tl ∧ a ≠ A.el ∧ a ≠ A.sl ∧ a ≠ A.ln ∧ a ≠ A.ll ∧ a ≠ A.ck ∧ a ≠ A.vd := fun a v h => ⟨ne_of_none h n1, ne_of_none h n2, ne_of_none h n3, ne_of_none h n4, ne_of_none h n5, ne_of_none h n6, ne_of_none h n7⟩
  obtain ⟨pb1, pb2, pb3, pb4, pb5, pb6, pb7⟩ := kt b u hb
  obtain ⟨pp1, pp2, pp3, pp4, pp5, pp6, pp7⟩ := kt p o hp
  refine ⟨setR (setR (setR (setR (setR (setR (setR (setR (setR (fun _ => 0) b 20) p 51) A.tl 52) A.el 53) A.sl 54) A.ln 55) A.ll 56) A.ck 57) A.vd 58, ?_, ?_, fun a v h h1 h2 => ?_⟩
  · have q : ∀ a : Addr, (setR (setR (setR (setR (setR (setR (setR (setR (setR (fun _ => 0) b 20) p 51) A.tl 52) A.el 53) A.sl 54) A.ln 55) A.ll 56) A.ck 57) A.vd 58) a ≠ 0 → ∃ o, H' a = some o := fun a ha => by
      by_cases z1 : a = A.vd
      · exact ⟨_, by rw [z1]; exact N.vd⟩
      by_cases z2 : a = A.ck
      · exact ⟨_, by rw [z2]; exact N.ck⟩
      obtain ⟨ev, g1, g2, _⟩ := N.ln
      by_cases z3 : a = A.ll
      · exact ⟨_, by rw [z3]; exact g2⟩
      by_cases z4 : a = A.ln
      · exact ⟨_, by rw [z4]; exact g1⟩
      by_cases z5 : a = A.sl
      · exact ⟨_, by rw [z5]; exact N.sl⟩
      by_cases z6 : a = A.el
      · exact ⟨_, by rw [z6]; exact N.el⟩
      by_cases z7 : a = A.tl
      · exact ⟨_, by rw [z7]; exact N.tl⟩
      by_cases z8 : a = p
      · obtain ⟨x1, x2, x3, x4⟩ := N.tk
        exact ⟨_, by rw [z8, ← N.t]; exact x4⟩
      by_cases z9 : a = b
      · exact ⟨u, by rw [z9]; exact N.kp b u hb hbp⟩
      · rw [setR_ne z1, setR_ne z2, setR_ne z3, setR_ne z4, setR_ne z5, setR_ne z6, setR_ne z7, setR_ne z8, setR_ne z9] at ha
        exact absurd rfl ha
    have tx : TX H0 H' := fun a xs h => N.kp a _ h fun z => by
      rw [z, hp] at h
      exact hpU xs (Option.some.inj h)
    obtain ⟨ta, tdx, td, kvs, te, t1, t2, t3, t4⟩ := ht
    have htr : TrAt K (CT K) [A.ck, A.vd] H' tv F := by
      refine ⟨ta, tdx, td, kvs, te, N.kp _ _ t1 fun z => ?_, N.kp _ _ t2 fun z => ?_, fun z => ?_, t4.tx tx⟩
      · rw [z, hp] at t1
        exact hpI _ _ (Option.some.inj t1)
      · rw [z, hp] at t2
        exact hpT _ (Option.some.inj t2)
      · rcases List.mem_cons.mp z with z | z
        · rw [z, n6] at t2
          cases t2
        · rw [List.mem_singleton.mp z, n7] at t2
          cases t2
    refine ⟨⟨?_, ?_, ?_, ?_, ?_, ?_, ?_, ?_, fun i a h => ?_, q⟩, fun x hx => ?_, List.mem_cons_self, by simp, N.tk, ⟨[tv], N.tl, .cons htr .nil⟩, ⟨[], N.el, .nil⟩, ⟨by rw [N.ss]; exact N.sl, by rw [N.ss]; exact .nil⟩, N.ln, [], [], [], ⟨N.ck, N.vd, rfl, Nat.zero_le _, rfl, List.nodup_nil, fun k h => absurd h (by simp)⟩, Nat.zero_le _⟩
    · rw [N.t, setR_ne pp7, setR_ne pp6, setR_ne pp5, setR_ne pp4, setR_ne pp3, setR_ne pp2, setR_ne pp1, setR_same]
    · rw [setR_ne a6, setR_ne a5, setR_ne a4, setR_ne a3, setR_ne a2, setR_ne a1, setR_same]
    · rw [setR_ne b5, setR_ne b4, setR_ne b3, setR_ne b2, setR_ne b1, setR_same]
    · rw [setR_ne c4, setR_ne c3, setR_ne c2, setR_ne c1, setR_same]
    · rw [setR_ne d3, setR_ne d2, setR_ne d1, setR_same]
    · rw [setR_ne e2, setR_ne e1, setR_same]
    · rw [setR_ne f1, setR_same]
    · rw [setR_same]
    · rw [N.ss] at h
      simp at h
    · rcases List.mem_cons.mp hx with z | z
      · rw [z]
        exact ⟨_, N.ck⟩
      · rw [List.mem_singleton.mp z]
        exact ⟨_, N.vd⟩
  · rw [setR_ne pb7, setR_ne pb6, setR_ne pb5, setR_ne pb4, setR_ne pb3, setR_ne pb2, setR_ne pb1, setR_ne hbp, setR_same]
  · obtain ⟨x1, x2, x3, x4, x5, x6, x7⟩ := kt a v h
    rw [setR_ne x7, setR_ne x6, setR_ne x5, setR_ne x4, setR_ne x3, setR_ne x2, setR_ne x1, setR_ne h1, setR_ne h2]
theorem ToldAt.role {ro ro' : Addr → Nat} {H : Hp} {tks : List (Key × V)} {S : Sta} (h : ToldAt K ro H tks S) (hr : ∀ a o, H a = some o → ro' a = ro a) : ToldAt K ro' H tks S := by
  refine ⟨h.nd, fun k v hk => ?_, h.t2⟩
  obtain ⟨i, s, h1, h2, h3, a, es, e1, e2, e3, e4⟩ := h.t1 k v hk
  exact ⟨i, s, h1, h2, h3, a, es, e1, by rw [hr _ _ e3]; exact e2, e3, e4⟩
theorem begun_same {S : Sta} : SesSame S (begun S) S.ses.length := fun i hi => by
  show ((S.ses ++ _)[i]?).map _ = _
  by_cases h : i < S.ses.length
  · rw [List.getElem?_append_left h]
  · rw [List.getElem?_eq_none (by omega : S.ses.length ≤ i), List.getElem?_eq_none (by rw [List.length_append]; show S.ses.length + 1 ≤ i; omega)]
theorem begun_get {S : Sta} : (begun S).ses[S.ses.length]? = some ⟨S.trees.length - 1, [], 0⟩ := by
  show (S.ses ++ _)[S.ses.length]? = _
  rw [List.getElem?_append_right (Nat.le_refl _), Nat.sub_self]
  rfl
theorem left_same {S : Sta} {n : Nat} : SesSame S (leftS S n) n := fun _ _ => rfl
theorem made_same {S S' : Sta} {n : Nat} {s : Ses} {j : Jr} {F : Files} (m : MadeR (accS S n s) S' j F) : SesSame S S' n := fun i hi => by
  cases e : S.ses[i]? with
  | none =>
    have h1 : S.ses.length ≤ i := List.getElem?_eq_none_iff.mp e
    have h2 : S'.ses.length = S.ses.length := by rw [m.len]; show (S.ses.set n _).length = _; rw [List.length_set]
    rw [List.getElem?_eq_none (by omega : S'.ses.length ≤ i)]
  | some q =>
    have h1 : (accS S n s).ses[i]? = some q := by
      show (S.ses.set n _)[i]? = _
      rw [List.getElem?_set_ne (Ne.symm hi)]
      exact e
    obtain ⟨q', g1, g2, g3⟩ := m.ses i q h1
    rw [g1]
    show some (q'.op, q'.j) = some (q.op, q.j)
    rw [g2, g3]
theorem ref_same {S S' : Sta} {n k : Nat} {s : Ses} (r : RefR S S' n k s) : SesSame S S' n := fun i hi => by
  rw [r.ses, List.getElem?_set_ne (Ne.symm hi)]
end
end Sa
/-! text I1 -/
/-! the law's turns: what holds between them -/
namespace Sa
open PySem PySem.Spec L2 PyProof.Rows
section
variable {K : PySem.W.Frag} {mg : Str → Option Value} {D : List Addr} {ro ro' : Addr → Nat} {H H' H0 H1 H2 : Hp} {A A' : Ad} {S S' : Sta} {t b dl td : Addr} {tv : V} {F : Files} {i k k' n : Nat} {tks : List (Key × V)}
/-- what holds between the law's turns -/
structure LI (K : PySem.W.Frag) (t b dl td : Addr) (tv : V) (F : Files) (i k : Nat) (H : Hp) (D : List Addr) (ro : Addr → Nat) (A : Ad) (S : Sta) : Prop where
  t : A.t = t
  lw : LW K D ro H A S b dl td
  tab : TabAt K D H tv F
  si : S.ses.length ≤ i
  tk : S.trees.length ≤ k
  t0 : S.trees[0]? = some F
theorem LI.draw (h : LI K t b dl td tv F i k H D ro A S) (kb : BK b H H') (bx : BoxAt H' b dl) : LI K t b dl td tv F i k H' D ro A S := by
  obtain ⟨w, g⟩ := h.lw.draw kb bx
  exact ⟨h.t, w, h.tab.ev g.ev, h.si, h.tk, h.t0⟩
theorem LI.same (h : LI K t b dl td tv F i k H D ro A S) (s : Same H H') : LI K t b dl td tv F i k H' D ro A S := h.draw (bk_same s) (h.lw.box.same s)
theorem LI.acted (h : LI K t b dl td tv F i k H D ro A S) (g : Go K D ro XL H H') (w : LW K D ro H' A S' b dl td) (e1 : S'.trees = S.trees) (e2 : S'.ses.length = S.ses.length) : LI K t b dl td tv F i k H' D ro A S' := ⟨h.t, w, h.tab.ev g.ev, by rw [e2]; exact h.si, by rw [e1]; exact h.tk, by rw [e1]; exact h.t0⟩
/-- the trunk goes on, then what is told is written -/
theorem LI.core (h : LI K t b dl td tv F i k H D ro A S) (g : Go K D ro X50 H H0) (W : TW K D ro H0 A S') (iS : InvS S') (el : S'.ses.length = S.ses.length) (et : S'.trees.length ≤ k') (e0 : S'.trees[0]? = some F) (s1 : Same H0 H1) (htd : H1 td = some (.dK tks)) {tks' : List (Key × V)} (told : ToldAt K ro H1 tks' S') : LI K t b dl td tv F i k' (upd H1 td (.dK tks')) D ro A S' := by
  have g1 : Go K D ro X50 H H1 := g.trans (go_same s1)
  have gt : Go K D ro (fun m => decide (m = 21)) H1 (upd H1 td (.dK tks')) := go_upd (by rw [h.lw.rt]; rfl) (by rw [htd]; exact decide_eq_true h.lw.tdD)
  obtain ⟨bx, _⟩ := h.lw.trunk g1
  refine ⟨h.t, ⟨(W.same s1).mv gt rfl fun m hm => decide_eq_false (by omega), iS, bx.mut ⟨Ne.symm h.lw.ne, ne_ro h.lw.rd h.lw.rt (by decide)⟩, h.lw.rb, h.lw.rd, h.lw.rt, h.lw.tdD, ⟨_, upd_same, told.mv gt rfl rfl⟩, by rw [el]; exact h.lw.sm⟩, (h.tab.ev g1.ev).ev gt.ev, by rw [el]; exact h.si, et, e0⟩
theorem LI.told (h : LI K t b dl td tv F i k H D ro A S) (htd : H td = some (.dK tks)) : ToldAt K ro H tks S := by
  obtain ⟨tks', e, q⟩ := h.lw.told
  rw [htd] at e
  cases e
  exact q
theorem LI.popped {s' : Ses} (h : LI K t b dl td tv F i k H D ro A S) (htd : H td = some (.dK tks)) (g : Go K D ro X50 H H0) (W : TW K D ro H0 A S') (iS : InvS S') (same : SesSame S S' n) (hn : S'.ses[n]? = some s') (ho : s'.op ≠ 0) (el : S'.ses.length = S.ses.length) (et : S'.trees.length ≤ k') (e0 : S'.trees[0]? = some F) (s1 : Same H0 H1) :
    H1 td = some (.dK tks) ∧ LI K t b dl td tv F i k' (upd H1 td (.dK (dropK tks (Sum.inl (n : Int))))) D ro A S' := by
  have g1 : Go K D ro X50 H H1 := g.trans (go_same s1)
  have h1 := (h.lw.trunk g1).2 _ htd
  have tl := (h.told htd).mv (S' := S) g1 rfl rfl
  exact ⟨h1, h.core g W iS el et e0 s1 h1 (tl.pop same hn ho)⟩
theorem LI.put {s' : Ses} {a : Addr} {es : List V} (h : LI K t b dl td tv F i k H D ro A S) (htd : H td = some (.dK tks)) (g : Go K D ro X50 H H0) (W : TW K D ro H0 A S') (iS : InvS S') (same : SesSame S S' n) (hn : S'.ses[n]? = some s') (ho : s'.op = 0) (el : S'.ses.length = S.ses.length) (et : S'.trees.length ≤ k') (e0 : S'.trees[0]? = some F) (s1 : Same H0 H1)
    (ha0 : H0 a = none) (ha : H1 a = some (.lst es)) (hd : DtAll K H1 es (s'.j.map dE)) (s2 : Same (upd H1 td (.dK (putK tks (Sum.inl (n : Int)) (.ref a)))) H2) : LI K t b dl td tv F i k' H2 D ro A S' := by
  have g1 : Go K D ro X50 H H1 := g.trans (go_same s1)
  have h1 := (h.lw.trunk g1).2 _ htd
  have tl := (h.told htd).mv (S' := S) g1 rfl rfl
  exact (h.core g W iS el et e0 s1 h1 (tl.put same hn ho ⟨a, es, rfl, ro_new W ha0, ha, hd⟩)).same s2
theorem LI.stay (h : LI K t b dl td tv F i k H D ro A S) (g : Go K D ro X50 H H0) (W : TW K D ro H0 A S') (iS : InvS S') (es : S'.ses = S.ses) (et : S'.trees = S.trees) : LI K t b dl td tv F i k H0 D ro A S' := by
  obtain ⟨tks, htd, tl⟩ := h.lw.told
  obtain ⟨bx, ht⟩ := h.lw.trunk g
  exact ⟨h.t, ⟨W, iS, bx, h.lw.rb, h.lw.rd, h.lw.rt, h.lw.tdD, ⟨tks, ht _ htd, tl.mv g rfl es⟩, by rw [es]; exact h.lw.sm⟩, h.tab.ev g.ev, by rw [es]; exact h.si, by rw [et]; exact h.tk, by rw [et]; exact h.t0⟩
theorem LI.begin {q : Addr} (h : LI K t b dl td tv F i k H D ro A S) (htd : H td = some (.dK tks)) (hq : H q = some (.lst [])) (rq : ro q = 0) (i60 : i < 60) (g : Go K D ro X50 H H') (hr : ∀ a o, H a = some o → ro' a = ro a) (tA : A'.t = A.t) (W : TW K D ro' H' A' (begun S)) :
    H' td = some (.dK tks) ∧ LI K t b dl td tv F (i + 1) k (upd H' td (.dK (putK tks (Sum.inl (S.ses.length : Int)) (.ref q)))) D ro' A' (begun S) := by
  obtain ⟨bx, ht⟩ := h.lw.trunk g
  have htd' := ht _ htd
  obtain ⟨m, ns, q1, q2, q3, q4⟩ := h.lw.box
  have tl := h.told htd
  have tl' : ToldAt K ro' H' tks S := by
    refine ⟨tl.nd, fun k v hk => ?_, tl.t2⟩
    obtain ⟨i, s, e1, e2, e3, a, es, f1, f2, f3, f4⟩ := tl.t1 k v hk
    exact ⟨i, s, e1, e2, e3, a, es, f1, by rw [hr _ _ f3]; exact f2, g.kp _ _ f3 (by rw [f2]; rfl), f4.tx g.ev.t⟩
  have rt' : ro' td = 21 := (hr _ _ htd).trans h.lw.rt
  have tl2 := tl'.put begun_same begun_get rfl (v := .ref q) ⟨q, [], rfl, (hr _ _ hq).trans rq, g.kp _ _ hq (by rw [rq]; rfl), .nil⟩
  have gt : Go K D ro' (fun m => decide (m = 21)) H' (upd H' td (.dK (putK tks (Sum.inl (S.ses.length : Int)) (.ref q)))) := go_upd (by rw [rt']; rfl) (by rw [htd']; exact decide_eq_true h.lw.tdD)
  have hsi := h.si
  refine ⟨htd', tA.trans h.t, ⟨W.mv gt rfl fun m hm => decide_eq_false (by omega), h.lw.inv.begun, bx.mut ⟨Ne.symm h.lw.ne, ne_ro h.lw.rd h.lw.rt (by decide)⟩, (hr _ _ q1).trans h.lw.rb, (hr _ _ q3).trans h.lw.rd, rt', h.lw.tdD, ⟨_, upd_same, tl2.mv gt rfl rfl⟩, ?_⟩, (h.tab.ev g.ev).ev gt.ev, ?_, h.tk, h.t0⟩
  · show (S.ses ++ _).length ≤ 60
    rw [List.length_append]
    show S.ses.length + 1 ≤ 60
    omega
  · show (S.ses ++ _).length ≤ i + 1
    rw [List.length_append]
    show S.ses.length + 1 ≤ i + 1
    omega
theorem LI.up (h : LI K t b dl td tv F i k H D ro A S) {i' k' : Nat} (hi : i ≤ i') (hk : k ≤ k') : LI K t b dl td tv F i' k' H D ro A S := ⟨h.t, h.lw, h.tab, Nat.le_trans h.si hi, Nat.le_trans h.tk hk, h.t0⟩
theorem told_keys (h : ToldAt K ro H tks S) : ∃ ks : List Int, tks.map (fun p => p.1) = ks.map Sum.inl ∧ ks.length = tks.length ∧ ∀ z ∈ ks, ∃ (n : Nat) (s : Ses), z = (n : Int) ∧ S.ses[n]? = some s ∧ s.op = 0 := by
  have q : ∀ p ∈ tks, ∃ (n : Nat) (s : Ses), p.1 = Sum.inl (n : Int) ∧ S.ses[n]? = some s ∧ s.op = 0 := fun p hp => by
    obtain ⟨n, s, e1, e2, e3, _⟩ := h.t1 p.1 p.2 (valV_of_mem h.nd hp)
    exact ⟨n, s, e1, e2, e3⟩
  clear h
  induction tks with
  | nil => exact ⟨[], rfl, rfl, fun z hz => nomatch hz⟩
  | cons p l ih =>
    obtain ⟨ks, e1, e2, e3⟩ := ih fun x hx => q x (List.mem_cons_of_mem _ hx)
    obtain ⟨n, s, f1, f2, f3⟩ := q p List.mem_cons_self
    refine ⟨(n : Int) :: ks, ?_, ?_, fun z hz => ?_⟩
    · rw [List.map_cons, List.map_cons, e1, f1]
    · rw [List.length_cons, List.length_cons, e2]
    · rcases List.mem_cons.mp hz with rfl | hz
      · exact ⟨n, s, rfl, f2, f3⟩
      · exact e3 z hz
end
end Sa
/-! text H18 -/
/-! the law: a serial run -/
/-! the law -/
namespace Sa
open PySem PySem.Spec L2 PyProof.Rows
section
variable {P : Program} {w : World} {K : PySem.W.Frag} {mg : Str → Option Value} {base : Heap}
theorem tab_start {H0 H' : Hp} {p dt : Addr} {tv v : V} {A : Ad} {F : Files} {dx : Addr} {fs : List (Str × V)} (N : NewK K H0 H' p dt tv A) (hp : H0 p = some (.ins (CK K) dx fs)) (t : TabAt K [] H0 v F) : TabAt K [A.ck, A.vd] H' v F := by
  obtain ⟨d, kvs, e, h1, _, h2⟩ := t
  have tx : TX H0 H' := fun a xs h => N.kp a _ h fun z => by
    rw [z, hp] at h
    cases h
  refine ⟨d, kvs, e, N.kp _ _ h1 fun z => ?_, fun z => ?_, h2.tx tx⟩
  · rw [z, hp] at h1
    cases h1
  · rcases List.mem_cons.mp z with z | z
    · rw [z, N.new _ (by simp)] at h1
      cases h1
    · rw [List.mem_singleton.mp z, N.new _ (by simp)] at h1
      cases h1
theorem box_start {H0 H' : Hp} {p dt b dl : Addr} {tv : V} {A : Ad} {dx : Addr} {fs : List (Str × V)} (N : NewK K H0 H' p dt tv A) (hp : H0 p = some (.ins (CK K) dx fs)) (t : BoxAt H0 b dl) : BoxAt H' b dl := by
  obtain ⟨n, ns, h1, h2, h3, h4⟩ := t
  refine ⟨n, ns, N.kp _ _ h1 fun z => ?_, h2, N.kp _ _ h3 fun z => ?_, h4⟩
  · rw [z, hp] at h1
    cases h1
  · rw [z, hp] at h3
    cases h3
theorem box_at {H : Hp} {b dl : Addr} (t : BoxAt H b dl) : (∃ us, H b = some (.lst us)) ∧ (∃ us, H dl = some (.lst us)) ∧ dl ≠ b := by
  obtain ⟨n, ns, h1, h2, h3, h4⟩ := t
  exact ⟨⟨_, h1⟩, ⟨_, h3⟩, h2⟩
theorem TrAt.bk {H H' : Hp} {b dl : Addr} {v : V} {F : Files} (t : TrAt K (CT K) [] H v F) (bx : BoxAt H b dl) (k : BK b H H') (bx' : BoxAt H' b dl) : TrAt K (CT K) [] H' v F := t.ev (go_box (K := K) (D := []) (ro := fun _ => 20) rfl bx k bx').ev
theorem make_tree2 {H : Hp} {a : Addr} {xs : List V} {fs : List (Str × List Str)} {G : Files} {Q : VK} {E : XK} (hS : SqA K H a xs) (hd : DtAll K H xs (fs.map dFile)) (o : FsOf fs G) (g : GoodF G) {x dx : Addr} (hx : H x = none) (hdx : H dx = none)
    (k : ∀ H', Same H H' → TrAt K (CT K) [] H' (.ref x) G → Q .non H') : spTreeInit K [.ref x, .ref a] (upd (upd H dx (.own x)) x (.ins (CT K) dx [])) Q E := by
  have s2 : Same H (upd (upd H dx (.own x)) x (.ins (CT K) dx [])) := same_mut (same_new hdx) hx
  exact ⟨x, dx, a, xs, fs, G, rfl, upd_same, hS.elim (fun h => .inl (s2.seq h)) fun h => .inr (h.tx (tx_same s2)), hd.same s2, o, g, fun H' d kvs h0 h1 h2 h3 h4 => k H' (fun b u e => h1 b u (s2 b u e) (ne_of_none e hx)) ⟨x, dx, d, kvs, rfl, h2, h3, List.not_mem_nil, h4⟩⟩
theorem change_good : ∀ {j : Jr} {F : Files} {i k : Nat} {r : Ans}, GoodF F → (∀ e ∈ j, GoodA e.1) → changeF F i j = some (k, r) → GoodR r
  | [], _, _, _, _, _, _, h => by cases h
  | e :: l, F, i, k, r, g, ga, h => by
    unfold changeF at h
    have ge := ga e List.mem_cons_self
    split at h
    · exact change_good (goodF_act g ge) (fun x hx => ga x (List.mem_cons_of_mem _ hx)) h
    · cases h
      exact goodR_act g ge
theorem if_spec {c : TT} {t u : TS} {D : Ends} {σ : L2.St} {H : Hp} (Post : Bool → Hp → Prop) (hc : ∀ Q, (∀ b H1, Post b H1 → Q b H1) → c σ H Q) (h : ∀ b H1, Post b H1 → if b = true then t D σ H1 else u D σ H1) : tIfS c t u D σ H := hc _ h
def spLaw (K : PySem.W.Frag) : Sp := fun vs H Q _ => ∃ (a : Addr) (ns : List Int), vs = [.ref a] ∧ SqL K H a (ns.map V.int) ∧ ∀ H', Q (.bl true) H'
theorem sc_law : FnScope ["_law_script", "_law_box", "_law_table_here", "_law_trunk", "_law_k", "_law_told_here", "_law_turn", "_law_session", "_law_kind", "_law_before", "_law_result_here"] ["_law_script"] (defScope s_law) := ⟨rfl, rfl, rfl, by decide +kernel, rfl, by decide +kernel, by decide +kernel⟩
theorem okG {x : Str} {st : Stmt} {f : Addr} {fd : FuncData} {k : Nat} {N ps : List Str} {sp : Sp} (F : Fun K x x st f fd) (S : FnScope N ps (defScope st)) (len : ∀ vs H Q E, sp vs H Q E → vs.length = ps.length) (body : BodyG P w K mg base x st N k sp) : FnG P w K mg base CX0 (k + 1) f fd ps sp := by
  obtain ⟨oc, od, kV, doc, pm, an, cdv, ct, osl, rfl, lk, hcd⟩ := F.ex
  refine fn_ofG lk hcd S len fun A outer s H vs Q E hgu hr hsp => ?_
  obtain ⟨t, h, q⟩ := body _ cdv A outer s H vs Q E hgu hr hsp
  exact ⟨t, h.nox, q⟩
theorem fn_law {fl : Addr} {fd : FuncData} (T : Tx K mg) (Fl : Fun K "law" "law" s_law fl fd) : FnG P w K mg base CX0 15 fl fd ["_law_script"] (spLaw K) := by
  refine okG Fl sc_law (fun vs H Q E h => ?_) (fun f cdv A0 outer s0 H vs Q E hgu hr h => ?_)
  · obtain ⟨a, ns, rfl, _⟩ := h
    rfl
  · obtain ⟨a, ns, rfl, hsq, k⟩ := h
    refine ⟨_, pss_cons (ps_set (i := 1) sc_law.nd rfl (by first | exact Or.inl rfl | exact Or.inr rfl) (pe_lst (pa_cons (pe_c (cal_law_digits T) hr (by decide) rfl (pa_cons (pv 0) (pa_cons (pe_int) (pa_cons (pe_int) pa_nil)))) (pa_cons (pe_int) pa_nil)))) (pss_cons (ps_set (i := 2) sc_law.nd rfl (by first | exact Or.inl rfl | exact Or.inr rfl) (pe_c (cal_law_table T) hr (by decide) rfl (pa_cons (pv 1) (pa_cons (pe_int) pa_nil)))) (pss_cons (ps_set (i := 3) sc_law.nd rfl (by first | exact Or.inl rfl | exact Or.inr rfl) (pe_mk (mak_Trunk T) hr (by decide) rfl (pa_cons (pe_mk (mak_Tree T) hr (by decide) rfl (pa_cons (pe_c (cal_law_files T) hr (by decide) rfl (pa_cons (pv 2) pa_nil)) pa_nil)) (pa_cons (pe_op op_add (pe_int) (pe_c (cal_law_draw T) hr (by decide) rfl (pa_cons (pv 1) (pa_cons (pe_int) pa_nil)))) (pa_cons (pe_op op_add (pe_int) (pe_c (cal_law_draw T) hr (by decide) rfl (pa_cons (pv 1) (pa_cons (pe_int) pa_nil)))) pa_nil))))) (pss_cons (ps_for PassesOwn.never rfl (pi_range1 rfl (T.free 92) (pa_cons (pe_c (cal_law_draw T) hr (by decide) rfl (pa_cons (pv 1) (pa_cons (pe_int) pa_nil))) pa_nil)) (pg_name (i := 4) sc_law.nd rfl (by first | exact Or.inl rfl | exact Or.inr rfl)) (pss_one (ps_expr (pe_mt (met_Trunk_require T) hr (by decide) (pv 3) (pa_cons (pe_op op_add_str (pe_str) (pe_callTy call_str_int (by rfl) (T.free 95) bv_str (pa_cons (pv 4) pa_nil))) (pa_cons (pe_c (cal_law_check T) hr (by decide) rfl (pa_cons (pv 1) pa_nil)) pa_nil)))))) (pss_cons (ps_set (i := 5) sc_law.nd rfl (by first | exact Or.inl rfl | exact Or.inr rfl) (pe_dnewK)) (pss_cons (ps_for PassesOwn.never rfl (pi_range1 rfl (T.free 92) (pa_cons (pe_int) pa_nil)) (pg_name (i := 6) sc_law.nd rfl (by first | exact Or.inl rfl | exact Or.inr rfl)) (Evl.pss_cut (ps_if (PW.pt (pw_or (PW.pt (pw_and (pt_cmpR op_lt (pe_callB call_lenD (by rfl) (T.free 85) bv_len (pa_cons (pv 5) pa_nil)) (pe_int) (nomark _)) (pw_and1 (pt_cmpR op_eq (pe_c (cal_law_draw T) hr (by decide) rfl (pa_cons (pv 1) (pa_cons (pe_int) pa_nil))) (pe_int) (nomark _))))) (pw_or1 (pt_cmpR (op_eqD0 hr.units0) (pv 5) (pe_dnewK) (nomark _))))) (pss_one (ps_dput (u1 hr) (pv 5) (pe_mt (met_Trunk_begin T) hr (by decide) (pv 3) (pa_cons (pe_str) pa_nil)) (pe_lst (pa_nil)) rfl)) (pss_nil)) (pss_cons (ps_set (i := 7) sc_law.nd rfl (by first | exact Or.inl rfl | exact Or.inr rfl) (pe_ix ix_list (pe_callB (call_sortedDI rfl) (by rfl) (T.free 90) bv_sorted (pa_cons (pv 5) pa_nil)) (pe_c (cal_law_draw T) hr (by decide) rfl (pa_cons (pv 1) (pa_cons (pe_callB call_lenD (by rfl) (T.free 85) bv_len (pa_cons (pv 5) pa_nil)) pa_nil))) (fun _ _ => rfl))) (pss_cons (ps_expr (pe_c (cal_law_acted T) hr (by decide) rfl (pa_cons (pv 1) (pa_cons (pv 3) (pa_cons (pv 7) (pa_cons (pv 5) pa_nil)))))) (pss_cons (ps_set (i := 8) sc_law.nd rfl (by first | exact Or.inl rfl | exact Or.inr rfl) (pe_c (cal_law_draw T) hr (by decide) rfl (pa_cons (pv 1) (pa_cons (pe_int) pa_nil)))) (pss_one (ps_if (pt_cmpR op_eq (pv 8) (pe_int) (nomark _)) (pss_cons (ps_expr (pe_mt (met_Trunk_close T) hr (by decide) (pv 3) (pa_cons (pv 7) pa_nil))) (pss_one (ps_expr (pe_dpop1 (pv 5) (pv 7) ⟨rfl, rfl, rfl, rfl⟩)))) (pss_one (ps_if (pt_cmpR op_lt (pv 8) (pe_int) (nomark _)) (pss_cons (ps_set (i := 9) sc_law.nd rfl (by first | exact Or.inl rfl | exact Or.inr rfl) (pe_lst (pa_cons (pe_mt0 (met_Trunk_version T) hr (by decide) (pv 3)) (pa_cons (pe_mt (met_Trunk_base T) hr (by decide) (pv 3) (pa_cons (pv 7) pa_nil)) (pa_cons (pe_mt (met_Trunk_is_protected T) hr (by decide) (pv 3) (pa_cons (pv 7) pa_nil)) pa_nil))))) (pss_cons (ps_set (i := 10) sc_law.nd rfl (by first | exact Or.inl rfl | exact Or.inr rfl) (pe_mt (met_Trunk_submit T) hr (by decide) (pv 3) (pa_cons (pv 7) (pa_cons (pe_callB call_len_seq (by rfl) (T.free 85) bv_len (pa_cons (pe_dget (u1 hr) (pv 5) (pv 7) (fun _ _ => rfl)) pa_nil)) pa_nil)))) (pss_cons (ps_if (pt_not (pt_val (pe_cG (cal_law_result T) hgu hr (by decide) rfl (pa_cons (pv 3) (pa_cons (pv 7) (pa_cons (pv 5) (pa_cons (pv 10) (pa_cons (pv 9) pa_nil)))))))) (pss_one (ps_ret (pe_bl))) (pss_nil)) (pss_one (ps_if (pt_cmpR op_eq (pe_ix ix_tup (pv 10) (pe_int) (fun _ _ => rfl)) (pe_str) (nomark _)) (pss_one (ps_expr (pe_dpop1 (pv 5) (pv 7) ⟨rfl, rfl, rfl, rfl⟩))) (pss_nil)))))) (pss_nil)))))))))) (pss_one (ps_ret (pe_cG (cal_law_serial T) hgu hr (by decide) rfl (pa_cons (pv 3) (pa_cons (pv 2) pa_nil)))))))))), ?_⟩
    refine ⟨_, rfl, a, ns, rfl, hsq, fun H1 l ms s1 hl0 hl hm => ⟨small (m := 2) (Nat.le_refl 2), fun b hb => ?_⟩⟩
    have nl : l ≠ b := ne_of_none hl hb
    have s2 : Same H1 (upd H1 b (.lst [.ref l, .int 0])) := same_new hb
    have bx2 : BoxAt (upd H1 b (.lst [.ref l, .int 0])) b l := ⟨0, ms, upd_same, nl, s2 _ _ hl, hm⟩
    generalize upd H1 b (.lst [.ref l, .int 0]) = H2 at s2 bx2 ⊢
    refine ⟨_, rfl, b, l, 8, rfl, bx2, by decide, fun H3 tv F kb3 bx3 tb3 gF => ?_⟩
    refine ⟨_, rfl, tv, [], F, rfl, tb3, gF, fun H4 fa s4 hfd => ?_⟩
    obtain ⟨fa', xs, e, hst, hxs⟩ := hfd.tupI
    cases e
    have hxs' : DtAll K H4 xs (((keys F).map (fileOf F)).map dFile) := by
      rw [List.map_map]
      exact hxs
    refine fun tr trd htr0 htrd _ => make_tree2 (.inr hst) hxs' (fs_all gF) gF htr0 htrd fun H5 s5 htr => ⟨rfl, ?_⟩
    have bx5 := (bx3.same s4).same s5
    have tb5 := (tb3.same s4).same s5
    refine ⟨_, rfl, b, l, 4, rfl, by decide, bx5, fun H6 r1 kb6 bx6 hr1 => ⟨_, _, rfl, rfl, ?_⟩⟩
    refine ⟨_, rfl, b, l, 4, rfl, by decide, bx6, fun H7 r2 kb7 bx7 hr2 => ⟨_, _, rfl, rfl, ?_⟩⟩
    have tb7 := (tb5.bk kb6 bx5).bk kb7 bx6
    have tr7 := (htr.bk bx5 kb6 bx6).bk bx6 kb7 bx7
    refine fun p dt hp hdt hne => ⟨p, dt, .ref tr, 1 + (r1 : Int), 1 + (r2 : Int), rfl, upd_same, by omega, by omega, by omega, by omega, fun H8 A N => ⟨rfl, ?_⟩⟩
    have s7 : Same H7 (upd (upd H7 dt (.own p)) p (.ins (CK K) dt [])) := same_mut (same_new hdt) hp
    have hp0 : upd (upd H7 dt (.own p)) p (.ins (CK K) dt []) p = some (.ins (CK K) dt []) := upd_same
    replace N : NewK K (upd (upd H7 dt (.own p)) p (.ins (CK K) dt [])) H8 p dt (.ref tr) A := N
    generalize upd (upd H7 dt (.own p)) p (.ins (CK K) dt []) = H0 at N s7 hp0
    have bx0 := bx7.same s7
    obtain ⟨⟨us, hb0⟩, ⟨us2, hl0'⟩, _⟩ := box_at bx0
    have nbp : b ≠ p := fun z => by
      rw [z, hp0] at hb0
      cases hb0
    have nlp : l ≠ p := fun z => by
      rw [z, hp0] at hl0'
      cases hl0'
    have tb8 := tab_start N hp0 (tb7.same s7)
    have bx8 := box_start N hp0 bx0
    obtain ⟨ro, W8, rb, ro0⟩ := tw_start N hb0 nbp hp0 (tr7.same s7) (fun _ z => nomatch z) (fun _ _ z => ne_kt T (HO.ins.inj z).1) (fun _ z => nomatch z)
    have rl := ro0 l _ hl0' nlp nl
    have cvne : A.ck ≠ A.vd := by
      have := N.ne
      simp only [List.nodup_cons, List.mem_cons, List.not_mem_nil, or_false, not_or, not_false_eq_true, and_true, List.nodup_nil] at this
      exact this.2.2.2.2.2
    have At := N.t
    subst At
    refine ⟨_, rfl, b, l, 3, rfl, by decide, bx8, fun H9 many kb9 bx9 hmany => ?_⟩
    have W9 := W8.mv (go_box rb bx8 kb9 bx9) rfl fun n hn => decide_eq_false (by omega)
    refine ⟨(many : Int), rfl, by omega, by omega, for_range (fun i σ H' => ∃ v4 v5 v6 v7 v8 v9 v10, σ = [some (.ref a), some (.ref b), some tv, some (.ref A.t), v4, v5, v6, v7, v8, v9, v10] ∧ TW K [A.ck, A.vd] ro H' A (startS F i) ∧ BoxAt H' b l ∧ TabAt K [A.ck, A.vd] H' tv F) ⟨_, _, _, _, _, _, _, rfl, W9, bx9, tb8.ev (go_box (K := K) (D := [A.ck, A.vd]) rb bx8 kb9 bx9).ev⟩ ?_ ?_⟩
    · rintro i σ H10 hi ⟨v4, v5, v6, v7, v8, v9, v10, rfl, W10, bx10, tb10⟩
      have hi' : i < many := hi
      obtain ⟨pp, al, rn, htk⟩ := id W10.tk
      have hnm : Str.ofString "c" ++ Str.ofString (toString (0 + (i : Int))) ∈ NMS := by
        have h01 : i = 0 ∨ i = 1 := by omega
        rcases h01 with rfl | rfl
        · decide +kernel
        · decide +kernel
      have hsz : (Str.ofString "c").length + (Str.ofString (toString (0 + (i : Int)))).length ≤ sizeLine := by
        have h01 : i = 0 ∨ i = 1 := by omega
        rcases h01 with rfl | rfl
        · exact small (m := 2) (by decide +kernel)
        · exact small (m := 2) (by decide +kernel)
      have hlog : (0 + (i : Int)).natAbs.log2 < 1920 := by
        have h01 : i = 0 ∨ i = 1 := by omega
        rcases h01 with rfl | rfl
        · decide +kernel
        · decide +kernel
      refine ⟨_, rfl, A.t, A.dt, _, rfl, htk, rfl, _, rfl, _, rfl, hlog, _, _, rfl, rfl, hsz, _, rfl, b, l, rfl, bx10, fun H11 x c kb11 bx11 hx gc => ?_⟩
      have g11 := go_box (K := K) (D := [A.ck, A.vd]) rb bx10 kb11 bx11
      have W11 := W10.mv g11 rfl fun n hn => decide_eq_false (by omega)
      refine ⟨[A.ck, A.vd], ro, A, startS F i, _, x, c, rfl, hnm, W11, cvne, hx, gc, ?_, fun H12 g12 W12 => ?_⟩
      · show i < 4
        omega
      refine ⟨_, _, _, _, _, _, _, rfl, W12, ?_, (tb10.ev g11.ev).ev g12.ev⟩
      obtain ⟨m, ns', q1, q2, q3, q4⟩ := bx11
      exact ⟨m, ns', g12.kp _ _ q1 (by rw [rb]; rfl), q2, g12.kp _ _ q3 (by rw [rl]; rfl), q4⟩
    · rintro σ H10 ⟨v4, v5, v6, v7, v8, v9, v10, rfl, W10, bx10, tb10⟩
      intro td htd
      have iS := startS_inv gF many
      have W11 := W10.freshD 21 (.dK []) htd
      have s11 : Same H10 (upd H10 td (.dK [])) := same_new htd
      have nb11 := bx10.nb htd
      have L0 : LI K A.t b l td tv F 0 1 (upd H10 td (.dK [])) (td :: [A.ck, A.vd]) (setR ro td 21) A (startS F many) := by
        refine ⟨rfl, ⟨W11, iS, bx10.same s11, ?_, ?_, setR_same, List.mem_cons_self, ⟨[], upd_same, List.nodup_nil, fun k v h => ?_, fun i s h => ?_⟩, Nat.zero_le _⟩, (tb10.more htd).same s11, Nat.le_refl _, Nat.le_refl _, rfl⟩
        · rw [setR_ne nb11.1]
          exact rb
        · rw [setR_ne nb11.2]
          exact rl
        · cases h
        · simp [startS] at h
      generalize upd H10 td (.dK []) = H11 at L0
      clear iS W11 s11 nb11 W10 bx10 tb10 htd W9 W8 N tb8 bx8 bx0 tb7 tr7 ro0 rb rl
      generalize td :: [A.ck, A.vd] = D at L0
      generalize setR ro td 21 = ro1 at L0
      generalize startS F many = S1 at L0
      generalize A.t = t at L0
      refine ⟨40, rfl, by decide, by decide, for_range (fun i σ H' => ∃ v4 v6 v7 v8 v9 v10 ro A' S, σ = [some (.ref a), some (.ref b), some tv, some (.ref t), v4, some (.ref td), v6, v7, v8, v9, v10] ∧ LI K t b l td tv F i (i + 1) H' D ro A' S) ⟨_, _, _, _, _, _, _, _, _, rfl, L0⟩ ?_ ?_⟩
      · rintro i σ H12 hi ⟨v4, v6, v7, v8, v9, v10, ro2, A2, S2, rfl, L2⟩
        have hi' : i < 40 := hi
        obtain rfl := L2.t
        refine ⟨fun σ' H' => ∃ v4 v6 v7 v8 v9 v10 ro A' S tks, σ' = [some (.ref a), some (.ref b), some tv, some (.ref A2.t), v4, some (.ref td), v6, v7, v8, v9, v10] ∧ LI K A2.t b l td tv F (i + 1) (i + 1) H' D ro A' S ∧ H' td = some (.dK tks) ∧ tks ≠ [], ?_, ?_⟩
        · obtain ⟨tks, htd, _⟩ := L2.lw.told
          refine if_spec (fun c H' => LI K A2.t b l td tv F i (i + 1) H' D ro2 A2 S2 ∧ H' td = some (.dK tks) ∧ (c = true → tks.length < 6) ∧ (c = false → tks ≠ [])) (fun Qt hq => ?_) ?_
          · have last : ∀ H3 e, LI K A2.t b l td tv F i (i + 1) H3 D ro2 A2 S2 → H3 td = some (.dK tks) → H3 e = none → Qt tks.isEmpty (upd H3 e (.dK [])) := fun H3 e L3 h3 he => by
              have s3 : Same H3 (upd H3 e (.dK [])) := same_new he
              refine hq _ _ ⟨L3.same s3, s3 _ _ h3, fun z => ?_, fun z => ?_⟩
              · cases tks with
                | nil => exact (by decide : (0 : Nat) < 6)
                | cons x y => cases z
              · rintro rfl
                cases z
            refine ⟨_, rfl, td, tks, rfl, htd, _, _, rfl, rfl, _, rfl, ?_⟩
            by_cases h6 : tks.length < 6
            · refine iteP (by omega) ⟨_, rfl, b, l, 3, rfl, by decide, L2.lw.box, fun H3 r kb3 bx3 hr3 => ?_⟩
              have L3 := L2.draw kb3 bx3
              have h3 := kb3 _ _ htd L2.lw.ne
              refine ⟨rfl, _, rfl, ?_⟩
              by_cases hr0 : r = 0
              · refine iteP (by rw [hr0]; rfl) (hq _ _ ⟨L3, h3, fun _ => h6, fun z => nomatch z⟩)
              · refine iteN (fun z => hr0 (by have := V.int.inj z; omega)) ⟨_, rfl, fun e he => ?_⟩
                exact ⟨td, e, tks, rfl, rfl, (same_new he) _ _ h3, upd_same, _, rfl, last H3 e L3 h3 he⟩
            · refine iteN (by omega) ⟨_, rfl, fun e he => ?_⟩
              exact ⟨td, e, tks, rfl, rfl, (same_new he) _ _ htd, upd_same, _, rfl, last H12 e L2 htd he⟩
          rintro c H3 ⟨L3, h3, hc1, hc2⟩
          cases c with
          | false => exact iteEn rfl ⟨_, _, _, _, _, _, ro2, A2, S2, tks, rfl, L3.up (Nat.le_succ i) (Nat.le_refl _), h3, hc2 rfl⟩
          | true =>
            have h6 := hc1 rfl
            refine iteE rfl ⟨small (m := 0) (Nat.le_refl 0), fun q hq => ?_⟩
            have s4 : Same H3 (upd H3 q (.lst [])) := same_new hq
            have L4 := L3.same s4
            have h4 := s4 _ _ h3
            have rq := ro_new L3.lw.tw hq
            have hq4 : upd H3 q (.lst []) q = some (.lst []) := upd_same
            generalize upd H3 q (.lst []) = H4 at L4 h4 hq4 ⊢
            obtain ⟨pp, al, rn, htk⟩ := id L4.lw.tw.tk
            have tl4 := L4.told h4
            have ho := tl4.opens
            have hsi := L4.si
            have ht1 : 1 ≤ S2.trees.length := by
              have := L4.lw.inv.n1
              omega
            refine ⟨_, rfl, _, rfl, A2.t, A2.dt, _, rfl, htk, rfl, D, ro2, A2, S2, _, rfl, by decide +kernel, L4.lw.tw, ht1, by omega, by omega, fun H5 A5 ro5 g5 hr5 tA5 W5 => ?_⟩
            obtain ⟨h5, L5⟩ := L4.begin h4 hq4 rq (by omega) g5 hr5 tA5 W5
            refine ⟨td, _, rfl, DPut.k (k := Sum.inl (S2.ses.length : Int)) h5 (smallt (m := 100) (by omega)), ?_⟩
            refine ⟨_, _, _, _, _, _, ro5, A5, _, _, rfl, L5, upd_same, ?_⟩
            intro z
            have e : valV (putK tks (Sum.inl (S2.ses.length : Int)) (V.ref q)) (Sum.inl (S2.ses.length : Int)) = some (V.ref q) := by
              rw [valV_put, if_pos rfl]
            rw [z] at e
            cases e
        · rintro σ' H13 ⟨v4, v6, v7, v8, v9, v10, ro3, A3, S3, tks, rfl, L3, htd, hne⟩
          have tA := L3.t
          rw [← tA] at L3 ⊢
          clear tA
          have tl3 := L3.told htd
          have hsi := L3.si
          have hlen := tl3.len
          obtain ⟨ks, hks, hkl, hkm⟩ := told_keys tl3
          refine ⟨_, rfl, td, tks, ks, rfl, .inl htd, hks, by omega, fun ys yp perm _ hyp => ?_⟩
          have s4 : Same H13 (upd H13 yp (.lst (ys.map V.int))) := same_new hyp
          have L4 := L3.same s4
          have h4 := s4 _ _ htd
          have hy4 : upd H13 yp (.lst (ys.map V.int)) yp = some (.lst (ys.map V.int)) := upd_same
          have ryp := ro_new L3.lw.tw hyp
          generalize upd H13 yp (.lst (ys.map V.int)) = H14 at L4 h4 hy4 ⊢
          have hpos : 0 < tks.length := List.length_pos_iff.mpr hne
          refine ⟨_, rfl, _, rfl, td, tks, rfl, h4, b, l, tks.length, rfl, hpos, L4.lw.box, fun H15 r kb5 bx5 hr5 => ?_⟩
          have L5 := L4.draw kb5 bx5
          have h5 := kb5 _ _ h4 L4.lw.ne
          have hy5 := kb5 _ _ hy4 fun z => by
            have := L4.lw.rb
            rw [← z, ryp] at this
            cases this
          have hyl : ys.length = tks.length := by rw [perm.length_eq, hkl]
          obtain ⟨z, hz⟩ : ∃ z, ys[r]? = some z := ⟨_, List.getElem?_eq_getElem (by omega)⟩
          obtain ⟨n, s, rfl, hn, ho⟩ := hkm z (perm.mem_iff.mp (List.mem_of_getElem? hz))
          refine ⟨yp, _, (r : Int), .int (n : Int), rfl, rfl, .inl (.inl hy5), atI_nat (by rw [List.getElem?_map, hz]; rfl), ?_⟩
          refine ⟨_, rfl, _, rfl, _, rfl, _, rfl, D, ro3, A3, S3, b, l, td, n, s, rfl, L5.lw, hn, ho, fun H16 S6 s6 g6 lw6 e1 e2 e3 hn6 ho6 => ?_⟩
          have L6 := L5.acted g6 lw6 e1 e3
          clear L5 h5 hy5 L4 h4 hy4 L3 tl3
          refine ⟨_, rfl, b, l, 9, rfl, by decide, L6.lw.box, fun H17 kind kb7 bx7 hkind => ?_⟩
          have L7 := L6.draw kb7 bx7
          clear L6 lw6 g6 kb7 bx7
          obtain ⟨tks7, h7, tl7⟩ := L7.lw.told
          obtain ⟨pp, al, rn, htk⟩ := id L7.lw.tw.tk
          obtain ⟨la, es, hv, rla, hes, hed, hel⟩ := tl7.at hn6 ho6
          have n1 := L7.lw.inv.n1
          have hlt6 := (List.getElem?_eq_some_iff.mp hn6).1
          refine ⟨_, rfl, rfl, _, rfl, ?_⟩
          by_cases hk0 : kind = 0
          · refine iteP (by rw [hk0]; rfl) ?_
            refine ⟨_, rfl, A3.t, A3.dt, _, rfl, htk, rfl, _, rfl, D, ro3, A3, S6, n, s6, rfl, L7.lw.tw, hn6, ho6, fun H8 g8 W8 => ?_⟩
            have hnc : (closedS S6 n s6).ses[n]? = some ⟨s6.base, s6.j, 1⟩ := List.getElem?_set_self hlt6
            obtain ⟨h8, L8⟩ := L7.popped (k' := i + 1) h7 g8 W8 (L7.lw.inv.closed hn6) (n := n) same_set hnc (fun z => nomatch z) (List.length_set) L7.tk L7.t0 (Same.refl H8)
            refine ⟨_, rfl, td, rfl, .inl ⟨_, .inl h8⟩, _, rfl, tks7, Sum.inl (n : Int), .ref la, h8, rfl, hv, ?_⟩
            exact ⟨_, _, _, _, _, _, ro3, A3, _, rfl, L8.up (Nat.le_refl _) (Nat.le_succ _)⟩
          · refine iteN (fun z => hk0 (by have := V.int.inj z; omega)) ⟨_, rfl, _, _, rfl, rfl, _, rfl, ?_⟩
            by_cases hk6 : kind < 6
            · refine iteP (by omega) ?_
              have iS7 := L7.lw.inv
              obtain ⟨nv, hnv⟩ : ∃ nv, nv + 1 = S6.trees.length := ⟨S6.ents.length, n1.symm⟩
              have hi1 : S6.trees.length ≤ i + 1 := L7.tk
              refine ⟨_, rfl, A3.t, A3.dt, _, rfl, htk, rfl, D, ro3, A3, S6, rfl, L7.lw.tw, by omega, fun nv' hnv' => ?_⟩
              obtain rfl : nv' = nv := by omega
              refine ⟨_, rfl, A3.t, A3.dt, _, rfl, htk, rfl, _, rfl, D, ro3, A3, S6, n, s6, rfl, L7.lw.tw, hn6, ?_⟩
              refine ⟨_, rfl, A3.t, A3.dt, _, rfl, htk, rfl, _, rfl, D, ro3, A3, S6, n, s6, rfl, L7.lw.tw, hn6, fun pt hpt => ?_⟩
              refine ⟨small (m := 3) (Nat.le_refl 3), fun bf hbf => ?_⟩
              have s8 : Same H17 (upd H17 bf (.lst [.int (nv' : Int), .int (s6.base : Int), .bl pt])) := same_new hbf
              have rbf := ro_new L7.lw.tw hbf
              have hbf8 : upd H17 bf (.lst [.int (nv' : Int), .int (s6.base : Int), .bl pt]) bf = some (.lst [.int (nv' : Int), .int (s6.base : Int), .bl pt]) := upd_same
              have L8 := L7.same s8
              have h8 := s8 _ _ h7
              have hes8 := s8 _ _ hes
              have hed8 := hed.same s8
              have htk8 := s8 _ _ htk
              generalize upd H17 bf (.lst [.int (nv' : Int), .int (s6.base : Int), .bl pt]) = H18 at L8 h8 hes8 hed8 htk8 hbf8 ⊢
              clear hes hed htk h7 tl7 hbf
              have dg : ∀ {H' : Hp}, H' td = some (.dK tks7) → DGet H' td (.int (n : Int)) (some (.ref la)) := fun h => by
                have q := DGet.k (k := Sum.inl (n : Int)) h
                rw [hv] at q
                exact q
              obtain ⟨gj, Fb, hFb, hhb⟩ := iS7.se n s6 hn6
              obtain ⟨Fn, hFn⟩ : ∃ Fn, S6.trees[S6.ents.length]? = some Fn := ⟨_, List.getElem?_eq_getElem (by omega)⟩
              have gFn := iS7.tr Fn (List.mem_of_getElem? hFn)
              have htl : tks7.length ≤ 100 := by
                have := (L8.told h8).len
                have := L8.si
                omega
              have mvf : ∀ {H' : Hp}, Go K D ro3 X50 H18 H' → H' td = some (.dK tks7) ∧ H' la = some (.lst es) ∧ DtAll K H' es (s6.j.map dE) ∧ H' bf = some (.lst [.int (nv' : Int), .int (s6.base : Int), .bl pt]) := fun g =>
                ⟨(L8.lw.trunk g).2 _ h8, g.kp _ _ hes8 (by rw [rla]; rfl), hed8.tx g.ev.t, g.kp _ _ hbf8 (by rw [rbf]; rfl)⟩
              refine ⟨_, rfl, A3.t, A3.dt, _, rfl, htk8, rfl, _, rfl, _, rfl, _, rfl, td, .ref la, rfl, dg h8, la, es, rfl, .inl (.inl (.inl hes8)), D, ro3, A3, S6, n, s6, Fn, by rw [hel]; rfl, L8.lw.tw, iS7, L8.lw.sm, by omega, hn6, ho6, hFn, ?_, ?_, ?_, ?_⟩
              · intro H9 S9 ra g9 W9 m9 hra
                obtain ⟨htd9, hes9, hed9, hbf9⟩ := mvf g9
                obtain ⟨q', q1, q2, q3⟩ := m9.ses n ⟨s6.base, s6.j, 2⟩ (List.getElem?_set_self hlt6)
                have hq2 : q'.op = 2 := q3
                have et9 : S9.trees.length = nv' + 2 := by
                  rw [m9.trees, List.length_append]
                  show S6.trees.length + 1 = _
                  omega
                have en9 : S9.ents[nv']? = some s6.j := by
                  have e : nv' = S6.ents.length := by omega
                  rw [m9.ents, e]
                  show (S6.ents ++ [s6.j])[S6.ents.length]? = _
                  rw [List.getElem?_append_right (Nat.le_refl _), Nat.sub_self]
                  rfl
                have e09 : S9.trees[0]? = some F := by
                  rw [m9.trees]
                  show (S6.trees ++ _)[0]? = _
                  rw [List.getElem?_append_left (by omega)]
                  exact L8.t0
                have el9 : S9.ses.length = S6.ses.length := by
                  rw [m9.len]
                  show (S6.ses.set n _).length = _
                  rw [List.length_set]
                refine ⟨_, rfl, _, rfl, _, rfl, _, rfl, _, rfl, D, ro3, A3, S9, td, ra, bf, la, n, nv', s6.base, s6, pt, tks7, es, rfl, W9, htd9, htl, hv, hes9, hed9, gj, hbf9, L8.lw.rt, L8.lw.tdD, .inl ⟨by rw [hnv]; exact hra, et9, m9.inv.n1, en9, ⟨q', q1, hq2⟩, fun H10 s10 => ⟨_, rfl, iteEn rfl ?_⟩⟩⟩
                obtain ⟨h10, L10⟩ := L8.popped (k' := i + 2) h8 g9 W9 m9.inv (made_same m9) q1 (by rw [hq2]; decide) el9 (by omega) e09 s10
                refine ⟨_, rfl, ra, _, 0, _, rfl, rfl, .inl (.inl (s10 _ _ hra)), rfl, rfl, _, rfl, iteP rfl ?_⟩
                refine ⟨_, rfl, td, rfl, .inl ⟨_, .inl h10⟩, _, rfl, tks7, Sum.inl (n : Int), .ref la, h10, rfl, hv, ?_⟩
                exact ⟨_, _, _, _, _, _, ro3, A3, _, rfl, L10⟩
              · intro H9 S9 ra kk r y m g9 W9 r9 hch hra hy hm1 hm2
                obtain ⟨htd9, hes9, hed9, hbf9⟩ := mvf g9
                obtain ⟨_, e, he, her, _⟩ := change_some hch
                rw [Nat.sub_zero] at he
                have gr : GoodR r := change_good gFn (fun e he => (gj.1 e he).a) hch
                have hpf : pt = false := by
                  cases pt with
                  | false => rfl
                  | true =>
                    obtain ⟨hp, r', hline⟩ := hpt.mp rfl
                    have := iS7.pr hp n r' hline s6 hn6
                    omega
                have et9 : S9.trees.length = nv' + 1 := by
                  rw [r9.trees]
                  exact hnv.symm
                have hn9 : S9.ses[n]? = some ⟨nv', s6.j.take kk, 0⟩ := by
                  have e : S6.trees.length - 1 = nv' := by omega
                  rw [r9.ses, List.getElem?_set_self hlt6, e]
                have el9 : S9.ses.length = S6.ses.length := by rw [r9.ses, List.length_set]
                have e09 : S9.trees[0]? = some F := by
                  rw [r9.trees]
                  exact L8.t0
                refine ⟨_, rfl, _, rfl, _, rfl, _, rfl, _, rfl, D, ro3, A3, S9, td, ra, bf, la, n, nv', s6.base, s6, pt, tks7, es, rfl, W9, htd9, htl, hv, hes9, hed9, gj, hbf9, L8.lw.rt, L8.lw.tdD, .inr (.inl ⟨kk, m, r, y, e, hra, et9, hpf, hm1, by omega, he, her, hy, gr, hn9, fun H10 a' H11 s10 ha0 ha1 s11 => ⟨_, rfl, iteEn rfl ?_⟩⟩)⟩
                have hed10 : DtAll K H10 (es.take kk) ((s6.j.take kk).map dE) := by
                  rw [List.map_take]
                  exact (hed9.take kk).same s10
                have L11 := L8.put (S' := S9) (k' := i + 2) h8 g9 W9 r9.inv (ref_same r9) hn9 rfl el9 (by omega) e09 s10 ha0 ha1 hed10 s11
                have hra10 := s10 _ _ hra
                have htd10 := s10 _ _ htd9
                have nrt : ra ≠ td := ne_of hra10 htd10 (by intro z; cases z)
                have hra11 := s11 ra _ (by rw [upd_ne nrt]; exact hra10)
                refine ⟨_, rfl, ra, _, 0, _, rfl, rfl, .inl (.inl hra11), rfl, rfl, _, rfl, iteN (by decide +kernel) ?_⟩
                exact ⟨_, _, _, _, _, _, ro3, A3, _, rfl, L11⟩
              · intro H9 S9 ra g9 W9 i9 t9 en9 se9 nc9 hln hra
                obtain ⟨htd9, hes9, hed9, hbf9⟩ := mvf g9
                have hpf : pt = false := by
                  cases pt with
                  | false => rfl
                  | true =>
                    obtain ⟨hp, r', hline⟩ := hpt.mp rfl
                    exact absurd hline (hln r')
                refine ⟨_, rfl, _, rfl, _, rfl, _, rfl, _, rfl, D, ro3, A3, S9, td, ra, bf, la, n, nv', s6.base, s6, pt, tks7, es, rfl, W9, htd9, htl, hv, hes9, hed9, gj, hbf9, L8.lw.rt, L8.lw.tdD, .inr (.inr ⟨"waiting", [], hra, .inl ⟨rfl, hpf⟩, by rw [t9]; exact hnv.symm, ⟨s6, by rw [se9]; exact hn6, rfl, rfl⟩, fun H10 s10 => ⟨_, rfl, iteEn rfl ?_⟩⟩)⟩
                refine ⟨_, rfl, ra, _, 0, _, rfl, rfl, .inl (.inl (s10 _ _ hra)), rfl, rfl, _, rfl, iteN (by decide +kernel) ?_⟩
                exact ⟨_, _, _, _, _, _, ro3, A3, _, rfl, ((L8.stay g9 W9 i9 se9 t9).same s10).up (Nat.le_refl _) (Nat.le_succ _)⟩
              · intro H9 ra v g9 W9 hra
                obtain ⟨htd9, hes9, hed9, hbf9⟩ := mvf g9
                refine ⟨_, rfl, _, rfl, _, rfl, _, rfl, _, rfl, D, ro3, A3, S6, td, ra, bf, la, n, nv', s6.base, s6, pt, tks7, es, rfl, W9, htd9, htl, hv, hes9, hed9, gj, hbf9, L8.lw.rt, L8.lw.tdD, .inr (.inr ⟨"failed", [v], hra, .inr rfl, hnv.symm, ⟨s6, hn6, rfl, rfl⟩, fun H10 s10 => ⟨_, rfl, iteEn rfl ?_⟩⟩)⟩
                refine ⟨_, rfl, ra, _, 0, _, rfl, rfl, .inl (.inl (s10 _ _ hra)), rfl, rfl, _, rfl, iteN (by decide +kernel) ?_⟩
                exact ⟨_, _, _, _, _, _, ro3, A3, _, rfl, ((L8.stay g9 W9 iS7 rfl rfl).same s10).up (Nat.le_refl _) (Nat.le_succ _)⟩
            · refine iteN (by omega) ?_
              exact ⟨_, _, _, _, _, _, ro3, A3, _, rfl, L7.up (Nat.le_refl _) (Nat.le_succ _)⟩
      · rintro σ H12 ⟨v4, v6, v7, v8, v9, v10, ro2, A2, S2, rfl, L2⟩
        have h40 : ((40 : Int)).toNat = 40 := rfl
        rw [h40] at L2
        obtain rfl := L2.t
        refine ⟨_, rfl, _, rfl, D, ro2, A2, S2, tv, F, rfl, L2.lw.tw, L2.lw.inv, ?_, L2.tab, L2.t0, fun H13 _ => k H13⟩
        have := L2.tk
        omega
end
end Sa
/-! text I2 -/
/-! the end: the law is called from the caller, where no repr is under way (guards are none) -/
namespace Sa
open PySem PySem.Spec L2 PyProof.Rows
abbrev lstO (vs : List Value) : Obj := { cls := .type "list", data := .seq vs.toArray }
section
variable {P : Program} {w : World} {K : PySem.W.Frag} {mg mb : Str → Option Value} {k : Nat} {fa a : Addr} {fd : FuncData} {x : Str} {sp : Sp} {s : Shared} {vs : List Value} {ns : List Int} {H : Hp}
/-- a namespace is no list: it is left to the base -/
theorem ns_base {b : Addr} {m : Str → Option Value} (ha : s.heap.get? a = some (lstO vs)) (hA : ∀ b, H b ≠ none → b = a) (n : s.heap.Ns b m) : (hidT s.heap H).Ns b m := by
  obtain ⟨o, es, ep, e, d, r⟩ := n
  refine ⟨o, es, ep, hidT_get e ?_, d, r⟩
  cases q : H b with
  | none => rfl
  | some u =>
    have z := hA b (by rw [q]; exact Option.some_ne_none u)
    rw [z, ha] at e
    cases e
    have d' : Data.seq vs.toArray _ = Data.dict es ep := d
    cases d'
theorem k_base (KX : K.In s.heap) (hA : ∀ b, H b ≠ none → b = a) (hK : H a ≠ none → K.lookup a = none) : K.In (hidT s.heap H) := fun b o e => hidT_get (KX b o e) (by
  cases q : H b with
  | none => rfl
  | some u =>
    have z := hA b (by rw [q]; exact Option.some_ne_none u)
    rw [z] at q e
    rw [hK (by rw [q]; exact Option.some_ne_none u)] at e
    cases e)
/-- the call, from a heap that tracks the script at most -/
theorem call_at (KX : K.In s.heap) (hns : s.heap.Ns mainGlobals mg) (hb : s.heap.Ns builtinsNs mb) (hbb : ∀ x : Str, x ≠ "__name__" → mb x = bootBuiltins x) (hlim : s.heap.NoLimit) (hg : s.gens = #[]) (ha : s.heap.get? a = some (lstO vs)) (hr : Room k callerA)
    (F : ∀ base : Heap, K.In base → base.Ns mainGlobals mg → FnG P w K mg base CX0 k fa fd [x] sp) (hbind : ∀ u : Value, BindsTo s fd ⟨[u], []⟩ [(x, u)])
    (hsp : sp [.ref a] H (fun v _ => v = .bl true) fun _ _ _ => False) (hO : Only H) (hok : HOk P w H s.heap) (hA : ∀ b, H b ≠ none → b = a) (hK : H a ≠ none → K.lookup a = none) :
    codeAny (model P w) callerA (.call (.ref fa) ⟨[.ref a], []⟩) (fun r s' => r = .ok (.ret (.bool true)) ∧ OldK s.heap s'.heap ∧ s'.os = s.os ∧ AllBare s'.gens) s := by
  have kb := k_base KX hA hK
  have nb := fun {b m} (n : s.heap.Ns b m) => ns_base (H := H) ha hA n
  have md : Mod K mg (hidT s.heap H) := ⟨kb, nb hns, ⟨mb, nb hb, hbb⟩, let ⟨mc, h1, h2⟩ := hlim; ⟨mc, nb h1, h2⟩⟩
  have e0 : Env0 P w K mg (hidT s.heap H) callerA [] s H := ⟨rfl, md, fun b o e => of_hidT e, Nat.le_of_eq (hidT_size _ _), trivial, fun b hb => (List.not_mem_nil hb).elim, hok, .of_eq hg⟩
  refine codeAny_mono ((F _ kb (nb hns)).run callerA [] s H ⟨[.ref a], []⟩ [.ref a] [.ref a] _ _ rfl hr e0 (hbind (.ref a)) (.cons rfl .nil) hsp) fun r s' h => ?_
  match r, h with
  | .error e, h => exact False.elim h
  | .ok .next, h => exact False.elim h
  | .ok .brk, h => exact False.elim h
  | .ok .cont, h => exact False.elim h
  | .ok (.ret u), h =>
    obtain ⟨v, H', os, bare, un, hok', r', q⟩ := h
    have q' : v = .bl true := q
    subst q'
    obtain rfl : u = Value.bool true := r'
    refine ⟨rfl, OldK.of_keep fun b o e => ?_, os, bare⟩
    rcases hO b with z | ⟨ob, xs, z⟩
    · exact un.keep b o e z (fun z => List.not_mem_nil (show b ∈ ([] : List Addr) from z)) (by simp)
    · obtain ⟨e1, _⟩ := hok b _ z
      obtain ⟨e2, _⟩ := hok' b _ (un.frzs b ob _ z)
      rw [e] at e1
      cases e1
      exact e2
/-- the call -/
theorem call_end (KX : K.In s.heap) (hns : s.heap.Ns mainGlobals mg) (hb : s.heap.Ns builtinsNs mb) (hbb : ∀ x : Str, x ≠ "__name__" → mb x = bootBuiltins x) (hlim : s.heap.NoLimit) (hg : s.gens = #[]) (ha : s.heap.get? a = some (lstO vs)) (hi : IntsAre vs ns) (hl : ns.length ≤ sizeLine) (hr : Room k callerA)
    (F : ∀ base : Heap, K.In base → base.Ns mainGlobals mg → FnG P w K mg base CX0 k fa fd [x] sp) (hbind : ∀ u : Value, BindsTo s fd ⟨[u], []⟩ [(x, u)])
    (hsp : ∀ H : Hp, Only H → SqL K H a (ns.map V.int) → sp [.ref a] H (fun v _ => v = .bl true) fun _ _ _ => False) :
    codeAny (model P w) callerA (.call (.ref fa) ⟨[.ref a], []⟩) (fun r s' => r = .ok (.ret (.bool true)) ∧ OldK s.heap s'.heap ∧ s'.os = s.os ∧ AllBare s'.gens) s := by
  have rv := vals_ints hi
  have lenV := hi.length
  cases hk : K.lookup a with
  | some o =>
    have e := KX a o hk
    rw [ha] at e
    cases e
    have hO : Only fun _ => none := fun _ => .inl rfl
    exact call_at (H := fun _ => none) KX hns hb hbb hlim hg ha hr F hbind (hsp _ hO (.inr ⟨_, vs.toArray, _, hk, rfl, rfl, rfl, by rw [List.size_toArray, lenV]; exact hl, by simpa using rv⟩)) hO (fun b u z => nomatch z) (fun b z => absurd rfl z) fun z => absurd rfl z
  | none =>
    let T : Hp := fun b => if b = a then some (.frz (lstO vs) (.lst (ns.map V.int))) else none
    have ts : T a = some (.frz (lstO vs) (.lst (ns.map V.int))) := if_pos rfl
    have tn : ∀ b, b ≠ a → T b = none := fun b n => if_neg n
    have hO : Only T := fun b => by
      by_cases z : b = a
      · exact .inr ⟨_, _, by rw [z]; exact ts⟩
      · exact .inl (tn b z)
    refine call_at (H := T) KX hns hb hbb hlim hg ha hr F hbind (hsp T hO (.inl (.inr ⟨_, ts⟩))) hO (fun b u z => ?_) (fun b z => ?_) fun _ => hk
    · by_cases hb : b = a
      · rw [hb, ts] at z
        cases z
        rw [hb]
        exact ⟨ha, by rw [List.length_map]; exact hl, vs, _, rv, ha⟩
      · rw [tn b hb] at z
        cases z
    · by_cases hb : b = a
      · exact hb
      · exact absurd (tn b hb) z
end
/-- a law over a head by facts -/
theorem walk_G {l : PySem.W.OpenLaw} {n k : Nat} {q : Program} {loose : List Str} {XP : (Str → Option Value) → Heap → Prop} {YP : World → Heap → Prop} {d : DefRec} {x : Str} (hn : l.most = some n) (hn2 : n ≤ sizeLine) (hdf : d.params.defaults = []) (hr : Room k callerA)
    (F : ∀ (w : World) (mg : Str → Option Value) (fa : Addr) (h : Heap), YP w h → h.Ns mainGlobals mg → mg d.name = some (.ref fa) →
      ∃ (K : PySem.W.Frag) (fd : FuncData) (sp : Sp), K.In h ∧ (∀ (s : Shared) (u : Value), BindsTo s fd ⟨[u], []⟩ [(x, u)]) ∧ (∀ (H : Hp) (a : Addr) (ns : List Int), SqL K H a (ns.map V.int) → sp [.ref a] H (fun v _ => v = .bl true) fun _ _ _ => False) ∧
        ∀ base : Heap, K.In base → base.Ns mainGlobals mg → FnG l.prog w K mg base CX0 k fa fd [x] sp) : PySem.W.WalkO q loose XP YP l.row.toRowW d [] (fun f vs => PySem.call f vs) := by
  refine Att.attach_call hn hdf fun w s0 s1 mg mb fa o pm cd doc a vs ns G Y ho hd hcd hmg hobj hints hlen hg => ?_
  obtain ⟨K, fd, sp, KX, hb, hsp, hF⟩ := F w mg fa _ Y G.T.g hmg
  exact call_end KX G.T.g G.T.b G.T.builtins G.T.nolimit hg hobj hints (Nat.le_trans hlen hn2) hr hF (hb s1) fun H _ hS => hsp H a ns hS
theorem law_facts {P : Program} {w : World} {K : PySem.W.Frag} {h : Heap} {mg : Str → Option Value} {f : Addr} (X : K.In h) (G : h.Ns mainGlobals mg) (hfa : mg ("law" : Str) = some (.ref f)) (c : HkL.Says Sa.fa Sa.fn K) :
    ∃ fd : FuncData, (∀ (s : Shared) (v : Value), BindsTo s fd ⟨[v], []⟩ [("_law_script", v)]) ∧ ∀ base : Heap, K.In base → base.Ns mainGlobals mg → FnG P w K mg base CX0 15 f fd ["_law_script"] (spLaw K) := by
  have T : Tx K mg := ⟨c, h, X, G⟩
  obtain ⟨fd, F⟩ := T.fun_ 92 (f_at (x := "law") rfl)
  have e := hfa.symm.trans (T.glo 54 (x := "law") (g_at rfl))
  cases e
  refine ⟨fd, fun s v => ?_, fun base _ _ => fn_law T F⟩
  obtain ⟨oc, od, kV, doc, pm, an, cdv, ct, osl, rfl, lk, hcd⟩ := F.ex
  exact .of_eq rfl
end Sa
/-! text Head -/
/-! The run of the top. Printed by gen_head.py. -/
namespace Sa
open PySem PySem.Spec PyProof.Rows L2
abbrev RR : PySem.W.OpenRow := PySem.W.OpenLaw.row PySem.Challenge.rw_sameanswers_k37_trunk_is_a_serial_run
abbrev hk : PySem.W.Hook := HkL.hookL fa fn
def ob (s : PySem.W.SharedT) : HkL.Al := HkL.obsL fa fn (HandSHeadRun.getT s)
theorem ob_eq (s : PySem.W.SharedT) : ob s = hk.obs s.abs := HkL.obsL_eq (HandSHeadRun.getT_eq s)
theorem run (w : World) : HandSHeadRun.RunEq RR (PySem.W.view RR.prog [100]) hk ob 20000 loose w := by
  intro os
  kernel_rfl
end Sa
/-! text I3 -/
/-! the claim -/
open PySem PySem.W PySem.Calls PyProof.Rows
theorem PySem.Challenge.cw_sameanswers_k37_trunk_is_a_serial_run_holds : PySem.Challenge.rw_sameanswers_k37_trunk_is_a_serial_run.Holds := by
  w_on; o_law
  refine HandSHeadRun.head_any (r := OpenLaw.row PySem.Challenge.rw_sameanswers_k37_trunk_is_a_serial_run) (q := view (OpenLaw.row PySem.Challenge.rw_sameanswers_k37_trunk_is_a_serial_run).prog [100]) (H := Sa.hk) (ob := Sa.ob) (M := 20000) (loose := Sa.loose) (d := HandSHeadRun.topDef (OpenLaw.row PySem.Challenge.rw_sameanswers_k37_trunk_is_a_serial_run).prog 100) (kwd := []) Sa.ob_eq
    (by kernel_rfl) (fun s => by kernel_rfl) Sa.run (by kernel_rfl) (by kernel_rfl) (by kernel_rfl) (by rfl) (by first | assumption | decide +kernel) (by decide +kernel) ⟨rfl, rfl, rfl, rfl, rfl, by decide +kernel⟩ ?hw ?hc
  case hw => w_witness2
  case hc =>
    refine Sa.walk_G (l := PySem.Challenge.rw_sameanswers_k37_trunk_is_a_serial_run) (n := 63) (k := 15) (x := "_law_script") rfl (by decide) (by kernel_rfl) ⟨rfl, by decide, by decide⟩ ?F
    intro w mg fa h Y G hmg0
    obtain ⟨K, KX, c⟩ := Y
    have hmg : mg ("law" : PySem.Str) = some (.ref fa) := by
      have e : (HandSHeadRun.topDef (OpenLaw.row PySem.Challenge.rw_sameanswers_k37_trunk_is_a_serial_run).prog 100).name = ("law" : PySem.Str) := by kernel_rfl
      rw [← e]
      exact hmg0
    obtain ⟨fd, hb, hF⟩ := Sa.law_facts (P := (PySem.Challenge.rw_sameanswers_k37_trunk_is_a_serial_run).prog) (w := w) KX G hmg c
    exact ⟨K, fd, Sa.spLaw K, KX, hb, fun H a ns hS => ⟨a, ns, rfl, hS, fun _ => rfl⟩, hF⟩
