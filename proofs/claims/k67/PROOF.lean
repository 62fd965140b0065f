import PyProof.Rows.All
import Wide.All
import OpenK.AllK
import Wide.FinOn
import HandS.ForMost
import HandS.Star
import HandS.Walk
import HandS.Zip
import HandS.IsInst
import HandS.Property
import HandS.TupAny
import HandS.Style
import HandS.Wide
import HandS.WideBits
import HandS.Flow
import HandS.OwnEq
import HandS.ClsMeth
import HandS.Defaults
import KE.KOpsOwn
import HandS.SlotsOwn
import HandS.Head0
import HandS.Head1
import HandS.Head2
import HandS.HeadEnd
import HandS.HeadHook1
import HandS.HeadHook2
import KE.KAssignIn
import PyProof.NeKinds
import KE.GoesEnum
import KE.KRevSl
import HandS.ExcValue
import HandS.RevTup
import KE.KDictZip
import HandS.TryOnly
import KE.KCallOwn
import HandS.FStr
import HandS.Text
import HandS.GenList
import HandS.Nested
import KE.KSuper
import HandS.GenCall
import PySem.Challenge.RW_tonestacks_k67_whole_written_read_and_la
set_option Elab.async false
set_option linter.all false
set_option maxRecDepth 100000
set_option maxHeartbeats 4000000
namespace PL
open PySem PySem.Spec
open PyProof.Rows hiding St
open L2

/-! ### the head's facts, by paths -/
abbrev Fg := PySem.W.Frag
/-- a def: where it stands, its name, qualified name, parameters, body, scope, defaults -/
structure DefP where
  at_ : Fg → Addr
  name : Str
  qual : Str
  params : Arguments
  body : List Stmt
  scope : Scope
  dfl : List He.Dv := []
  kwd : List (Str × He.Dv) := []
def recHead (K : Fg) (p : Addr) (T : String) : Addr := match PySem.W.recIn K p T with
  | some (.ref g :: _) => g
  | _ => 0
def aGlo (x : Str) : Fg → Addr := fun K => He.ga K x
def aMet (C m : Str) : Fg → Addr := fun K => He.ma K (He.ga K C) m
def aRec (C m : Str) (T : String) : Fg → Addr := fun K => recHead K (He.ma K (He.ga K C) m) T
def fnP (K : Fg) (a : Addr) : He.FnW := match K.lookup a with
  | some ⟨_, _, .func fd, _⟩ => some (fd.name, fd.qualname, fd.params, fd.body, fd.scope, fd.globals, fd.closure, fd.builtins)
  | _ => none
def DefP.val (d : DefP) : He.FnW := some (d.name, d.qual, d.params, .stmts d.body, d.scope, mainGlobals, [], builtinsNs)
def DefP.dvs (K : Fg) (d : DefP) : List V := d.dfl.map (He.Dv.v K)
def DefP.kws (K : Fg) (d : DefP) : List (Str × V) := d.kwd.map fun q => (q.1, q.2.v K)
def DefP.ok (K : Fg) (d : DefP) : Bool := PySem.W.keepIn K (.ref (d.at_ K)) && (match K.lookup (d.at_ K) with
  | some ⟨_, _, .func fd, _⟩ => PySem.W.codeIn K fd.code d.qual && (He.dflB K fd.defaults (d.dvs K) && He.kwdB K fd.kwdefaults (d.kws K))
  | _ => false)
theorem DefP.funD {K : Fg} {d : DefP} (e : fnP K (d.at_ K) = d.val) (c : d.ok K = true) : ∃ fd, FunD K d.name d.qual d.params d.body d.scope (d.dvs K) (d.kws K) (d.at_ K) fd := by
  obtain ⟨kp, c2⟩ := He.ba c
  unfold fnP at e
  cases q : K.lookup (d.at_ K) with
  | none =>
    rw [q] at c2
    cases c2
  | some o =>
    obtain ⟨oc, od, dt, osl⟩ := o
    rw [q] at c2 e
    cases dt with
    | func fd =>
      obtain ⟨n1, n2, n3, n4, n5, n6, n7, n8, n9, n10, n11, n12, n13, n14, n15⟩ := fd
      have e2 : (some (n1, n2, n3, n4, n5, n6, n7, n15) : He.FnW) = some (d.name, d.qual, d.params, .stmts d.body, d.scope, mainGlobals, [], builtinsNs) := e
      simp only [Option.some.injEq, Prod.mk.injEq] at e2
      obtain ⟨h1, h2, h3, h4, h5, h6, h7, h8⟩ := e2
      subst h1 h2 h3 h4 h5 h6 h7 h8
      have c3 : (PySem.W.codeIn K n13 d.qual && (He.dflB K n8 (d.dvs K) && He.kwdB K n9 (d.kws K))) = true := c2
      obtain ⟨k1, k2⟩ := He.ba c3
      obtain ⟨k3, k4⟩ := He.ba k2
      exact ⟨_, ⟨oc, od, n8, n9, n10, n11, n12, n13, n14, osl, rfl, q, k1, He.dflB_ok k3, He.kwdB_ok k4⟩, kp⟩
    | _ => cases c2
abbrev AlP : Type := Bool × List He.FnW
def obsP (ex : List (Fg → Bool)) (fn : List DefP) (K : Fg) : AlP := ((ex.all fun f => f K) && fn.all fun d => d.ok K, fn.map fun d => fnP K (d.at_ K))
def valP (fn : List DefP) : AlP := (true, fn.map DefP.val)
def SaysP (ex : List (Fg → Bool)) (fn : List DefP) (K : Fg) : Prop := obsP ex fn K = valP fn
def obsPG (n : Nat) (ex : List (Fg → Bool)) (fn : List DefP) (g : Addr → Option Obj) : AlP := obsP ex fn (He.frG g (cStatics :: He.asD g n))
def hookP (n : Nat) (ex : List (Fg → Bool)) (fn : List DefP) : PySem.W.Hook where
  α := AlP
  obs := fun s => obsPG n ex fn s.heap.get?
  val := fun _ => valP fn
  says := fun _ h => ∃ K : Fg, K.In h ∧ SaysP ex fn K
  of := fun _ _ e => ⟨_, He.frG_in, e⟩
  keeps := fun _ _ _ ⟨K, hK, c⟩ k => ⟨K, PySem.W.Frag.In.keeps hK k, c⟩
/-- the fragment, put in order before it is looked at -/
def frK {α : Type} : List (Addr × Obj) → (List (Addr × Obj) → α) → α
  | [], k => k []
  | (a, o) :: t, k => HandSHeadRun.frNat a fun a' => frK t fun t' => k ((a', o) :: t')
/-- .. of the objects at some addresses -/
def obsLG (as : List Addr) (ex : List (Fg → Bool)) (fn : List DefP) (g : Addr → Option Obj) : AlP := frK (He.frG g as) fun K => obsP ex fn K
def hookL (as : List Addr) (ex : List (Fg → Bool)) (fn : List DefP) : PySem.W.Hook where
  α := AlP
  obs := fun s => obsP ex fn (He.frG s.heap.get? as)
  val := fun _ => valP fn
  says := fun _ h => ∃ K : Fg, K.In h ∧ SaysP ex fn K
  of := fun _ _ e => ⟨_, He.frG_in, e⟩
  keeps := fun _ _ _ ⟨K, hK, c⟩ k => ⟨K, PySem.W.Frag.In.keeps hK k, c⟩
section
variable {ex : List (Fg → Bool)} {fn : List DefP} {K : Fg}
theorem SaysP.fact (c : SaysP ex fn K) (i : Nat) {f : Fg → Bool} (h : ex[i]? = some f := by rfl) : f K = true := by
  have c1 := (He.ba (show ((ex.all fun f => f K) && fn.all fun d => d.ok K) = true from congrArg (fun z : AlP => z.1) c)).1
  exact List.all_eq_true.mp c1 f (List.mem_of_getElem? h)
theorem SaysP.def_ (c : SaysP ex fn K) (i : Nat) {d : DefP} (h : fn[i]? = some d := by rfl) : ∃ fd, FunD K d.name d.qual d.params d.body d.scope (d.dvs K) (d.kws K) (d.at_ K) fd := by
  have c2 := (He.ba (show ((ex.all fun f => f K) && fn.all fun d => d.ok K) = true from congrArg (fun z : AlP => z.1) c)).2
  have e : fn.map (fun d => fnP K (d.at_ K)) = fn.map DefP.val := congrArg (fun z : AlP => z.2) c
  have e2 : (fn.map fun d => fnP K (d.at_ K))[i]? = (fn.map DefP.val)[i]? := by rw [e]
  rw [List.getElem?_map, List.getElem?_map, h] at e2
  exact DefP.funD (Option.some.inj e2) (List.all_eq_true.mp c2 d (List.mem_of_getElem? h))
end
end PL
set_option Elab.async false
set_option linter.all false
set_option maxRecDepth 100000
set_option maxHeartbeats 4000000
namespace PL
open PySem PySem.Spec
open PyProof.Rows hiding St
open L2
def bClsX (x : Str) : Fg → Bool := fun K => (He.Fa.cls x).ok K && ((He.Fa.mkr x).ok K && (PySem.W.selfFirst K (He.ga K x) && (decide (PySem.W.findIn K (.ref (He.ga K x)) "__class__" = some (some (.builtin "object.__class__"))) &&
  (decide (PySem.W.specialIn K (.builtin "object.__class__") "__get__" = some (some (.builtin "getset_descriptor.__get__"))) && (decide (PySem.W.takesIn K (.builtin "object.__class__") = some true) && (decide (PySem.W.mroIn K (He.ga K x) (.type "object") = some true) &&
  (decide (PySem.W.kitOne K (.ref (He.ga K x)) (.ref (He.ga K x)) = some true) && (PySem.W.readsIn K (He.ga K x) (.type "type") && decide (PySem.W.specialIn K (.ref (He.ga K x)) "__getattribute__" = some (some (.builtin "type.__getattribute__")))))))))))
def bMet (x m : Str) : Fg → Bool := fun K => (He.Fa.meth x m).ok K
def bNo (x f : Str) : Fg → Bool := fun K => (He.Fa.noat x f).ok K
def bNe (x : Str) : Fg → Bool := fun K => decide (PySem.W.findIn K (.ref (He.ga K x)) "__ne__" = some (some (.builtin "object.__ne__")))
def bProp (x f : Str) : Fg → Bool := fun K => decide (PySem.W.findIn K (.ref (He.ga K x)) f = some (some (.ref (He.ma K (He.ga K x) f)))) && (decide (PySem.W.specialIn K (.ref (He.ma K (He.ga K x) f)) "__get__" = some (some (.builtin "property.__get__"))) &&
  (decide (PySem.W.takesIn K (.ref (He.ma K (He.ga K x) f)) = some true) && (match PySem.W.recIn K (He.ma K (He.ga K x) f) "property" with
    | some (.ref _ :: _) => true
    | _ => false)))
def isGetS : Option PySem.W.CFound → Addr → Addr → String → Bool
  | some (.get (.builtin g) (.ref q) .none (.ref c)), C, p, id => decide (g = id) && (decide (q = p) && decide (c = C))
  | _, _, _, _ => false
def bSta (x m : Str) : Fg → Bool := fun K => isGetS (PySem.W.findCls K (.ref (He.ga K x)) (.type "type") m) (He.ga K x) (He.ma K (He.ga K x) m) "staticmethod.__get__" && ((match PySem.W.recIn K (He.ma K (He.ga K x) m) "staticmethod" with
    | some (.ref _ :: _) => true
    | _ => false) && PySem.W.keepIn K (.ref (aRec x m "staticmethod" K)))
def bClm (x m : Str) : Fg → Bool := fun K => isGetS (PySem.W.findCls K (.ref (He.ga K x)) (.type "type") m) (He.ga K x) (He.ma K (He.ga K x) m) "classmethod.__get__" && ((match PySem.W.recIn K (He.ma K (He.ga K x) m) "classmethod" with
    | some (.ref _ :: _) => true
    | _ => false) && PySem.W.fnIn K (aRec x m "classmethod" K))
def bCallO (x : Str) : Fg → Bool := fun K => decide (PySem.W.findIn K (.ref (He.ga K x)) "__call__" = some (some (.ref (aMet x "__call__" K)))) && (PySem.W.isFn K (.ref (aMet x "__call__" K)) && PySem.W.fnIn K (aMet x "__call__" K))
def bInt (x : Str) (i : Int) : Fg → Bool := fun K => (He.Fa.int x i).ok K
def bStr (x z : Str) : Fg → Bool := fun K => (He.Fa.str x z).ok K
def bGlo (x : Str) : Fg → Bool := fun K => (He.Fa.glo x).ok K
def bFree (x : Str) : Fg → Bool := fun K => (He.Fa.free x).ok K
def bNeq (x y : Str) : Fg → Bool := fun K => decide (He.ga K x ≠ He.ga K y)
def strsB : List Value → List Str → Bool
  | [], [] => true
  | .str y _ :: vs, z :: zs => decide (y = z) && strsB vs zs
  | _, _ => false
def bTup (x : Str) (zs : List Str) : Fg → Bool := fun K => bGlo x K && (match K.lookup (He.ga K x) with
  | some ⟨c, _, .seq its _, _⟩ => decide (c = .type "tuple") && (decide (its.size ≤ 1000) && strsB its.toList zs)
  | _ => false)
def bCon (C f z : Str) : Fg → Bool := fun K => (match PySem.W.findIn K (.ref (He.ga K C)) f with
  | some (some (.str y t)) => decide (y = z) && (decide (PySem.W.specialIn K (.str y t) "__get__" = some none) && !(PySem.W.copiedNames.contains f))
  | _ => false)
def bEqM (C D m : Str) : Fg → Bool := fun K => decide (He.ma K (He.ga K C) m = He.ma K (He.ga K D) m)
def bKit (C D : Str) (b : Bool) : Fg → Bool := fun K => decide (PySem.W.kitOne K (.ref (He.ga K C)) (.ref (He.ga K D)) = some b)
/-- comparing an object of C with one of D asks C first -/
def bNf (C D : Str) : Fg → Bool := fun K => PySem.W.notFirst K (He.ga K C) (.ref (He.ga K D))
/-- a def without its captured cells -/
def fnC (K : Fg) (a : Addr) : He.FnW := match K.lookup a with
  | some ⟨_, _, .func fd, _⟩ => some (fd.name, fd.qualname, fd.params, fd.body, fd.scope, fd.globals, [], fd.builtins)
  | _ => none
def cellB (K : Fg) (cc D : Addr) : Bool := match K.lookup cc with
  | some ⟨_, _, .cell (some v), _⟩ => decide (v = .ref D)
  | _ => false
def fileB (K : Fg) (c : Addr) (file : Str) : Bool := match K.lookup c with
  | some ⟨_, _, .fields vs, _⟩ => (match (vs[2]? : Option Value) with
    | some (.str fl _) => decide (fl = file)
    | _ => false)
  | _ => false
def alongB (K : Fg) (D g : Addr) (m : Str) : Bool := match PySem.W.clsIn K D with
  | some cd => decide (PySem.W.alongIn K m ((cd.mro.dropWhile (· != .ref D)).drop 1) = some (some (.ref g)))
  | none => false
def closB (K : Fg) (fd : FuncData) (D : Addr) (file : Str) : Bool := match fd.code, fd.closure with
  | .ref c, [(nm, cc)] => decide (nm = ("__class__" : Str)) && (PySem.W.codeIn K (.ref c) fd.qualname && (cellB K cc D && fileB K c file))
  | _, _ => false
def supB (K : Fg) (f D g : Addr) (m file : Str) : Bool := (match K.lookup f with
  | some ⟨_, _, .func fd, _⟩ => decide (fd.defaults = .none) && (decide (fd.kwdefaults = .none) && (decide (fd.annotations = none) && closB K fd D file))
  | _ => false) && (alongB K D g m && (decide (PySem.W.mroIn K D (.ref D) = some true) && (decide (PySem.W.nsIn K cStatics "thirdparty.any" = some none) && (PySem.W.isFn K (.ref g) && PySem.W.fnIn K g))))
def bSup (C B mm m file : Str) : Fg → Bool := fun K => supB K (aMet C mm K) (He.ga K C) (aMet B m K) m file
abbrev AlS : Type := AlP × List He.FnW
def obsS (ex : List (Fg → Bool)) (fn sn : List DefP) (K : Fg) : AlS := (obsP ex fn K, sn.map fun d => fnC K (d.at_ K))
def valS (fn sn : List DefP) : AlS := (valP fn, sn.map DefP.val)
def SaysC (sn : List DefP) (K : Fg) : Prop := (sn.map fun d => fnC K (d.at_ K)) = sn.map DefP.val
def SaysS (ex : List (Fg → Bool)) (fn sn : List DefP) (K : Fg) : Prop := obsS ex fn sn K = valS fn sn
def obsSG (as : List Addr) (ex : List (Fg → Bool)) (fn sn : List DefP) (g : Addr → Option Obj) : AlS := frK (He.frG g as) fun K => obsS ex fn sn K
def hookS (as : List Addr) (ex : List (Fg → Bool)) (fn sn : List DefP) : PySem.W.Hook where
  α := AlS
  obs := fun s => obsS ex fn sn (He.frG s.heap.get? as)
  val := fun _ => valS fn sn
  says := fun _ h => ∃ K : Fg, K.In h ∧ SaysS ex fn sn K
  of := fun _ _ e => ⟨_, He.frG_in, e⟩
  keeps := fun _ _ _ ⟨K, hK, c⟩ k => ⟨K, PySem.W.Frag.In.keeps hK k, c⟩
end PL
set_option Elab.async false
set_option linter.all false
set_option maxRecDepth 100000
set_option maxHeartbeats 0
namespace TX
open PySem PySem.Spec
open PyProof.Rows hiding St
open L2 PL
abbrev Row := PySem.Challenge.rw_tonestacks_k67_whole_written_read_and_la
def top (i : Nat) : Stmt := PySem.Challenge.pw_tonestacks_k67_whole_written_read_and_la.main.body.getD i (.Pass ⟨0, 0, 0, 0⟩)
def inClass (s : Stmt) (j : Nat) : Stmt := match s with
  | .ClassDef _ _ _ b _ _ _ _ _ _ _ => b.getD j (.Pass ⟨0, 0, 0, 0⟩)
  | _ => .Pass ⟨0, 0, 0, 0⟩
abbrev s__wall : Stmt := top 0
def d__wall : DefP := ⟨aGlo "_wall", "_wall", "_wall", defArgs s__wall, defBody s__wall, defScope s__wall, [], []⟩
abbrev s_InvalidFraction___init__ : Stmt := inClass (top 3) 0
def d_InvalidFraction___init__ : DefP := ⟨aMet "InvalidFraction" "__init__", "__init__", "InvalidFraction.__init__", defArgs s_InvalidFraction___init__, defBody s_InvalidFraction___init__, defScope s_InvalidFraction___init__, [], []⟩
abbrev s_InvalidColor___init__ : Stmt := inClass (top 4) 0
def d_InvalidColor___init__ : DefP := ⟨aMet "InvalidColor" "__init__", "__init__", "InvalidColor.__init__", defArgs s_InvalidColor___init__, defBody s_InvalidColor___init__, defScope s_InvalidColor___init__, [], []⟩
abbrev s_InvalidOpacity___init__ : Stmt := inClass (top 5) 0
def d_InvalidOpacity___init__ : DefP := ⟨aMet "InvalidOpacity" "__init__", "__init__", "InvalidOpacity.__init__", defArgs s_InvalidOpacity___init__, defBody s_InvalidOpacity___init__, defScope s_InvalidOpacity___init__, [], []⟩
abbrev s_InvalidLayers___init__ : Stmt := inClass (top 6) 0
def d_InvalidLayers___init__ : DefP := ⟨aMet "InvalidLayers" "__init__", "__init__", "InvalidLayers.__init__", defArgs s_InvalidLayers___init__, defBody s_InvalidLayers___init__, defScope s_InvalidLayers___init__, [], []⟩
abbrev s_InvalidPoints___init__ : Stmt := inClass (top 7) 0
def d_InvalidPoints___init__ : DefP := ⟨aMet "InvalidPoints" "__init__", "__init__", "InvalidPoints.__init__", defArgs s_InvalidPoints___init__, defBody s_InvalidPoints___init__, defScope s_InvalidPoints___init__, [], []⟩
abbrev s_InvalidIndex___init__ : Stmt := inClass (top 8) 0
def d_InvalidIndex___init__ : DefP := ⟨aMet "InvalidIndex" "__init__", "__init__", "InvalidIndex.__init__", defArgs s_InvalidIndex___init__, defBody s_InvalidIndex___init__, defScope s_InvalidIndex___init__, [], []⟩
abbrev s_InvalidText___init__ : Stmt := inClass (top 9) 0
def d_InvalidText___init__ : DefP := ⟨aMet "InvalidText" "__init__", "__init__", "InvalidText.__init__", defArgs s_InvalidText___init__, defBody s_InvalidText___init__, defScope s_InvalidText___init__, [], []⟩
abbrev s_NotAStack___init__ : Stmt := inClass (top 10) 0
def d_NotAStack___init__ : DefP := ⟨aMet "NotAStack" "__init__", "__init__", "NotAStack.__init__", defArgs s_NotAStack___init__, defBody s_NotAStack___init__, defScope s_NotAStack___init__, [], []⟩
abbrev s_NotAFraction___init__ : Stmt := inClass (top 11) 0
def d_NotAFraction___init__ : DefP := ⟨aMet "NotAFraction" "__init__", "__init__", "NotAFraction.__init__", defArgs s_NotAFraction___init__, defBody s_NotAFraction___init__, defScope s_NotAFraction___init__, [], []⟩
abbrev s_NotAValue___init__ : Stmt := inClass (top 12) 0
def d_NotAValue___init__ : DefP := ⟨aMet "NotAValue" "__init__", "__init__", "NotAValue.__init__", defArgs s_NotAValue___init__, defBody s_NotAValue___init__, defScope s_NotAValue___init__, [], []⟩
abbrev s_NotSeen___init__ : Stmt := inClass (top 14) 0
def d_NotSeen___init__ : DefP := ⟨aMet "NotSeen" "__init__", "__init__", "NotSeen.__init__", defArgs s_NotSeen___init__, defBody s_NotSeen___init__, defScope s_NotSeen___init__, [], []⟩
abbrev s_TooManyLayers___init__ : Stmt := inClass (top 17) 0
def d_TooManyLayers___init__ : DefP := ⟨aMet "TooManyLayers" "__init__", "__init__", "TooManyLayers.__init__", defArgs s_TooManyLayers___init__, defBody s_TooManyLayers___init__, defScope s_TooManyLayers___init__, [], []⟩
abbrev s_TooManyCorners___init__ : Stmt := inClass (top 18) 0
def d_TooManyCorners___init__ : DefP := ⟨aMet "TooManyCorners" "__init__", "__init__", "TooManyCorners.__init__", defArgs s_TooManyCorners___init__, defBody s_TooManyCorners___init__, defScope s_TooManyCorners___init__, [], []⟩
abbrev s_is_whole : Stmt := top 21
def d_is_whole : DefP := ⟨aGlo "is_whole", "is_whole", "is_whole", defArgs s_is_whole, defBody s_is_whole, defScope s_is_whole, [], []⟩
abbrev s_is_between : Stmt := top 22
def d_is_between : DefP := ⟨aGlo "is_between", "is_between", "is_between", defArgs s_is_between, defBody s_is_between, defScope s_is_between, [], []⟩
abbrev s_read_number : Stmt := top 23
def d_read_number : DefP := ⟨aGlo "read_number", "read_number", "read_number", defArgs s_read_number, defBody s_read_number, defScope s_read_number, [], []⟩
abbrev s_common : Stmt := top 24
def d_common : DefP := ⟨aGlo "common", "common", "common", defArgs s_common, defBody s_common, defScope s_common, [], []⟩
abbrev s_lowest_terms : Stmt := top 25
def d_lowest_terms : DefP := ⟨aGlo "lowest_terms", "lowest_terms", "lowest_terms", defArgs s_lowest_terms, defBody s_lowest_terms, defScope s_lowest_terms, [], []⟩
abbrev s_read_pair : Stmt := top 27
def d_read_pair : DefP := ⟨aGlo "read_pair", "read_pair", "read_pair", defArgs s_read_pair, defBody s_read_pair, defScope s_read_pair, [], []⟩
abbrev s_Frac___init__ : Stmt := inClass (top 28) 0
def d_Frac___init__ : DefP := ⟨aMet "Frac" "__init__", "__init__", "Frac.__init__", defArgs s_Frac___init__, defBody s_Frac___init__, defScope s_Frac___init__, [.int 1], []⟩
abbrev s_Frac_read : Stmt := inClass (top 28) 1
def d_Frac_read : DefP := ⟨aRec "Frac" "read" "classmethod", "read", "Frac.read", defArgs s_Frac_read, defBody s_Frac_read, defScope s_Frac_read, [], []⟩
abbrev s_Frac_is_value : Stmt := inClass (top 28) 2
def d_Frac_is_value : DefP := ⟨aRec "Frac" "is_value" "staticmethod", "is_value", "Frac.is_value", defArgs s_Frac_is_value, defBody s_Frac_is_value, defScope s_Frac_is_value, [], []⟩
abbrev s_Frac_top : Stmt := inClass (top 28) 3
def d_Frac_top : DefP := ⟨aRec "Frac" "top" "property", "top", "Frac.top", defArgs s_Frac_top, defBody s_Frac_top, defScope s_Frac_top, [], []⟩
abbrev s_Frac_bottom : Stmt := inClass (top 28) 4
def d_Frac_bottom : DefP := ⟨aRec "Frac" "bottom" "property", "bottom", "Frac.bottom", defArgs s_Frac_bottom, defBody s_Frac_bottom, defScope s_Frac_bottom, [], []⟩
abbrev s_Frac___eq__ : Stmt := inClass (top 28) 5
def d_Frac___eq__ : DefP := ⟨aMet "Frac" "__eq__", "__eq__", "Frac.__eq__", defArgs s_Frac___eq__, defBody s_Frac___eq__, defScope s_Frac___eq__, [], []⟩
abbrev s_Frac___lt__ : Stmt := inClass (top 28) 6
def d_Frac___lt__ : DefP := ⟨aMet "Frac" "__lt__", "__lt__", "Frac.__lt__", defArgs s_Frac___lt__, defBody s_Frac___lt__, defScope s_Frac___lt__, [], []⟩
abbrev s_Frac___le__ : Stmt := inClass (top 28) 7
def d_Frac___le__ : DefP := ⟨aMet "Frac" "__le__", "__le__", "Frac.__le__", defArgs s_Frac___le__, defBody s_Frac___le__, defScope s_Frac___le__, [], []⟩
abbrev s_Frac___gt__ : Stmt := inClass (top 28) 8
def d_Frac___gt__ : DefP := ⟨aMet "Frac" "__gt__", "__gt__", "Frac.__gt__", defArgs s_Frac___gt__, defBody s_Frac___gt__, defScope s_Frac___gt__, [], []⟩
abbrev s_Frac___ge__ : Stmt := inClass (top 28) 9
def d_Frac___ge__ : DefP := ⟨aMet "Frac" "__ge__", "__ge__", "Frac.__ge__", defArgs s_Frac___ge__, defBody s_Frac___ge__, defScope s_Frac___ge__, [], []⟩
abbrev s_Frac___add__ : Stmt := inClass (top 28) 10
def d_Frac___add__ : DefP := ⟨aMet "Frac" "__add__", "__add__", "Frac.__add__", defArgs s_Frac___add__, defBody s_Frac___add__, defScope s_Frac___add__, [], []⟩
abbrev s_Frac___sub__ : Stmt := inClass (top 28) 11
def d_Frac___sub__ : DefP := ⟨aMet "Frac" "__sub__", "__sub__", "Frac.__sub__", defArgs s_Frac___sub__, defBody s_Frac___sub__, defScope s_Frac___sub__, [], []⟩
abbrev s_Frac___mul__ : Stmt := inClass (top 28) 12
def d_Frac___mul__ : DefP := ⟨aMet "Frac" "__mul__", "__mul__", "Frac.__mul__", defArgs s_Frac___mul__, defBody s_Frac___mul__, defScope s_Frac___mul__, [], []⟩
abbrev s_Frac___neg__ : Stmt := inClass (top 28) 13
def d_Frac___neg__ : DefP := ⟨aMet "Frac" "__neg__", "__neg__", "Frac.__neg__", defArgs s_Frac___neg__, defBody s_Frac___neg__, defScope s_Frac___neg__, [], []⟩
abbrev s_Frac___abs__ : Stmt := inClass (top 28) 14
def d_Frac___abs__ : DefP := ⟨aMet "Frac" "__abs__", "__abs__", "Frac.__abs__", defArgs s_Frac___abs__, defBody s_Frac___abs__, defScope s_Frac___abs__, [], []⟩
abbrev s_Frac___bool__ : Stmt := inClass (top 28) 15
def d_Frac___bool__ : DefP := ⟨aMet "Frac" "__bool__", "__bool__", "Frac.__bool__", defArgs s_Frac___bool__, defBody s_Frac___bool__, defScope s_Frac___bool__, [], []⟩
abbrev s_Frac___str__ : Stmt := inClass (top 28) 16
def d_Frac___str__ : DefP := ⟨aMet "Frac" "__str__", "__str__", "Frac.__str__", defArgs s_Frac___str__, defBody s_Frac___str__, defScope s_Frac___str__, [], []⟩
abbrev s_Frac___repr__ : Stmt := inClass (top 28) 17
def d_Frac___repr__ : DefP := ⟨aMet "Frac" "__repr__", "__repr__", "Frac.__repr__", defArgs s_Frac___repr__, defBody s_Frac___repr__, defScope s_Frac___repr__, [], []⟩
abbrev s_Frac_quotient : Stmt := inClass (top 28) 18
def d_Frac_quotient : DefP := ⟨aMet "Frac" "quotient", "quotient", "Frac.quotient", defArgs s_Frac_quotient, defBody s_Frac_quotient, defScope s_Frac_quotient, [], []⟩
abbrev s_check_value : Stmt := top 29
def d_check_value : DefP := ⟨aGlo "check_value", "check_value", "check_value", defArgs s_check_value, defBody s_check_value, defScope s_check_value, [], []⟩
abbrev s_lesser : Stmt := top 30
def d_lesser : DefP := ⟨aGlo "lesser", "lesser", "lesser", defArgs s_lesser, defBody s_lesser, defScope s_lesser, [], []⟩
abbrev s_greater : Stmt := top 31
def d_greater : DefP := ⟨aGlo "greater", "greater", "greater", defArgs s_greater, defBody s_greater, defScope s_greater, [], []⟩
abbrev s_slope_between : Stmt := top 35
def d_slope_between : DefP := ⟨aGlo "slope_between", "slope_between", "slope_between", defArgs s_slope_between, defBody s_slope_between, defScope s_slope_between, [], []⟩
abbrev s_is_point : Stmt := top 36
def d_is_point : DefP := ⟨aGlo "is_point", "is_point", "is_point", defArgs s_is_point, defBody s_is_point, defScope s_is_point, [], []⟩
abbrev s_first_wrong : Stmt := top 37
def d_first_wrong : DefP := ⟨aGlo "first_wrong", "first_wrong", "first_wrong", defArgs s_first_wrong, defBody s_first_wrong, defScope s_first_wrong, [], []⟩
abbrev s_without_flat : Stmt := top 38
def d_without_flat : DefP := ⟨aGlo "without_flat", "without_flat", "without_flat", defArgs s_without_flat, defBody s_without_flat, defScope s_without_flat, [], []⟩
abbrev s_piece_at : Stmt := top 39
def d_piece_at : DefP := ⟨aGlo "piece_at", "piece_at", "piece_at", defArgs s_piece_at, defBody s_piece_at, defScope s_piece_at, [], []⟩
abbrev s_value_at : Stmt := top 40
def d_value_at : DefP := ⟨aGlo "value_at", "value_at", "value_at", defArgs s_value_at, defBody s_value_at, defScope s_value_at, [], []⟩
abbrev s_place_of : Stmt := top 41
def d_place_of : DefP := ⟨aGlo "place_of", "place_of", "place_of", defArgs s_place_of, defBody s_place_of, defScope s_place_of, [], []⟩
abbrev s_is_shown : Stmt := top 42
def d_is_shown : DefP := ⟨aGlo "is_shown", "is_shown", "is_shown", defArgs s_is_shown, defBody s_is_shown, defScope s_is_shown, [], []⟩
abbrev s_merged : Stmt := top 43
def d_merged : DefP := ⟨aGlo "merged", "merged", "merged", defArgs s_merged, defBody s_merged, defScope s_merged, [], []⟩
abbrev s_chained : Stmt := top 44
def d_chained : DefP := ⟨aGlo "chained", "chained", "chained", defArgs s_chained, defBody s_chained, defScope s_chained, [], []⟩
abbrev s_mirrored : Stmt := top 45
def d_mirrored : DefP := ⟨aGlo "mirrored", "mirrored", "mirrored", defArgs s_mirrored, defBody s_mirrored, defScope s_mirrored, [], []⟩
abbrev s_is_at_most : Stmt := top 46
def d_is_at_most : DefP := ⟨aGlo "is_at_most", "is_at_most", "is_at_most", defArgs s_is_at_most, defBody s_is_at_most, defScope s_is_at_most, [], []⟩
abbrev s_Curve___init__ : Stmt := inClass (top 47) 0
def d_Curve___init__ : DefP := ⟨aMet "Curve" "__init__", "__init__", "Curve.__init__", defArgs s_Curve___init__, defBody s_Curve___init__, defScope s_Curve___init__, [], []⟩
abbrev s_Curve_same : Stmt := inClass (top 47) 1
def d_Curve_same : DefP := ⟨aRec "Curve" "same" "classmethod", "same", "Curve.same", defArgs s_Curve_same, defBody s_Curve_same, defScope s_Curve_same, [], []⟩
abbrev s_Curve_points : Stmt := inClass (top 47) 2
def d_Curve_points : DefP := ⟨aRec "Curve" "points" "property", "points", "Curve.points", defArgs s_Curve_points, defBody s_Curve_points, defScope s_Curve_points, [], []⟩
abbrev s_Curve_corners : Stmt := inClass (top 47) 3
def d_Curve_corners : DefP := ⟨aRec "Curve" "corners" "property", "corners", "Curve.corners", defArgs s_Curve_corners, defBody s_Curve_corners, defScope s_Curve_corners, [], []⟩
abbrev s_Curve_slopes : Stmt := inClass (top 47) 4
def d_Curve_slopes : DefP := ⟨aRec "Curve" "slopes" "property", "slopes", "Curve.slopes", defArgs s_Curve_slopes, defBody s_Curve_slopes, defScope s_Curve_slopes, [], []⟩
abbrev s_Curve___call__ : Stmt := inClass (top 47) 5
def d_Curve___call__ : DefP := ⟨aMet "Curve" "__call__", "__call__", "Curve.__call__", defArgs s_Curve___call__, defBody s_Curve___call__, defScope s_Curve___call__, [], []⟩
abbrev s_Curve_back : Stmt := inClass (top 47) 6
def d_Curve_back : DefP := ⟨aMet "Curve" "back", "back", "Curve.back", defArgs s_Curve_back, defBody s_Curve_back, defScope s_Curve_back, [], []⟩
abbrev s_Curve___contains__ : Stmt := inClass (top 47) 7
def d_Curve___contains__ : DefP := ⟨aMet "Curve" "__contains__", "__contains__", "Curve.__contains__", defArgs s_Curve___contains__, defBody s_Curve___contains__, defScope s_Curve___contains__, [], []⟩
abbrev s_Curve___len__ : Stmt := inClass (top 47) 8
def d_Curve___len__ : DefP := ⟨aMet "Curve" "__len__", "__len__", "Curve.__len__", defArgs s_Curve___len__, defBody s_Curve___len__, defScope s_Curve___len__, [], []⟩
abbrev s_Curve___add__ : Stmt := inClass (top 47) 9
def d_Curve___add__ : DefP := ⟨aMet "Curve" "__add__", "__add__", "Curve.__add__", defArgs s_Curve___add__, defBody s_Curve___add__, defScope s_Curve___add__, [], []⟩
abbrev s_Curve___neg__ : Stmt := inClass (top 47) 10
def d_Curve___neg__ : DefP := ⟨aMet "Curve" "__neg__", "__neg__", "Curve.__neg__", defArgs s_Curve___neg__, defBody s_Curve___neg__, defScope s_Curve___neg__, [], []⟩
abbrev s_Curve___eq__ : Stmt := inClass (top 47) 11
def d_Curve___eq__ : DefP := ⟨aMet "Curve" "__eq__", "__eq__", "Curve.__eq__", defArgs s_Curve___eq__, defBody s_Curve___eq__, defScope s_Curve___eq__, [], []⟩
abbrev s_Curve___le__ : Stmt := inClass (top 47) 12
def d_Curve___le__ : DefP := ⟨aMet "Curve" "__le__", "__le__", "Curve.__le__", defArgs s_Curve___le__, defBody s_Curve___le__, defScope s_Curve___le__, [], []⟩
abbrev s_Curve___ge__ : Stmt := inClass (top 47) 13
def d_Curve___ge__ : DefP := ⟨aMet "Curve" "__ge__", "__ge__", "Curve.__ge__", defArgs s_Curve___ge__, defBody s_Curve___ge__, defScope s_Curve___ge__, [], []⟩
abbrev s_Curve___lt__ : Stmt := inClass (top 47) 14
def d_Curve___lt__ : DefP := ⟨aMet "Curve" "__lt__", "__lt__", "Curve.__lt__", defArgs s_Curve___lt__, defBody s_Curve___lt__, defScope s_Curve___lt__, [], []⟩
abbrev s_Curve___gt__ : Stmt := inClass (top 47) 15
def d_Curve___gt__ : DefP := ⟨aMet "Curve" "__gt__", "__gt__", "Curve.__gt__", defArgs s_Curve___gt__, defBody s_Curve___gt__, defScope s_Curve___gt__, [], []⟩
abbrev s_Curve___str__ : Stmt := inClass (top 47) 16
def d_Curve___str__ : DefP := ⟨aMet "Curve" "__str__", "__str__", "Curve.__str__", defArgs s_Curve___str__, defBody s_Curve___str__, defScope s_Curve___str__, [], []⟩
abbrev s_Curve___repr__ : Stmt := inClass (top 47) 17
def d_Curve___repr__ : DefP := ⟨aMet "Curve" "__repr__", "__repr__", "Curve.__repr__", defArgs s_Curve___repr__, defBody s_Curve___repr__, defScope s_Curve___repr__, [], []⟩
abbrev s_target : Stmt := top 50
def d_target : DefP := ⟨aGlo "target", "target", "target", defArgs s_target, defBody s_target, defScope s_target, [], []⟩
abbrev s_seen_over : Stmt := top 51
def d_seen_over : DefP := ⟨aGlo "seen_over", "seen_over", "seen_over", defArgs s_seen_over, defBody s_seen_over, defScope s_seen_over, [], []⟩
abbrev s_Layer___init__ : Stmt := inClass (top 52) 1
def d_Layer___init__ : DefP := ⟨aMet "Layer" "__init__", "__init__", "Layer.__init__", defArgs s_Layer___init__, defBody s_Layer___init__, defScope s_Layer___init__, [], []⟩
abbrev s_Layer_color : Stmt := inClass (top 52) 2
def d_Layer_color : DefP := ⟨aRec "Layer" "color" "property", "color", "Layer.color", defArgs s_Layer_color, defBody s_Layer_color, defScope s_Layer_color, [], []⟩
abbrev s_Layer_opacity : Stmt := inClass (top 52) 3
def d_Layer_opacity : DefP := ⟨aRec "Layer" "opacity" "property", "opacity", "Layer.opacity", defArgs s_Layer_opacity, defBody s_Layer_opacity, defScope s_Layer_opacity, [], []⟩
abbrev s_Layer_factor : Stmt := inClass (top 52) 4
def d_Layer_factor : DefP := ⟨aRec "Layer" "factor" "property", "factor", "Layer.factor", defArgs s_Layer_factor, defBody s_Layer_factor, defScope s_Layer_factor, [], []⟩
abbrev s_Layer___eq__ : Stmt := inClass (top 52) 5
def d_Layer___eq__ : DefP := ⟨aMet "Layer" "__eq__", "__eq__", "Layer.__eq__", defArgs s_Layer___eq__, defBody s_Layer___eq__, defScope s_Layer___eq__, [], []⟩
abbrev s_Layer___str__ : Stmt := inClass (top 52) 6
def d_Layer___str__ : DefP := ⟨aMet "Layer" "__str__", "__str__", "Layer.__str__", defArgs s_Layer___str__, defBody s_Layer___str__, defScope s_Layer___str__, [], []⟩
abbrev s_Layer___repr__ : Stmt := inClass (top 52) 7
def d_Layer___repr__ : DefP := ⟨aMet "Layer" "__repr__", "__repr__", "Layer.__repr__", defArgs s_Layer___repr__, defBody s_Layer___repr__, defScope s_Layer___repr__, [], []⟩
abbrev s_Layer_shown : Stmt := inClass (top 52) 8
def d_Layer_shown : DefP := ⟨aMet "Layer" "shown", "shown", "Layer.shown", defArgs s_Layer_shown, defBody s_Layer_shown, defScope s_Layer_shown, [], []⟩
abbrev s_Normal_plain : Stmt := inClass (top 53) 2
def d_Normal_plain : DefP := ⟨aMet "Normal" "plain", "plain", "Normal.plain", defArgs s_Normal_plain, defBody s_Normal_plain, defScope s_Normal_plain, [], []⟩
abbrev s_Darken_plain : Stmt := inClass (top 54) 2
def d_Darken_plain : DefP := ⟨aMet "Darken" "plain", "plain", "Darken.plain", defArgs s_Darken_plain, defBody s_Darken_plain, defScope s_Darken_plain, [], []⟩
abbrev s_Lighten_plain : Stmt := inClass (top 55) 2
def d_Lighten_plain : DefP := ⟨aMet "Lighten" "plain", "plain", "Lighten.plain", defArgs s_Lighten_plain, defBody s_Lighten_plain, defScope s_Lighten_plain, [], []⟩
abbrev s_Multiply_plain : Stmt := inClass (top 56) 2
def d_Multiply_plain : DefP := ⟨aMet "Multiply" "plain", "plain", "Multiply.plain", defArgs s_Multiply_plain, defBody s_Multiply_plain, defScope s_Multiply_plain, [], []⟩
abbrev s_Screen_plain : Stmt := inClass (top 57) 2
def d_Screen_plain : DefP := ⟨aMet "Screen" "plain", "plain", "Screen.plain", defArgs s_Screen_plain, defBody s_Screen_plain, defScope s_Screen_plain, [], []⟩
abbrev s_layer_of : Stmt := top 58
def d_layer_of : DefP := ⟨aGlo "layer_of", "layer_of", "layer_of", defArgs s_layer_of, defBody s_layer_of, defScope s_layer_of, [], []⟩
abbrev s_parse_layer : Stmt := top 59
def d_parse_layer : DefP := ⟨aGlo "parse_layer", "parse_layer", "parse_layer", defArgs s_parse_layer, defBody s_parse_layer, defScope s_parse_layer, [], []⟩
abbrev s_read_layer : Stmt := top 60
def d_read_layer : DefP := ⟨aGlo "read_layer", "read_layer", "read_layer", defArgs s_read_layer, defBody s_read_layer, defScope s_read_layer, [], []⟩
abbrev s_check_layers : Stmt := top 64
def d_check_layers : DefP := ⟨aGlo "check_layers", "check_layers", "check_layers", defArgs s_check_layers, defBody s_check_layers, defScope s_check_layers, [], []⟩
abbrev s_parse_layers : Stmt := top 65
def d_parse_layers : DefP := ⟨aGlo "parse_layers", "parse_layers", "parse_layers", defArgs s_parse_layers, defBody s_parse_layers, defScope s_parse_layers, [], []⟩
abbrev s_crossing : Stmt := top 66
def d_crossing : DefP := ⟨aGlo "crossing", "crossing", "crossing", defArgs s_crossing, defBody s_crossing, defScope s_crossing, [], []⟩
abbrev s_with_bend : Stmt := top 67
def d_with_bend : DefP := ⟨aGlo "with_bend", "with_bend", "with_bend", defArgs s_with_bend, defBody s_with_bend, defScope s_with_bend, [], []⟩
abbrev s_points_through : Stmt := top 68
def d_points_through : DefP := ⟨aGlo "points_through", "points_through", "points_through", defArgs s_points_through, defBody s_points_through, defScope s_points_through, [], []⟩
abbrev s_value_through : Stmt := top 69
def d_value_through : DefP := ⟨aGlo "value_through", "value_through", "value_through", defArgs s_value_through, defBody s_value_through, defScope s_value_through, [], []⟩
abbrev s_Stack___init__ : Stmt := inClass (top 70) 0
def d_Stack___init__ : DefP := ⟨aMet "Stack" "__init__", "__init__", "Stack.__init__", defArgs s_Stack___init__, defBody s_Stack___init__, defScope s_Stack___init__, [], []⟩
abbrev s_Stack_read : Stmt := inClass (top 70) 1
def d_Stack_read : DefP := ⟨aRec "Stack" "read" "classmethod", "read", "Stack.read", defArgs s_Stack_read, defBody s_Stack_read, defScope s_Stack_read, [], []⟩
abbrev s_Stack_layers : Stmt := inClass (top 70) 2
def d_Stack_layers : DefP := ⟨aRec "Stack" "layers" "property", "layers", "Stack.layers", defArgs s_Stack_layers, defBody s_Stack_layers, defScope s_Stack_layers, [], []⟩
abbrev s_Stack_curve : Stmt := inClass (top 70) 3
def d_Stack_curve : DefP := ⟨aRec "Stack" "curve" "property", "curve", "Stack.curve", defArgs s_Stack_curve, defBody s_Stack_curve, defScope s_Stack_curve, [], []⟩
abbrev s_Stack_keeps : Stmt := inClass (top 70) 4
def d_Stack_keeps : DefP := ⟨aRec "Stack" "keeps" "property", "keeps", "Stack.keeps", defArgs s_Stack_keeps, defBody s_Stack_keeps, defScope s_Stack_keeps, [], []⟩
abbrev s_Stack___call__ : Stmt := inClass (top 70) 5
def d_Stack___call__ : DefP := ⟨aMet "Stack" "__call__", "__call__", "Stack.__call__", defArgs s_Stack___call__, defBody s_Stack___call__, defScope s_Stack___call__, [], []⟩
abbrev s_Stack_steps : Stmt := inClass (top 70) 6
def d_Stack_steps : DefP := ⟨aMet "Stack" "steps", "steps", "Stack.steps", defArgs s_Stack_steps, defBody s_Stack_steps, defScope s_Stack_steps, [], []⟩
abbrev s_Stack___contains__ : Stmt := inClass (top 70) 7
def d_Stack___contains__ : DefP := ⟨aMet "Stack" "__contains__", "__contains__", "Stack.__contains__", defArgs s_Stack___contains__, defBody s_Stack___contains__, defScope s_Stack___contains__, [], []⟩
abbrev s_Stack___getitem__ : Stmt := inClass (top 70) 8
def d_Stack___getitem__ : DefP := ⟨aMet "Stack" "__getitem__", "__getitem__", "Stack.__getitem__", defArgs s_Stack___getitem__, defBody s_Stack___getitem__, defScope s_Stack___getitem__, [], []⟩
abbrev s_Stack___iter__ : Stmt := inClass (top 70) 9
def d_Stack___iter__ : DefP := ⟨aMet "Stack" "__iter__", "__iter__", "Stack.__iter__", defArgs s_Stack___iter__, defBody s_Stack___iter__, defScope s_Stack___iter__, [], []⟩
abbrev s_Stack___len__ : Stmt := inClass (top 70) 10
def d_Stack___len__ : DefP := ⟨aMet "Stack" "__len__", "__len__", "Stack.__len__", defArgs s_Stack___len__, defBody s_Stack___len__, defScope s_Stack___len__, [], []⟩
abbrev s_Stack___add__ : Stmt := inClass (top 70) 11
def d_Stack___add__ : DefP := ⟨aMet "Stack" "__add__", "__add__", "Stack.__add__", defArgs s_Stack___add__, defBody s_Stack___add__, defScope s_Stack___add__, [], []⟩
abbrev s_Stack___eq__ : Stmt := inClass (top 70) 12
def d_Stack___eq__ : DefP := ⟨aMet "Stack" "__eq__", "__eq__", "Stack.__eq__", defArgs s_Stack___eq__, defBody s_Stack___eq__, defScope s_Stack___eq__, [], []⟩
abbrev s_Stack___str__ : Stmt := inClass (top 70) 13
def d_Stack___str__ : DefP := ⟨aMet "Stack" "__str__", "__str__", "Stack.__str__", defArgs s_Stack___str__, defBody s_Stack___str__, defScope s_Stack___str__, [], []⟩
abbrev s_Stack___repr__ : Stmt := inClass (top 70) 14
def d_Stack___repr__ : DefP := ⟨aMet "Stack" "__repr__", "__repr__", "Stack.__repr__", defArgs s_Stack___repr__, defBody s_Stack___repr__, defScope s_Stack___repr__, [], []⟩
abbrev s_check_stack : Stmt := top 71
def d_check_stack : DefP := ⟨aGlo "check_stack", "check_stack", "check_stack", defArgs s_check_stack, defBody s_check_stack, defScope s_check_stack, [], []⟩
abbrev s_difference : Stmt := top 72
def d_difference : DefP := ⟨aGlo "difference", "difference", "difference", defArgs s_difference, defBody s_difference, defScope s_difference, [], []⟩
abbrev s_looks_same : Stmt := top 73
def d_looks_same : DefP := ⟨aGlo "looks_same", "looks_same", "looks_same", defArgs s_looks_same, defBody s_looks_same, defScope s_looks_same, [], []⟩
abbrev s__law_cell : Stmt := top 75
def d__law_cell : DefP := ⟨aGlo "_law_cell", "_law_cell", "_law_cell", defArgs s__law_cell, defBody s__law_cell, defScope s__law_cell, [], []⟩
abbrev s__law_pool : Stmt := top 76
def d__law_pool : DefP := ⟨aGlo "_law_pool", "_law_pool", "_law_pool", defArgs s__law_pool, defBody s__law_pool, defScope s__law_pool, [], []⟩
abbrev s__law_draw : Stmt := top 77
def d__law_draw : DefP := ⟨aGlo "_law_draw", "_law_draw", "_law_draw", defArgs s__law_draw, defBody s__law_draw, defScope s__law_draw, [], []⟩
abbrev s__law_low : Stmt := top 78
def d__law_low : DefP := ⟨aGlo "_law_low", "_law_low", "_law_low", defArgs s__law_low, defBody s__law_low, defScope s__law_low, [], []⟩
abbrev s__law_gray : Stmt := top 79
def d__law_gray : DefP := ⟨aGlo "_law_gray", "_law_gray", "_law_gray", defArgs s__law_gray, defBody s__law_gray, defScope s__law_gray, [], []⟩
abbrev s__law_inside : Stmt := top 80
def d__law_inside : DefP := ⟨aGlo "_law_inside", "_law_inside", "_law_inside", defArgs s__law_inside, defBody s__law_inside, defScope s__law_inside, [], []⟩
abbrev s__law_mode : Stmt := top 81
def d__law_mode : DefP := ⟨aGlo "_law_mode", "_law_mode", "_law_mode", defArgs s__law_mode, defBody s__law_mode, defScope s__law_mode, [], []⟩
abbrev s__law_sheet : Stmt := top 82
def d__law_sheet : DefP := ⟨aGlo "_law_sheet", "_law_sheet", "_law_sheet", defArgs s__law_sheet, defBody s__law_sheet, defScope s__law_sheet, [], []⟩
abbrev s__law_word : Stmt := top 83
def d__law_word : DefP := ⟨aGlo "_law_word", "_law_word", "_law_word", defArgs s__law_word, defBody s__law_word, defScope s__law_word, [], []⟩
abbrev s__law_label : Stmt := top 84
def d__law_label : DefP := ⟨aGlo "_law_label", "_law_label", "_law_label", defArgs s__law_label, defBody s__law_label, defScope s__law_label, [], []⟩
abbrev s__law_frac : Stmt := top 85
def d__law_frac : DefP := ⟨aGlo "_law_frac", "_law_frac", "_law_frac", defArgs s__law_frac, defBody s__law_frac, defScope s__law_frac, [], []⟩
abbrev s__law_layer : Stmt := top 86
def d__law_layer : DefP := ⟨aGlo "_law_layer", "_law_layer", "_law_layer", defArgs s__law_layer, defBody s__law_layer, defScope s__law_layer, [], []⟩
abbrev s__law_small : Stmt := top 87
def d__law_small : DefP := ⟨aGlo "_law_small", "_law_small", "_law_small", defArgs s__law_small, defBody s__law_small, defScope s__law_small, [], []⟩
abbrev s__law_sheets : Stmt := top 88
def d__law_sheets : DefP := ⟨aGlo "_law_sheets", "_law_sheets", "_law_sheets", defArgs s__law_sheets, defBody s__law_sheets, defScope s__law_sheets, [], []⟩
abbrev s__law_written : Stmt := top 89
def d__law_written : DefP := ⟨aGlo "_law_written", "_law_written", "_law_written", defArgs s__law_written, defBody s__law_written, defScope s__law_written, [], []⟩
abbrev s__law_summed : Stmt := top 90
def d__law_summed : DefP := ⟨aGlo "_law_summed", "_law_summed", "_law_summed", defArgs s__law_summed, defBody s__law_summed, defScope s__law_summed, [], []⟩
abbrev s__law_of_layers : Stmt := top 91
def d__law_of_layers : DefP := ⟨aGlo "_law_of_layers", "_law_of_layers", "_law_of_layers", defArgs s__law_of_layers, defBody s__law_of_layers, defScope s__law_of_layers, [], []⟩
abbrev s__law_shown : Stmt := top 92
def d__law_shown : DefP := ⟨aGlo "_law_shown", "_law_shown", "_law_shown", defArgs s__law_shown, defBody s__law_shown, defScope s__law_shown, [], []⟩
abbrev s__law_one_right : Stmt := top 93
def d__law_one_right : DefP := ⟨aGlo "_law_one_right", "_law_one_right", "_law_one_right", defArgs s__law_one_right, defBody s__law_one_right, defScope s__law_one_right, [], []⟩
abbrev s__law_right : Stmt := top 94
def d__law_right : DefP := ⟨aGlo "_law_right", "_law_right", "_law_right", defArgs s__law_right, defBody s__law_right, defScope s__law_right, [], []⟩
abbrev s_law : Stmt := top 95
def d_law : DefP := ⟨aGlo "law", "law", "law", defArgs s_law, defBody s_law, defScope s_law, [], []⟩
abbrev s_Normal___call__ : Stmt := inClass (top 53) 1
def d_Normal___call__ : DefP := ⟨aMet "Normal" "__call__", "__call__", "Normal.__call__", defArgs s_Normal___call__, defBody s_Normal___call__, defScope s_Normal___call__, [], []⟩
abbrev s_Darken___call__ : Stmt := inClass (top 54) 1
def d_Darken___call__ : DefP := ⟨aMet "Darken" "__call__", "__call__", "Darken.__call__", defArgs s_Darken___call__, defBody s_Darken___call__, defScope s_Darken___call__, [], []⟩
abbrev s_Lighten___call__ : Stmt := inClass (top 55) 1
def d_Lighten___call__ : DefP := ⟨aMet "Lighten" "__call__", "__call__", "Lighten.__call__", defArgs s_Lighten___call__, defBody s_Lighten___call__, defScope s_Lighten___call__, [], []⟩
abbrev s_Multiply___call__ : Stmt := inClass (top 56) 1
def d_Multiply___call__ : DefP := ⟨aMet "Multiply" "__call__", "__call__", "Multiply.__call__", defArgs s_Multiply___call__, defBody s_Multiply___call__, defScope s_Multiply___call__, [], []⟩
abbrev s_Screen___call__ : Stmt := inClass (top 57) 1
def d_Screen___call__ : DefP := ⟨aMet "Screen" "__call__", "__call__", "Screen.__call__", defArgs s_Screen___call__, defBody s_Screen___call__, defScope s_Screen___call__, [], []⟩
def file : PySem.Str := PySem.Challenge.pw_tonestacks_k67_whole_written_read_and_la.main.file
def sn : List DefP := [d_Normal___call__, d_Darken___call__, d_Lighten___call__, d_Multiply___call__, d_Screen___call__]
def fn : List DefP := [d_is_whole, d_is_between, d_read_number, d_common, d_lowest_terms, d_read_pair, d_Frac___init__, d_Frac_read, d_Frac_is_value, d_Frac_top, d_Frac_bottom, d_Frac___eq__, d_Frac___lt__, d_Frac___le__, d_Frac___ge__, d_Frac___add__, d_Frac___sub__, d_Frac___mul__, d_Frac___str__, d_Frac_quotient, d_check_value, d_lesser, d_greater, d_target, d_seen_over, d_Layer___init__, d_Layer___eq__, d_Layer___str__, d_Layer_shown, d_Normal_plain, d_Darken_plain, d_Lighten_plain, d_Multiply_plain, d_Screen_plain, d_layer_of, d_parse_layer, d_read_layer, d_check_layers, d_parse_layers, d_crossing, d_with_bend, d_points_through, d_value_through, d_Stack___init__, d_Stack_read, d_Stack_layers, d_Stack_keeps, d_Stack___call__, d_Stack_steps, d_Stack___getitem__, d_Stack___len__, d_Stack___add__, d_Stack___eq__, d_Stack___str__, d_Stack___repr__, d_check_stack, d_difference, d_looks_same, d__law_cell, d__law_pool, d__law_draw, d__law_low, d__law_gray, d__law_inside, d__law_mode, d__law_sheet, d__law_word, d__law_label, d__law_frac, d__law_layer, d__law_small, d__law_sheets, d__law_written, d__law_summed, d__law_of_layers, d__law_shown, d__law_one_right, d__law_right, d_law]
def ex : List (Fg → Bool) := [bGlo "is_whole", bGlo "is_between", bGlo "read_number", bGlo "common", bGlo "lowest_terms", bGlo "read_pair", bGlo "Frac", bGlo "check_value", bGlo "lesser", bGlo "greater", bGlo "target", bGlo "seen_over", bGlo "Layer", bGlo "Normal", bGlo "Darken", bGlo "Lighten", bGlo "Multiply", bGlo "Screen", bGlo "layer_of", bGlo "parse_layer", bGlo "read_layer", bGlo "check_layers", bGlo "parse_layers", bGlo "crossing", bGlo "with_bend", bGlo "points_through", bGlo "value_through", bGlo "Stack", bGlo "check_stack", bGlo "difference", bGlo "looks_same", bGlo "_law_cell", bGlo "_law_pool", bGlo "_law_draw", bGlo "_law_low", bGlo "_law_gray", bGlo "_law_inside", bGlo "_law_mode", bGlo "_law_sheet", bGlo "_law_word", bGlo "_law_label", bGlo "_law_frac", bGlo "_law_layer", bGlo "_law_small", bGlo "_law_sheets", bGlo "_law_written", bGlo "_law_summed", bGlo "_law_of_layers", bGlo "_law_shown", bGlo "_law_one_right", bGlo "_law_right", bGlo "law", bInt "MAX_LAYERS" 24, bStr "DIGITS" "0123456789", bStr "NO_LAYERS" "-", bTup "MODES" ["normal", "darken", "lighten", "multiply", "screen"], bTup "BENDING" ["darken", "lighten"], bFree "abs", bFree "all", bFree "any", bFree "bool", bFree "divmod", bFree "enumerate", bFree "int", bFree "isinstance", bFree "len", bFree "list", bFree "max", bFree "min", bFree "range", bFree "repr", bFree "str", bFree "super", bFree "tuple", bFree "zip", bClsX "Frac", bNo "Frac" "over", bNo "Frac" "under", bClm "Frac" "read", bSta "Frac" "is_value", bProp "Frac" "top", bProp "Frac" "bottom", bMet "Frac" "__eq__", bMet "Frac" "__lt__", bMet "Frac" "__le__", bMet "Frac" "__ge__", bMet "Frac" "__add__", bMet "Frac" "__sub__", bMet "Frac" "__mul__", bMet "Frac" "__str__", bMet "Frac" "quotient", bNe "Frac", bClsX "Stack", bNo "Stack" "laid", bClm "Stack" "read", bProp "Stack" "layers", bProp "Stack" "keeps", bMet "Stack" "steps", bMet "Stack" "__getitem__", bMet "Stack" "__len__", bMet "Stack" "__add__", bMet "Stack" "__eq__", bMet "Stack" "__str__", bMet "Stack" "__repr__", bNe "Stack", bCallO "Stack", bClsX "Normal", bNo "Normal" "cover", bNo "Normal" "rest", bNo "Normal" "tint", bEqM "Normal" "Layer" "__init__", bMet "Normal" "__eq__", bEqM "Normal" "Layer" "__eq__", bMet "Normal" "__str__", bEqM "Normal" "Layer" "__str__", bMet "Normal" "plain", bCallO "Normal", bCon "Normal" "MODE" "normal", bKit "Normal" "Layer" true, bClsX "Darken", bNo "Darken" "cover", bNo "Darken" "rest", bNo "Darken" "tint", bEqM "Darken" "Layer" "__init__", bMet "Darken" "__eq__", bEqM "Darken" "Layer" "__eq__", bMet "Darken" "__str__", bEqM "Darken" "Layer" "__str__", bMet "Darken" "plain", bCallO "Darken", bCon "Darken" "MODE" "darken", bKit "Darken" "Layer" true, bClsX "Lighten", bNo "Lighten" "cover", bNo "Lighten" "rest", bNo "Lighten" "tint", bEqM "Lighten" "Layer" "__init__", bMet "Lighten" "__eq__", bEqM "Lighten" "Layer" "__eq__", bMet "Lighten" "__str__", bEqM "Lighten" "Layer" "__str__", bMet "Lighten" "plain", bCallO "Lighten", bCon "Lighten" "MODE" "lighten", bKit "Lighten" "Layer" true, bClsX "Multiply", bNo "Multiply" "cover", bNo "Multiply" "rest", bNo "Multiply" "tint", bEqM "Multiply" "Layer" "__init__", bMet "Multiply" "__eq__", bEqM "Multiply" "Layer" "__eq__", bMet "Multiply" "__str__", bEqM "Multiply" "Layer" "__str__", bMet "Multiply" "plain", bCallO "Multiply", bCon "Multiply" "MODE" "multiply", bKit "Multiply" "Layer" true, bClsX "Screen", bNo "Screen" "cover", bNo "Screen" "rest", bNo "Screen" "tint", bEqM "Screen" "Layer" "__init__", bMet "Screen" "__eq__", bEqM "Screen" "Layer" "__eq__", bMet "Screen" "__str__", bEqM "Screen" "Layer" "__str__", bMet "Screen" "plain", bCallO "Screen", bCon "Screen" "MODE" "screen", bKit "Screen" "Layer" true, bSup "Normal" "Layer" "__call__" "shown" file, bSup "Darken" "Layer" "__call__" "shown" file, bSup "Lighten" "Layer" "__call__" "shown" file, bSup "Multiply" "Layer" "__call__" "shown" file, bSup "Screen" "Layer" "__call__" "shown" file, bNf "Normal" "Darken", bNf "Normal" "Lighten", bNf "Normal" "Multiply", bNf "Normal" "Screen", bNf "Darken" "Normal", bNf "Darken" "Lighten", bNf "Darken" "Multiply", bNf "Darken" "Screen", bNf "Lighten" "Normal", bNf "Lighten" "Darken", bNf "Lighten" "Multiply", bNf "Lighten" "Screen", bNf "Multiply" "Normal", bNf "Multiply" "Darken", bNf "Multiply" "Lighten", bNf "Multiply" "Screen", bNf "Screen" "Normal", bNf "Screen" "Darken", bNf "Screen" "Lighten", bNf "Screen" "Multiply", bNeq "Normal" "Darken", bNeq "Normal" "Lighten", bNeq "Normal" "Multiply", bNeq "Normal" "Screen", bNeq "Normal" "Frac", bNeq "Normal" "Stack", bNeq "Darken" "Lighten", bNeq "Darken" "Multiply", bNeq "Darken" "Screen", bNeq "Darken" "Frac", bNeq "Darken" "Stack", bNeq "Lighten" "Multiply", bNeq "Lighten" "Screen", bNeq "Lighten" "Frac", bNeq "Lighten" "Stack", bNeq "Multiply" "Screen", bNeq "Multiply" "Frac", bNeq "Multiply" "Stack", bNeq "Screen" "Frac", bNeq "Screen" "Stack", bNeq "Frac" "Stack"]
end TX
set_option Elab.async false
set_option linter.all false
set_option maxRecDepth 100000
set_option maxHeartbeats 0
namespace HD
open PySem PySem.Spec PyProof.Rows L2 PL
abbrev R : PySem.W.OpenRow := PySem.W.OpenLaw.row PySem.Challenge.rw_tonestacks_k67_whole_written_read_and_la
def as0 : List Addr := [2, 3, 326, 333, 338, 345, 352, 359, 511, 522, 529, 536, 757, 764, 771, 840, 870, 898, 926, 954, 982, 991, 998, 1005, 1006, 1013, 1018, 1025, 1032, 1037, 1044, 1161, 1172, 1179, 1186, 1193, 1200, 1207, 1214, 1221]
def as1 : List Addr := [1228, 1235, 1242, 1249, 1256, 1263, 1270, 1277, 1282, 1287, 1294, 1301, 1308, 1313, 1318, 1323, 325, 332, 337, 344, 351, 358, 510, 521, 528, 535, 763, 770, 839, 869, 897, 925, 953, 981, 990, 997, 1004, 1012, 1017, 1024]
def as2 : List Addr := [1031, 1036, 1043, 1160, 1171, 1178, 1185, 1192, 1199, 1206, 1213, 1220, 1227, 1234, 1241, 1248, 1255, 1262, 1269, 1276, 1281, 1286, 1293, 1300, 1307, 1312, 1317, 1322, 374, 383, 393, 402, 410, 417, 424, 431, 445, 452, 459, 466]
def as3 : List Addr := [494, 508, 785, 816, 823, 837, 860, 867, 888, 895, 916, 923, 944, 951, 972, 979, 1058, 1067, 1076, 1092, 1099, 1106, 1118, 1132, 1139, 1146, 1151, 1158, 373, 367, 381, 391, 401, 409, 416, 423, 430, 444, 451, 458]
def as4 : List Addr := [465, 493, 507, 784, 815, 822, 836, 859, 848, 866, 887, 876, 894, 915, 904, 922, 943, 932, 950, 971, 960, 978, 1057, 1065, 1075, 1091, 1098, 1105, 1117, 1131, 1138, 1145, 1150, 1157, 380, 390, 400, 408, 1064, 1074]
def as5 : List Addr := [1090]
def as : List Addr := as0 ++ as1 ++ as2 ++ as3 ++ as4 ++ as5
abbrev hk : PySem.W.Hook := hookS as TX.ex TX.fn TX.sn
def ob (s : PySem.W.SharedT) : AlS := obsSG as TX.ex TX.fn TX.sn (HandSHeadRun.getT s)
theorem frk {α : Type} : ∀ (l : List (Addr × Obj)) (k : List (Addr × Obj) → α), frK l k = k l
  | [], k => rfl
  | (a, o) :: t, k => by
    unfold frK
    rw [HandSHeadRun.frNat_eq, frk t]
theorem sg_eq {g : Addr → Option Obj} {s : Shared} (h : ∀ a, g a = s.heap.get? a) : obsSG as TX.ex TX.fn TX.sn g = hk.obs s := by
  have e : g = s.heap.get? := funext h
  unfold obsSG
  rw [frk, e]
  rfl
theorem ob_eq (s : PySem.W.SharedT) : ob s = hk.obs s.abs := sg_eq (HandSHeadRun.getT_eq s)
def names0 : List PySem.Str := ["_wall", "ToneError", "InvalidFraction", "InvalidColor", "InvalidOpacity", "InvalidLayers", "InvalidPoints", "InvalidIndex", "InvalidText", "NotAStack", "NotAFraction", "NotAValue", "StateError", "NotSeen", "SizeError", "ZeroDivisor", "TooManyLayers", "TooManyCorners", "DIGITS", "is_whole", "is_between", "read_number", "common", "lowest_terms", "read_pair", "Frac", "check_value", "lesser", "greater", "MAX_LAYERS"]
def names1 : List PySem.Str := ["MAX_CORNERS", "slope_between", "is_point", "first_wrong", "without_flat", "piece_at", "value_at", "place_of", "is_shown", "merged", "chained", "mirrored", "is_at_most", "Curve", "MODES", "target", "seen_over", "Layer", "Normal", "Darken", "Lighten", "Multiply", "Screen", "layer_of", "parse_layer", "read_layer", "NO_LAYERS", "BENDING", "check_layers", "parse_layers"]
def names2 : List PySem.Str := ["crossing", "with_bend", "points_through", "value_through", "Stack", "check_stack", "difference", "looks_same", "_law_cell", "_law_pool", "_law_draw", "_law_low", "_law_gray", "_law_inside", "_law_mode", "_law_sheet", "_law_word", "_law_label", "_law_frac", "_law_layer", "_law_small", "_law_sheets", "_law_written", "_law_summed", "_law_of_layers", "_law_shown", "_law_one_right", "_law_right"]
def names : List PySem.Str := names0 ++ names1 ++ names2
theorem run (w : World) : HandSHeadRun.RunEq R (PySem.W.view R.prog [95]) hk ob 60000 names w := by
  intro os
  kernel_rfl
end HD
set_option Elab.async false
set_option linter.all false
set_option maxRecDepth 100000
set_option maxHeartbeats 4000000
namespace PL
open PySem PySem.Spec
open PyProof.Rows hiding St
open L2

/-! ### shapes: how a Lean value lies in the heap -/
abbrev Sh (α : Type) := Hp → V → α → Prop
class Mo {α : Type} (s : Sh α) : Prop where
  up : ∀ {H H' : Hp} {v : V} {a : α}, Same H H' → s H v a → s H' v a
abbrev ShA (α : Type) := Hp → List V → α → Prop
class MoA {α : Type} (s : ShA α) : Prop where
  up : ∀ {H H' : Hp} {v : List V} {a : α}, Same H H' → s H v a → s H' v a

theorem Same.sqt {K : PySem.W.Frag} {H H' : Hp} {a : Addr} {xs : List V} (e : Same H H') (h : SqT K H a xs) : SqT K H' a xs := by
  rcases h with (h | ⟨o, h⟩) | h
  · exact .inl (.inl (e _ _ h))
  · exact .inl (.inr ⟨o, e _ _ h⟩)
  · exact .inr h
theorem Same.new {H : Hp} {p : Addr} {o : HO} (h : H p = none) : Same H (upd H p o) := fun a u e => by
  rw [upd_ne (ne_of_none e h)]
  exact e

def sInt : Sh Int := fun _ v i => v = .int i
def sBl : Sh Bool := fun _ v b => v = .bl b
def sStr : Sh Str := fun _ v b => v = .str b
def sNon : Sh Unit := fun _ v _ => v = .non
def sAny : Sh Unit := fun _ _ _ => True
def sOpt {α : Type} (s : Sh α) : Sh (Option α) := fun H v o => match o with
  | none => v = .non
  | some a => v ≠ .non ∧ s H v a
def sP (K : PySem.W.Frag) {α β : Type} (s : Sh α) (t : Sh β) : Sh (α × β) := fun H v ab => ∃ p x y, v = .ref p ∧ SqT K H p [x, y] ∧ s H x ab.1 ∧ t H y ab.2
def sT (K : PySem.W.Frag) {α β γ : Type} (s : Sh α) (t : Sh β) (u : Sh γ) : Sh (α × β × γ) := fun H v ab => ∃ p x y z, v = .ref p ∧ SqT K H p [x, y, z] ∧ s H x ab.1 ∧ t H y ab.2.1 ∧ u H z ab.2.2
def sL (K : PySem.W.Frag) {α : Type} (s : Sh α) : Sh (List α) := fun H v as => ∃ p xs, v = .ref p ∧ H p = some (.lst xs) ∧ Paired (s H) xs as
def sU (K : PySem.W.Frag) {α : Type} (s : Sh α) : Sh (List α) := fun H v as => ∃ p xs, v = .ref p ∧ SqT K H p xs ∧ Paired (s H) xs as

instance : Mo sInt := ⟨fun _ h => h⟩
instance : Mo sBl := ⟨fun _ h => h⟩
instance : Mo sStr := ⟨fun _ h => h⟩
instance : Mo sNon := ⟨fun _ h => h⟩
instance : Mo sAny := ⟨fun _ h => h⟩
instance {α : Type} {s : Sh α} [m : Mo s] : Mo (sOpt s) := ⟨fun {H H' v a} e h => by
  cases a with
  | none => exact h
  | some x => exact ⟨h.1, m.up e h.2⟩⟩
instance {K : PySem.W.Frag} {α β : Type} {s : Sh α} {t : Sh β} [m : Mo s] [n : Mo t] : Mo (sP K s t) := ⟨fun e ⟨p, x, y, h1, h2, h3, h4⟩ => ⟨p, x, y, h1, Same.sqt e h2, m.up e h3, n.up e h4⟩⟩
instance {K : PySem.W.Frag} {α β γ : Type} {s : Sh α} {t : Sh β} {u : Sh γ} [m : Mo s] [n : Mo t] [o : Mo u] : Mo (sT K s t u) :=
  ⟨fun e ⟨p, x, y, z, h1, h2, h3, h4, h5⟩ => ⟨p, x, y, z, h1, Same.sqt e h2, m.up e h3, n.up e h4, o.up e h5⟩⟩
theorem paired_up {α : Type} {s : Sh α} [m : Mo s] {H H' : Hp} {xs : List V} {as : List α} (e : Same H H') (h : Paired (s H) xs as) : Paired (s H') xs as := Paired.mapP h fun _ _ => m.up e
instance {K : PySem.W.Frag} {α : Type} {s : Sh α} [m : Mo s] : Mo (sL K s) := ⟨fun e ⟨p, xs, h1, h2, h3⟩ => ⟨p, xs, h1, e _ _ h2, paired_up e h3⟩⟩
instance {K : PySem.W.Frag} {α : Type} {s : Sh α} [m : Mo s] : Mo (sU K s) := ⟨fun e ⟨p, xs, h1, h2, h3⟩ => ⟨p, xs, h1, Same.sqt e h2, paired_up e h3⟩⟩

def aN : ShA Unit := fun _ vs _ => vs = []
def aC {α β : Type} (s : Sh α) (r : ShA β) : ShA (α × β) := fun H vs ab => ∃ v w, vs = v :: w ∧ s H v ab.1 ∧ r H w ab.2
/-- any number of arguments -/
def aS {α : Type} (s : Sh α) : ShA (List α) := fun H vs as => Paired (s H) vs as
instance : MoA aN := ⟨fun _ h => h⟩
instance {α β : Type} {s : Sh α} {r : ShA β} [m : Mo s] [n : MoA r] : MoA (aC s r) := ⟨fun e ⟨v, w, h1, h2, h3⟩ => ⟨v, w, h1, m.up e h2, n.up e h3⟩⟩
instance {α : Type} {s : Sh α} [m : Mo s] : MoA (aS s) := ⟨fun e h => paired_up e h⟩

/-! ### what is known of the slots -/
inductive Cell : Type 1 where
  | no
  | is {α : Type} (s : Sh α) (m : Mo s) (a : α)
abbrev Ce {α : Type} (s : Sh α) (a : α) [m : Mo s] : Cell := Cell.is s m a
def CellOk (H : Hp) (o : Option V) : Cell → Prop
  | .no => True
  | .is s _ a => ∃ v, o = some v ∧ s H v a
structure Env (H : Hp) (σ : St) (Γ : List Cell) : Prop where
  len : σ.length = Γ.length
  at_ : ∀ (i : Nat) (c : Cell), Γ[i]? = some c → CellOk H (σ[i]?.join) c
theorem CellOk.up {H H' : Hp} {o : Option V} {c : Cell} (e : Same H H') (h : CellOk H o c) : CellOk H' o c := by
  cases c with
  | no => trivial
  | is s m a =>
    obtain ⟨v, h1, h2⟩ := h
    exact ⟨v, h1, m.up e h2⟩
theorem Env.up {H H' : Hp} {σ : St} {Γ : List Cell} (E : Env H σ Γ) (e : Same H H') : Env H' σ Γ := ⟨E.len, fun i c h => (E.at_ i c h).up e⟩
theorem Env.get {H : Hp} {σ : St} {Γ : List Cell} {i : Nat} {α : Type} {s : Sh α} {m : Mo s} {a : α} (E : Env H σ Γ) (h : Γ[i]? = some (.is s m a)) : ∃ v, σ[i]? = some (some v) ∧ s H v a := by
  obtain ⟨v, h1, h2⟩ := E.at_ i _ h
  refine ⟨v, ?_, h2⟩
  cases q : σ[i]? with
  | none =>
    rw [q] at h1
    cases h1
  | some o =>
    rw [q] at h1
    exact congrArg some h1
theorem Env.set {H : Hp} {σ : St} {Γ : List Cell} {i : Nat} {α : Type} {s : Sh α} {m : Mo s} {a : α} {v : V} (E : Env H σ Γ) (h : s H v a) : Env H (σ.set i (some v)) (Γ.set i (.is s m a)) := by
  refine ⟨by rw [List.length_set, List.length_set]; exact E.len, fun j c hc => ?_⟩
  by_cases e : i = j
  · subst e
    have hl : i < Γ.length := by
      rcases Nat.lt_or_ge i Γ.length with z | z
      · exact z
      · rw [List.getElem?_eq_none (by rw [List.length_set]; exact z)] at hc
        cases hc
    rw [List.getElem?_set_self hl] at hc
    rw [List.getElem?_set_self (by rw [E.len]; exact hl)]
    cases hc
    exact ⟨v, rfl, h⟩
  · rw [List.getElem?_set_ne e] at hc
    rw [List.getElem?_set_ne e]
    exact E.at_ j c hc
theorem Env.forget {H : Hp} {σ : St} {Γ : List Cell} {i : Nat} {o : Option V} (E : Env H σ Γ) : Env H (σ.set i o) (Γ.set i .no) := by
  refine ⟨by rw [List.length_set, List.length_set]; exact E.len, fun j c hc => ?_⟩
  by_cases e : i = j
  · subst e
    have hl : i < Γ.length := by
      rcases Nat.lt_or_ge i Γ.length with z | z
      · exact z
      · rw [List.getElem?_eq_none (by rw [List.length_set]; exact z)] at hc
        cases hc
    rw [List.getElem?_set_self hl] at hc
    cases hc
    trivial
  · rw [List.getElem?_set_ne e] at hc
    rw [List.getElem?_set_ne e]
    exact E.at_ j c hc

/-! ### the judgements -/
section
variable {X : Cx}
theorem weakE {e : Expr} {t t' : TE} (h : PE X e t) (k : ∀ σ H Q, t' σ H Q → t σ H Q) : PE X e t' := ⟨fun pins s σ H Q I q => h.run pins s σ H Q I (k _ _ _ q)⟩
theorem weakT {e : Expr} {t t' : TT} (h : PT X e t) (k : ∀ σ H Q, t' σ H Q → t σ H Q) : PT X e t' := ⟨fun pins s σ H Q I q => h.run pins s σ H Q I (k _ _ _ q)⟩
theorem weakW {e : Expr} {t t' : TT} (h : PW X e t) (k : ∀ σ H Q, t' σ H Q → t σ H Q) : PW X e t' := ⟨fun wh pins s σ H Q I q => h.run wh pins s σ H Q I (k _ _ _ q)⟩
theorem weakA {e : List Expr} {t t' : TA} (h : PA X e t) (k : ∀ σ H Q, t' σ H Q → t σ H Q) : PA X e t' := ⟨fun pos pins s σ H Q I q => h.run pos pins s σ H Q I (k _ _ _ q)⟩
theorem weakB {e : List Stmt} {t t' : TS} (h : PSs X e t) (k : ∀ D σ H, t' D σ H → t D σ H) : PSs X e t' := ⟨fun pins s σ H D I q => h.run pins s σ H D I (k _ _ _ q)⟩
end
def tx (Γ : List Cell) {α : Type} (s : Sh α) (P : α → Prop) : TE := fun σ H Q => Env H σ Γ ∧ ∀ a v H', P a → Same H H' → s H' v a → Q v H'
def tq (Γ : List Cell) (P : Bool → Prop) : TT := fun σ H Q => Env H σ Γ ∧ ∀ b H', P b → Same H H' → Q b H'
def txa (Γ : List Cell) {α : Type} (s : ShA α) (P : α → Prop) : TA := fun σ H Q => Env H σ Γ ∧ ∀ a v H', P a → Same H H' → s H' v a → Q v H'
abbrev XE (X : Cx) (e : Expr) (Γ : List Cell) {α : Type} (s : Sh α) (P : α → Prop) : Prop := PE X e (tx Γ s P)
abbrev XT (X : Cx) (e : Expr) (Γ : List Cell) (P : Bool → Prop) : Prop := PT X e (tq Γ P)
abbrev XA (X : Cx) (es : List Expr) (Γ : List Cell) {α : Type} (s : ShA α) (P : α → Prop) : Prop := PA X es (txa Γ s P)

/-! ### promises -/
def spG {α ρ : Type} (sa : ShA α) (pre : α → Prop) (sr : Sh ρ) (post : α → ρ → Prop) : Sp := fun vs H Q _ => ∃ a, sa H vs a ∧ pre a ∧ ∀ r v H', post a r → Same H H' → sr H' v r → Q v H'
abbrev spD {α ρ : Type} (sa : ShA α) (pre : α → Prop) (sr : Sh ρ) (f : α → ρ) : Sp := spG sa pre sr (fun a r => r = f a)

section
variable {X : Cx} {Γ : List Cell} {α β γ δ : Type} {s : Sh α} {t : Sh β} {u : Sh γ} {P : α → Prop} {R : β → Prop} {e e1 e2 : Expr} {es : List Expr} {pos p : Pos} {a : α} {b : β}

theorem xe_imp {P' : α → Prop} (h : XE X e Γ s P) (k : ∀ a, P a → P' a) : XE X e Γ s P' := weakE h fun σ H Q ⟨E, q⟩ => ⟨E, fun a v H' pa => q a v H' (k a pa)⟩
theorem xe_eq {a' : α} (h : XE X e Γ s (· = a)) (k : a = a') : XE X e Γ s (· = a') := k ▸ h
theorem xt_imp {P P' : Bool → Prop} (h : XT X e Γ P) (k : ∀ a, P a → P' a) : XT X e Γ P' := weakT h fun σ H Q ⟨E, q⟩ => ⟨E, fun a H' pa => q a H' (k a pa)⟩
theorem xt_eq {a a' : Bool} (h : XT X e Γ (· = a)) (k : a = a') : XT X e Γ (· = a') := k ▸ h
/-- another shape -/
theorem xe_sh {β : Type} {t : Sh β} {R : β → Prop} (h : XE X e Γ s P) (k : ∀ a, P a → ∃ b, R b ∧ ∀ H v, s H v a → t H v b) : XE X e Γ t R := weakE h fun σ H Q ⟨E, q⟩ => ⟨E, fun a v H' pa sm sv => by
  obtain ⟨b, rb, kb⟩ := k a pa
  exact q b v H' rb sm (kb H' v sv)⟩

theorem xv (i : Nat) {x : Str} {m : Mo s} (hc : Γ[i]? = some (.is s m a) := by rfl) (hN : X.N[i]? = some x := by rfl) (hv : Vis X.env.scope x := by first | exact Or.inl rfl | exact Or.inr (Or.inl rfl) | exact Or.inr (Or.inr rfl))
    (hd : (x == ("__debug__" : Str)) = false := by decide) (hcd : (x == ("__classdict__" : Str)) = false := by decide) : XE X (.Name x pos) Γ s (· = a) := weakE (pe_var hN hv hd hcd) fun σ H Q ⟨E, q⟩ => by
  obtain ⟨v, h1, h2⟩ := E.get hc
  exact ⟨v, h1, q a v H rfl (Same.refl H) h2⟩
theorem x_int {i : Int} {j : Nat} : XE X (.Constant (.int i) j pos) Γ sInt (· = i) := weakE pe_int fun σ H Q ⟨E, q⟩ => q i _ H rfl (Same.refl H) rfl
theorem x_bl {i : Bool} {j : Nat} : XE X (.Constant (.bool i) j pos) Γ sBl (· = i) := weakE pe_bl fun σ H Q ⟨E, q⟩ => q i _ H rfl (Same.refl H) rfl
theorem x_str {i : Str} {j : Nat} : XE X (.Constant (.str i) j pos) Γ sStr (· = i) := weakE pe_str fun σ H Q ⟨E, q⟩ => q i _ H rfl (Same.refl H) rfl
theorem x_non {j : Nat} : XE X (.Constant .none j pos) Γ sNon (fun _ => True) := weakE pe_non fun σ H Q ⟨E, q⟩ => q () _ H trivial (Same.refl H) rfl
theorem x_noneO {j : Nat} : XE X (.Constant .none j pos) Γ (sOpt s) (· = none) := weakE pe_non fun σ H Q ⟨E, q⟩ => q none _ H rfl (Same.refl H) rfl

/-- an operation on two values -/
def Op2 (r : R2) (s : Sh α) (t : Sh β) (u : Sh γ) (pre : α → β → Prop) (post : α → β → γ → Prop) : Prop :=
  ∀ (H : Hp) (x y : V) (a : α) (b : β) (Q : VK), s H x a → t H y b → pre a b → (∀ c v H', post a b c → Same H H' → u H' v c → Q v H') → r x y H Q
theorem tx2 {r : R2} {post : α → β → γ → Prop} {pre : α → β → Prop} [m : Mo s] (o : Op2 r s t u pre post) (hp : ∀ a b, P a → R b → pre a b) (σ : St) (H : Hp) (Q : VK) (h : tx Γ u (fun c => ∃ a b, P a ∧ R b ∧ post a b c) σ H Q) :
    tOp r (tx Γ s P) (tx Γ t R) σ H Q := by
  obtain ⟨E, q⟩ := h
  exact ⟨E, fun a x H1 pa e1 sx => ⟨E.up e1, fun b y H2 pb e2 sy => o H2 x y a b Q (m.up e2 sx) sy (hp a b pa pb) fun c v H3 pc e3 sv => q c v H3 ⟨a, b, pa, pb, pc⟩ ((e1.trans e2).trans e3) sv⟩⟩
theorem x_op {op : Operator} {r : R2} {post : α → β → γ → Prop} {pre : α → β → Prop} [m : Mo s] (ho : OpR X (binaryOp op) r) (o : Op2 r s t u pre post) (h1 : XE X e1 Γ s P) (h2 : XE X e2 Γ t R) (hp : ∀ a b, P a → R b → pre a b) :
    XE X (.BinOp e1 op e2 pos) Γ u (fun c => ∃ a b, P a ∧ R b ∧ post a b c) := weakE (pe_op ho h1 h2) (tx2 o hp)
theorem x_cmp {op : CmpOp} {r : R2} {post : α → β → γ → Prop} {pre : α → β → Prop} [m : Mo s] (ho : OpR X (compareOp op) r) (o : Op2 r s t u pre post) (h1 : XE X e1 Γ s P) (h2 : XE X e2 Γ t R) (hp : ∀ a b, P a → R b → pre a b) (hb : behindInMarks op e2 = false) :
    XE X (.Compare e1 [op] [e2] pos) Γ u (fun c => ∃ a b, P a ∧ R b ∧ post a b c) := weakE (pe_cmpR ho h1 h2 hb) (tx2 o hp)
theorem xt_cmp {op : CmpOp} {r : R2} {post : α → β → Bool → Prop} {pre : α → β → Prop} [m : Mo s] (ho : OpR X (compareOp op) r) (o : Op2 r s t sBl pre post) (h1 : XE X e1 Γ s P) (h2 : XE X e2 Γ t R) (hp : ∀ a b, P a → R b → pre a b) (hb : behindInMarks op e2 = false) :
    XT X (.Compare e1 [op] [e2] pos) Γ (fun c => ∃ a b, P a ∧ R b ∧ post a b c) := weakT (pt_cmpR ho h1 h2 hb) fun σ H Q h => by
  obtain ⟨E, q⟩ := h
  exact ⟨E, fun a x H1 pa e1 sx => ⟨E.up e1, fun b y H2 pb e2 sy => o H2 x y a b _ (m.up e2 sx) sy (hp a b pa pb) fun c v H3 pc e3 sv => ⟨c, sv, q c H3 ⟨a, b, pa, pb, pc⟩ ((e1.trans e2).trans e3)⟩⟩⟩
/-- .. of known values -/
theorem x_opD {op : Operator} {r : R2} {f : α → β → γ} {pre : α → β → Prop} [m : Mo s] (ho : OpR X (binaryOp op) r) (o : Op2 r s t u pre (fun a b c => c = f a b)) (h1 : XE X e1 Γ s (· = a)) (h2 : XE X e2 Γ t (· = b)) (hp : pre a b) :
    XE X (.BinOp e1 op e2 pos) Γ u (· = f a b) := xe_imp (x_op ho o h1 h2 fun _ _ h h' => by subst h; subst h'; exact hp) fun c ⟨a', b', h, h', q⟩ => by subst h; subst h'; exact q
theorem x_cmpD {op : CmpOp} {r : R2} {f : α → β → γ} {pre : α → β → Prop} [m : Mo s] (ho : OpR X (compareOp op) r) (o : Op2 r s t u pre (fun a b c => c = f a b)) (h1 : XE X e1 Γ s (· = a)) (h2 : XE X e2 Γ t (· = b)) (hp : pre a b)
    (hb : behindInMarks op e2 = false := by first | exact nomark _ | rfl) : XE X (.Compare e1 [op] [e2] pos) Γ u (· = f a b) := xe_imp (x_cmp ho o h1 h2 (fun _ _ h h' => by subst h; subst h'; exact hp) hb) fun c ⟨a', b', h, h', q⟩ => by subst h; subst h'; exact q
theorem xt_cmpD {op : CmpOp} {r : R2} {f : α → β → Bool} {pre : α → β → Prop} [m : Mo s] (ho : OpR X (compareOp op) r) (o : Op2 r s t sBl pre (fun a b c => c = f a b)) (h1 : XE X e1 Γ s (· = a)) (h2 : XE X e2 Γ t (· = b)) (hp : pre a b)
    (hb : behindInMarks op e2 = false := by first | exact nomark _ | rfl) : XT X (.Compare e1 [op] [e2] pos) Γ (· = f a b) := xt_imp (xt_cmp ho o h1 h2 (fun _ _ h h' => by subst h; subst h'; exact hp) hb) fun c ⟨a', b', h, h', q⟩ => by subst h; subst h'; exact q

/-! ### ints -/
theorem o2_I0 {f : Int → Int → Int} : Op2 (rI0 fun i j => .int (f i j)) sInt sInt sInt (fun _ _ => True) (fun a b c => c = f a b) := fun H x y a b Q h1 h2 _ k => ⟨a, b, h1, h2, k _ _ H rfl (Same.refl H) rfl⟩
theorem o2_I {C : Int → Int → Prop} {f : Int → Int → Int} : Op2 (rI C fun i j => .int (f i j)) sInt sInt sInt C (fun a b c => c = f a b) := fun H x y a b Q h1 h2 hp k => ⟨a, b, h1, h2, hp, k _ _ H rfl (Same.refl H) rfl⟩
theorem o2_B0 {f : Int → Int → Bool} : Op2 (rI0 fun i j => .bl (f i j)) sInt sInt sBl (fun _ _ => True) (fun a b c => c = f a b) := fun H x y a b Q h1 h2 _ k => ⟨a, b, h1, h2, k _ _ H rfl (Same.refl H) rfl⟩
end
end PL
set_option Elab.async false
set_option linter.all false
set_option maxRecDepth 100000
set_option maxHeartbeats 4000000
namespace PL
open PySem PySem.Spec
open PyProof.Rows hiding St
open L2

theorem Paired.at {α β : Type} {F : α → β → Prop} : ∀ {xs : List α} {ys : List β} {i : Nat} {b : β}, Paired F xs ys → ys[i]? = some b → ∃ a, xs[i]? = some a ∧ F a b
  | _, _, _, _, .nil, e => by simp at e
  | _, _, 0, _, .cons r _, e => by simp at e; subst e; exact ⟨_, rfl, r⟩
  | _, _, i + 1, b, .cons _ t, e => by
    obtain ⟨u, h1, h2⟩ := Paired.at (i := i) (b := b) t (by simpa using e)
    exact ⟨u, by simpa using h1, h2⟩
theorem Paired.app {α β : Type} {F : α → β → Prop} : ∀ {xs xs' : List α} {ys ys' : List β}, Paired F xs ys → Paired F xs' ys' → Paired F (xs ++ xs') (ys ++ ys')
  | _, _, _, _, .nil, s => s
  | _, _, _, _, .cons r t, s => .cons r (Paired.app t s)
theorem Paired.takeP {α β : Type} {F : α → β → Prop} : ∀ {xs : List α} {ys : List β} (n : Nat), Paired F xs ys → Paired F (xs.take n) (ys.take n)
  | _, _, 0, _ => .nil
  | _, _, _ + 1, .nil => .nil
  | _, _, n + 1, .cons r t => .cons r (Paired.takeP n t)
theorem Paired.dropP {α β : Type} {F : α → β → Prop} : ∀ {xs : List α} {ys : List β} (n : Nat), Paired F xs ys → Paired F (xs.drop n) (ys.drop n)
  | _, _, 0, r => r
  | _, _, _ + 1, .nil => .nil
  | _, _, n + 1, .cons _ t => Paired.dropP n t
theorem Paired.int : ∀ {xs : List V} {ys : List Int} {H : Hp}, Paired (sInt H) xs ys → xs = ys.map V.int
  | _, _, _, .nil => rfl
  | _, _, _, .cons r t => by
    rw [List.map_cons, ← Paired.int t]
    cases r
    rfl
theorem Paired.bl : ∀ {xs : List V} {ys : List Bool} {H : Hp}, Paired (sBl H) xs ys → xs = ys.map V.bl
  | _, _, _, .nil => rfl
  | _, _, _, .cons r t => by
    rw [List.map_cons, ← Paired.bl t]
    cases r
    rfl
theorem Paired.ints {H : Hp} : ∀ {ys : List Int}, Paired (sInt H) (ys.map V.int) ys
  | [] => .nil
  | _ :: _ => .cons rfl Paired.ints
theorem condE {X : Cx} {e : Expr} {t : TE} {c : Prop} (h : c → PE X e t) : PE X e (fun σ H Q => c ∧ t σ H Q) := ⟨fun pins s σ H Q I q => (h q.1).run pins s σ H Q I q.2⟩
theorem condW {X : Cx} {e : Expr} {t : TT} {c : Prop} (h : c → PW X e t) : PW X e (fun σ H Q => c ∧ t σ H Q) := ⟨fun wh pins s σ H Q I q => (h q.1).run wh pins s σ H Q I q.2⟩
theorem condB {X : Cx} {e : List Stmt} {t : TS} {c : Prop} (h : c → PSs X e t) : PSs X e (fun D σ H => c ∧ t D σ H) := ⟨fun pins s σ H D I q => (h q.1).run pins s σ H D I q.2⟩
theorem exB {X : Cx} {e : List Stmt} {ι : Sort _} {t : ι → TS} (h : ∀ i, PSs X e (t i)) : PSs X e (fun D σ H => ∃ i, t i D σ H) := ⟨fun pins s σ H D I ⟨i, q⟩ => (h i).run pins s σ H D I q⟩

/-! ### fields -/
/-- the attribute f of what has the shape s -/
def Fld (K : PySem.W.Frag) {α β : Type} (s : Sh α) (f : Str) (t : Sh β) (g : α → β) : Prop := ∀ (H : Hp) (v : V) (a : α), s H v a →
  ∃ p C dx fs w, v = .ref p ∧ H p = some (.ins C dx fs) ∧ Cls K C ∧ NoAttr K C f ∧ fs.lookup f = some w ∧ t H w (g a)
/-- a constant of the class -/
def FldC (K : PySem.W.Frag) {α β : Type} (s : Sh α) (f : Str) (t : Sh β) (g : α → β) : Prop := ∀ (H : Hp) (v : V) (a : α), s H v a →
  ∃ p C dx fs w u, v = .ref p ∧ H p = some (.ins C dx fs) ∧ Cls K C ∧ Con K C f w u ∧ fs.lookup f = none ∧ t H w (g a)
section
variable {X : Cx} {Γ : List Cell} {α β γ δ : Type} {s : Sh α} {t : Sh β} {u : Sh γ} {P : α → Prop} {R : β → Prop} {e e1 e2 : Expr} {es : List Expr} {pos p : Pos} {a : α} {b : β}
theorem x_fldG {f : Str} {g : α → β} (F : Fld X.K s f t g) (h : XE X e Γ s P) (hb : attributeBase e f X.env (eval e X.env) = eval e X.env := by rfl) : XE X (.Attribute e f pos) Γ t (fun c => ∃ a, P a ∧ c = g a) :=
  weakE (pe_fld h hb) fun σ H Q ⟨E, q⟩ => ⟨E, fun a v H1 pa sm sv => by
    obtain ⟨p, C, dx, fs, w, h1, h2, h3, h4, h5, h6⟩ := F H1 v a sv
    exact ⟨p, C, dx, fs, w, h1, h2, h3, h4, h5, q _ w H1 ⟨a, pa, rfl⟩ sm h6⟩⟩
theorem x_fld {f : Str} {g : α → β} (F : Fld X.K s f t g) (h : XE X e Γ s (· = a)) (hb : attributeBase e f X.env (eval e X.env) = eval e X.env := by rfl) : XE X (.Attribute e f pos) Γ t (· = g a) :=
  xe_imp (x_fldG F h hb) fun c ⟨a', h, q⟩ => by subst h; exact q
theorem x_conG {f : Str} {g : α → β} (F : FldC X.K s f t g) (h : XE X e Γ s P) (hb : attributeBase e f X.env (eval e X.env) = eval e X.env := by rfl) : XE X (.Attribute e f pos) Γ t (fun c => ∃ a, P a ∧ c = g a) :=
  weakE (pe_con h hb) fun σ H Q ⟨E, q⟩ => ⟨E, fun a v H1 pa sm sv => by
    obtain ⟨p, C, dx, fs, w, u, h1, h2, h3, h4, h5, h6⟩ := F H1 v a sv
    exact ⟨p, C, dx, fs, w, u, h1, h2, h3, h4, h5, q _ w H1 ⟨a, pa, rfl⟩ sm h6⟩⟩
theorem x_con {f : Str} {g : α → β} (F : FldC X.K s f t g) (h : XE X e Γ s (· = a)) (hb : attributeBase e f X.env (eval e X.env) = eval e X.env := by rfl) : XE X (.Attribute e f pos) Γ t (· = g a) :=
  xe_imp (x_conG F h hb) fun c ⟨a', h, q⟩ => by subst h; exact q

/-! ### subscripts -/
theorem atI_P {F : V → α → Prop} {xs : List V} {as : List α} {i : Int} {a : α} (h : Paired F xs as) (e : atI as i = some a) : ∃ v, atI xs i = some v ∧ F v a := by
  unfold atI at e ⊢
  rw [show xs.length = as.length from h.length]
  cases q : ixN as.length i with
  | none =>
    rw [q] at e
    cases e
  | some j =>
    rw [q] at e
    exact Paired.at h e
/-- a list's item -/
theorem x_ixLG {Pi : Int → Prop} {R : α → Prop} {Pl : List α → Prop} [Mo s] (h : XE X e1 Γ (sL X.K s) Pl) (hi : XE X e2 Γ sInt Pi) (k : ∀ as i, Pl as → Pi i → ∃ a, atI as i = some a ∧ R a) (hx : PlainIx e2 := by exact fun _ _ => rfl) : XE X (.Subscript e1 e2 pos) Γ s R :=
  weakE (pe_ix ix_list h hi hx) fun σ H Q ⟨E, q⟩ => ⟨E, fun as v H1 pa e1 sv => ⟨E.up e1, fun i w H2 pi e2 si => by
    obtain ⟨p, xs, rfl, h2, h3⟩ := sv
    cases si
    obtain ⟨a, h4, h5⟩ := k as i pa pi
    obtain ⟨y, h6, h7⟩ := atI_P (paired_up e2 h3) h4
    exact ⟨p, xs, i, y, rfl, rfl, SqL.of (e2 _ _ h2), h6, q a y H2 h5 (e1.trans e2) h7⟩⟩⟩
theorem x_ixL {as : List α} {i : Int} [Mo s] (h : XE X e1 Γ (sL X.K s) (· = as)) (hi : XE X e2 Γ sInt (· = i)) (k : atI as i = some a) (hx : PlainIx e2 := by exact fun _ _ => rfl) : XE X (.Subscript e1 e2 pos) Γ s (· = a) :=
  x_ixLG h hi (fun _ _ h1 h2 => by subst h1; subst h2; exact ⟨a, k, rfl⟩) hx
theorem x_ixUG {Pi : Int → Prop} {R : α → Prop} {Pl : List α → Prop} [Mo s] (h : XE X e1 Γ (sU X.K s) Pl) (hi : XE X e2 Γ sInt Pi) (k : ∀ as i, Pl as → Pi i → ∃ a, atI as i = some a ∧ R a) (hx : PlainIx e2 := by exact fun _ _ => rfl) : XE X (.Subscript e1 e2 pos) Γ s R :=
  weakE (pe_ix ix_tup h hi hx) fun σ H Q ⟨E, q⟩ => ⟨E, fun as v H1 pa e1 sv => ⟨E.up e1, fun i w H2 pi e2 si => by
    obtain ⟨p, xs, rfl, h2, h3⟩ := sv
    cases si
    obtain ⟨a, h4, h5⟩ := k as i pa pi
    obtain ⟨y, h6, h7⟩ := atI_P (paired_up e2 h3) h4
    exact ⟨p, xs, i, y, rfl, rfl, Same.sqt e2 h2, h6, q a y H2 h5 (e1.trans e2) h7⟩⟩⟩
theorem x_ixU {as : List α} {i : Int} [Mo s] (h : XE X e1 Γ (sU X.K s) (· = as)) (hi : XE X e2 Γ sInt (· = i)) (k : atI as i = some a) (hx : PlainIx e2 := by exact fun _ _ => rfl) : XE X (.Subscript e1 e2 pos) Γ s (· = a) :=
  x_ixUG h hi (fun _ _ h1 h2 => by subst h1; subst h2; exact ⟨a, k, rfl⟩) hx
/-- a pair's items -/
theorem x_p0 {ab : α × β} {j : Nat} {p2 : Pos} (h : XE X e Γ (sP X.K s t) (· = ab)) : XE X (.Subscript e (.Constant (.int 0) j p2) pos) Γ s (· = ab.1) :=
  weakE (pe_ix ix_tup h pe_int (fun _ _ => rfl)) fun σ H Q ⟨E, q⟩ => ⟨E, fun ab' v H1 pa e1 sv => by
    subst pa
    obtain ⟨p, x, y, rfl, h2, h3, h4⟩ := sv
    exact ⟨p, [x, y], 0, x, rfl, rfl, h2, rfl, q _ x H1 rfl e1 h3⟩⟩
theorem x_p1 {ab : α × β} {j : Nat} {p2 : Pos} (h : XE X e Γ (sP X.K s t) (· = ab)) : XE X (.Subscript e (.Constant (.int 1) j p2) pos) Γ t (· = ab.2) :=
  weakE (pe_ix ix_tup h pe_int (fun _ _ => rfl)) fun σ H Q ⟨E, q⟩ => ⟨E, fun ab' v H1 pa e1 sv => by
    subst pa
    obtain ⟨p, x, y, rfl, h2, h3, h4⟩ := sv
    exact ⟨p, [x, y], 1, y, rfl, rfl, h2, rfl, q _ y H1 rfl e1 h4⟩⟩
theorem x_t0 {ab : α × β × γ} {j : Nat} {p2 : Pos} (h : XE X e Γ (sT X.K s t u) (· = ab)) : XE X (.Subscript e (.Constant (.int 0) j p2) pos) Γ s (· = ab.1) :=
  weakE (pe_ix ix_tup h pe_int (fun _ _ => rfl)) fun σ H Q ⟨E, q⟩ => ⟨E, fun ab' v H1 pa e1 sv => by
    subst pa
    obtain ⟨p, x, y, z, rfl, h2, h3, h4, h5⟩ := sv
    exact ⟨p, [x, y, z], 0, x, rfl, rfl, h2, rfl, q _ x H1 rfl e1 h3⟩⟩
theorem x_t1 {ab : α × β × γ} {j : Nat} {p2 : Pos} (h : XE X e Γ (sT X.K s t u) (· = ab)) : XE X (.Subscript e (.Constant (.int 1) j p2) pos) Γ t (· = ab.2.1) :=
  weakE (pe_ix ix_tup h pe_int (fun _ _ => rfl)) fun σ H Q ⟨E, q⟩ => ⟨E, fun ab' v H1 pa e1 sv => by
    subst pa
    obtain ⟨p, x, y, z, rfl, h2, h3, h4, h5⟩ := sv
    exact ⟨p, [x, y, z], 1, y, rfl, rfl, h2, rfl, q _ y H1 rfl e1 h4⟩⟩
theorem x_t2 {ab : α × β × γ} {j : Nat} {p2 : Pos} (h : XE X e Γ (sT X.K s t u) (· = ab)) : XE X (.Subscript e (.Constant (.int 2) j p2) pos) Γ u (· = ab.2.2) :=
  weakE (pe_ix ix_tup h pe_int (fun _ _ => rfl)) fun σ H Q ⟨E, q⟩ => ⟨E, fun ab' v H1 pa e1 sv => by
    subst pa
    obtain ⟨p, x, y, z, rfl, h2, h3, h4, h5⟩ := sv
    exact ⟨p, [x, y, z], 2, z, rfl, rfl, h2, rfl, q _ z H1 rfl e1 h5⟩⟩

/-! ### booleans -/
theorem x_and {pp q : Bool} {rest : List Expr} (h1 : XE X e1 Γ sBl (· = pp)) (h2 : pp = true → XE X (.BoolOp .And (e2 :: rest) pos) Γ sBl (· = q)) : XE X (.BoolOp .And (e1 :: e2 :: rest) pos) Γ sBl (· = (pp && q)) :=
  weakE (pe_and h1 (condE h2)) fun σ H Q ⟨E, k⟩ => ⟨E, fun b v H1 pb e1 sb => ⟨b, sb, by
    subst pb
    split
    · rename_i hb
      exact ⟨hb, E.up e1, fun c w H2 pc e2 sc => k c w H2 (by rw [pc, hb]; rfl) (e1.trans e2) sc⟩
    · rename_i hb
      exact k false _ H1 (by simp [hb]) e1 rfl⟩⟩
theorem x_one {op : BoolOp} (h1 : XE X e1 Γ s P) : XE X (.BoolOp op [e1] pos) Γ s P := pe_one h1
theorem x_not {pp : Bool} (h1 : XE X e1 Γ sBl (· = pp)) : XE X (.UnaryOp .Not e1 pos) Γ sBl (· = !pp) :=
  weakE (pe_not h1) fun σ H Q ⟨E, k⟩ => ⟨E, fun b v H1 pb e1 sb => ⟨b, sb, k _ _ H1 (by rw [pb]) e1 rfl⟩⟩

/-! ### tests -/
theorem xt_valG {Pb : Bool → Prop} (h : XE X e Γ sBl Pb) (he : ∀ whole, isTrue e X.env whole = (do let v ← whole; standAt e.pos; holding [v] (truthy v)) := by intro _; rfl) : XT X e Γ Pb :=
  weakT (pt_val h he) fun σ H Q ⟨E, k⟩ => ⟨E, fun b v H1 pb e1 sb => ⟨b, sb, k b H1 pb e1⟩⟩
theorem xt_val {pp : Bool} (h : XE X e Γ sBl (· = pp)) (he : ∀ whole, isTrue e X.env whole = (do let v ← whole; standAt e.pos; holding [v] (truthy v)) := by intro _; rfl) : XT X e Γ (· = pp) := xt_valG h he
theorem xt_not {pp : Bool} (h : XT X e Γ (· = pp)) : XT X (.UnaryOp .Not e pos) Γ (· = !pp) :=
  weakT (pt_not h) fun σ H Q ⟨E, k⟩ => ⟨E, fun b H1 pb e1 => k _ H1 (by rw [pb]) e1⟩
abbrev XW (X : Cx) (e : Expr) (Γ : List Cell) (P : Bool → Prop) : Prop := PW X e (tq Γ P)
theorem xw_and1 {Pb : Bool → Prop} (h : XT X e Γ Pb) : XW X (.BoolOp .And [e] pos) Γ Pb := pw_and1 h
theorem xw_or1 {Pb : Bool → Prop} (h : XT X e Γ Pb) : XW X (.BoolOp .Or [e] pos) Γ Pb := pw_or1 h
theorem xw_and {pp q : Bool} {rest : List Expr} (h1 : XT X e1 Γ (· = pp)) (h2 : pp = true → XW X (.BoolOp .And (e2 :: rest) pos) Γ (· = q)) : XW X (.BoolOp .And (e1 :: e2 :: rest) pos) Γ (· = (pp && q)) :=
  weakW (pw_and h1 (condW h2)) fun σ H Q ⟨E, k⟩ => ⟨E, fun b H1 pb e1 => by
    subst pb
    split
    · rename_i hb
      exact ⟨hb, E.up e1, fun c H2 pc e2 => k c H2 (by rw [pc, hb]; rfl) (e1.trans e2)⟩
    · rename_i hb
      exact k false H1 (by simp [hb]) e1⟩
theorem xw_or {pp q : Bool} {rest : List Expr} (h1 : XT X e1 Γ (· = pp)) (h2 : pp = false → XW X (.BoolOp .Or (e2 :: rest) pos) Γ (· = q)) : XW X (.BoolOp .Or (e1 :: e2 :: rest) pos) Γ (· = (pp || q)) :=
  weakW (pw_or h1 (condW h2)) fun σ H Q ⟨E, k⟩ => ⟨E, fun b H1 pb e1 => by
    subst pb
    split
    · rename_i hb
      exact k true H1 (by simp [hb]) e1
    · rename_i hb
      have hb : b = false := by simpa using hb
      exact ⟨hb, E.up e1, fun c H2 pc e2 => k c H2 (by rw [pc, hb]; rfl) (e1.trans e2)⟩⟩
theorem xw_pt {Pb : Bool → Prop} (h : XW X e Γ Pb) : XT X e Γ Pb := PW.pt h
/-- is None of an optional value -/
theorem o2_isN : Op2 (fun x y H Q => y = .non ∧ Q (.bl (decide (x = .non))) H) (sOpt s) sNon sBl (fun _ _ => True) (fun a _ c => c = a.isNone) := fun H x y a b Q h1 h2 _ k => ⟨h2, by
  cases a with
  | none =>
    have e : x = .non := h1
    subst e
    exact k _ _ H rfl (Same.refl H) rfl
  | some a =>
    exact k _ _ H rfl (Same.refl H) (by show V.bl _ = V.bl false; rw [decide_eq_false h1.1])⟩
theorem x_ifE {Pc : Bool → Prop} {c : Expr} (hc : XT X c Γ Pc) (h1 : Pc true → XE X e1 Γ s P) (h2 : Pc false → XE X e2 Γ s P) : XE X (.IfExp c e1 e2 pos) Γ s P :=
  weakE (pe_ifExp hc (condE h1) (condE h2)) fun σ H Q ⟨E, k⟩ => ⟨E, fun b H1 pb e1 => by
    cases b with
    | true => exact ⟨pb, E.up e1, fun c w H2 pc e2 sc => k c w H2 pc (e1.trans e2) sc⟩
    | false => exact ⟨pb, E.up e1, fun c w H2 pc e2 sc => k c w H2 pc (e1.trans e2) sc⟩⟩

/-! ### arguments, displays -/
theorem xa_nil : XA X [] Γ aN (fun _ => True) := weakA pa_nil fun σ H Q ⟨E, k⟩ => k () [] H trivial (Same.refl H) rfl
theorem xa_consG {sa : ShA β} [Mo s] (h : XE X e Γ s P) (r : XA X es Γ sa R) (hs : starEach (e :: es) X.env = (false, eval e X.env) :: starEach es X.env := by rfl) : XA X (e :: es) Γ (aC s sa) (fun ab => P ab.1 ∧ R ab.2) :=
  weakA (pa_cons h r hs) fun σ H Q ⟨E, k⟩ => ⟨E, fun a v H1 pa e1 sv => ⟨E.up e1, fun b w H2 pb e2 sw => k (a, b) (v :: w) H2 ⟨pa, pb⟩ (e1.trans e2) ⟨v, w, rfl, Mo.up e2 sv, sw⟩⟩⟩
theorem xa_imp {sa : ShA β} {R' : β → Prop} (h : XA X es Γ sa R) (k : ∀ b, R b → R' b) : XA X es Γ sa R' := weakA h fun σ H Q ⟨E, q⟩ => ⟨E, fun a v H' pa => q a v H' (k a pa)⟩
theorem xa0 : XA X [] Γ aN (· = ()) := xa_imp xa_nil fun _ _ => rfl
theorem xa {sa : ShA β} [Mo s] (h : XE X e Γ s (· = a)) (r : XA X es Γ sa (· = b)) (hs : starEach (e :: es) X.env = (false, eval e X.env) :: starEach es X.env := by rfl) : XA X (e :: es) Γ (aC s sa) (· = (a, b)) :=
  xa_imp (xa_consG h r hs) fun ⟨a', b'⟩ ⟨h1, h2⟩ => by
    cases h1
    cases h2
    rfl
/-- (a, b) -/
theorem x_tup2 {R : β → Prop} {k1 : Nat} [Mo s] [Mo t] (h1 : XE X e1 Γ s P) (h2 : XE X e2 Γ t R) (g1 : starEach [e1, e2] X.env = (false, eval e1 X.env) :: starEach [e2] X.env := by rfl) (g2 : starEach [e2] X.env = (false, eval e2 X.env) :: starEach [] X.env := by rfl) :
    XE X (.Tuple [e1, e2] k1 pos) Γ (sP X.K s t) (fun ab => P ab.1 ∧ R ab.2) :=
  weakE (pe_tup (xa_consG h1 (xa_consG h2 xa_nil g2) g1)) fun σ H Q ⟨E, k⟩ => ⟨E, fun ab v H1 pa e1 sv => by
    obtain ⟨a, b, c⟩ := ab
    obtain ⟨x, w, rfl, h3, y, w', rfl, h4, h5⟩ := sv
    cases h5
    refine ⟨(by show 2 ≤ sizeLine; decide), fun p hp => ?_⟩
    have e2 := Same.new (o := HO.tup [x, y]) hp
    exact k (a, b) _ _ ⟨pa.1, pa.2.1⟩ (e1.trans e2) ⟨p, x, y, rfl, SqT.of upd_same, Mo.up e2 h3, Mo.up e2 h4⟩⟩
theorem x_tup2D {k1 : Nat} [Mo s] [Mo t] (h1 : XE X e1 Γ s (· = a)) (h2 : XE X e2 Γ t (· = b)) (g1 : starEach [e1, e2] X.env = (false, eval e1 X.env) :: starEach [e2] X.env := by rfl) (g2 : starEach [e2] X.env = (false, eval e2 X.env) :: starEach [] X.env := by rfl) :
    XE X (.Tuple [e1, e2] k1 pos) Γ (sP X.K s t) (· = (a, b)) := xe_imp (x_tup2 h1 h2 g1 g2) fun ⟨a', b'⟩ ⟨h1, h2⟩ => by
      cases h1
      cases h2
      rfl
theorem x_tup3 {R : β → Prop} {S : γ → Prop} {e3 : Expr} {k1 : Nat} [Mo s] [Mo t] [Mo u] (h1 : XE X e1 Γ s P) (h2 : XE X e2 Γ t R) (h3 : XE X e3 Γ u S) (g1 : starEach [e1, e2, e3] X.env = (false, eval e1 X.env) :: starEach [e2, e3] X.env := by rfl) (g2 : starEach [e2, e3] X.env = (false, eval e2 X.env) :: starEach [e3] X.env := by rfl) (g3 : starEach [e3] X.env = (false, eval e3 X.env) :: starEach [] X.env := by rfl) :
    XE X (.Tuple [e1, e2, e3] k1 pos) Γ (sT X.K s t u) (fun ab => P ab.1 ∧ R ab.2.1 ∧ S ab.2.2) :=
  weakE (pe_tup (xa_consG h1 (xa_consG h2 (xa_consG h3 xa_nil g3) g2) g1)) fun σ H Q ⟨E, k⟩ => ⟨E, fun ab v H1 pa e1 sv => by
    obtain ⟨a, b, c, d⟩ := ab
    obtain ⟨x, w, rfl, h3, y, w', rfl, h4, z, w'', rfl, h5, h6⟩ := sv
    cases h6
    refine ⟨(by show 3 ≤ sizeLine; decide), fun p hp => ?_⟩
    have e2 := Same.new (o := HO.tup [x, y, z]) hp
    exact k (a, b, c) _ _ ⟨pa.1, pa.2.1, pa.2.2.1⟩ (e1.trans e2) ⟨p, x, y, z, rfl, SqT.of upd_same, Mo.up e2 h3, Mo.up e2 h4, Mo.up e2 h5⟩⟩
/-- items of one shape -/
theorem xs_nil : XA X [] Γ (aS s) (· = []) := weakA pa_nil fun σ H Q ⟨E, k⟩ => k [] [] H rfl (Same.refl H) .nil
theorem xs_consG {Ps : List α → Prop} [Mo s] (h : XE X e Γ s P) (r : XA X es Γ (aS s) Ps) (hs : starEach (e :: es) X.env = (false, eval e X.env) :: starEach es X.env := by rfl) : XA X (e :: es) Γ (aS s) (fun as => ∃ b bs, as = b :: bs ∧ P b ∧ Ps bs) :=
  weakA (pa_cons h r hs) fun σ H Q ⟨E, k⟩ => ⟨E, fun a v H1 pa e1 sv => ⟨E.up e1, fun b w H2 pb e2 sw => k (a :: b) (v :: w) H2 ⟨a, b, rfl, pa, pb⟩ (e1.trans e2) (.cons (Mo.up e2 sv) sw)⟩⟩
theorem xs {as : List α} [Mo s] (h : XE X e Γ s (· = a)) (r : XA X es Γ (aS s) (· = as)) (hs : starEach (e :: es) X.env = (false, eval e X.env) :: starEach es X.env := by rfl) : XA X (e :: es) Γ (aS s) (· = a :: as) :=
  xa_imp (xs_consG h r hs) fun _ ⟨b, bs, h1, h2, h3⟩ => by rw [h1, h2, h3]
theorem x_lstG {Ps : List α → Prop} [Mo s] (h : XA X es Γ (aS s) Ps) (hl : ∀ as, Ps as → as.length ≤ sizeLine) : XE X (.List es pos) Γ (sL X.K s) Ps :=
  weakE (pe_lst h) fun σ H Q ⟨E, k⟩ => ⟨E, fun as vs H1 pa e1 sv => ⟨by rw [Paired.length sv]; exact hl as pa, fun p hp => by
    have e2 := Same.new (o := HO.lst vs) hp
    exact k as _ _ pa (e1.trans e2) ⟨p, vs, rfl, upd_same, paired_up e2 sv⟩⟩⟩
theorem x_lst {as : List α} [Mo s] (h : XA X es Γ (aS s) (· = as)) (hl : as.length ≤ 16777216 := by decide) : XE X (.List es pos) Γ (sL X.K s) (· = as) := x_lstG h fun _ e => by subst e; exact hl
theorem x_tup {as : List α} {k1 : Nat} [Mo s] (h : XA X es Γ (aS s) (· = as)) (hl : as.length ≤ 16777216 := by decide) : XE X (.Tuple es k1 pos) Γ (sU X.K s) (· = as) :=
  weakE (pe_tup h) fun σ H Q ⟨E, k⟩ => ⟨E, fun as' vs H1 pa e1 sv => by
    subst pa
    refine ⟨by rw [Paired.length sv]; exact hl, fun p hp => ?_⟩
    have e2 := Same.new (o := HO.tup vs) hp
    exact k _ _ _ rfl (e1.trans e2) ⟨p, vs, rfl, SqT.of upd_same, paired_up e2 sv⟩⟩

/-! ### calls -/
theorem pe_callR {k : Nat} {f : Addr} {sp : Sp} {x : Str} {t : TA} (F : FnR X.prog X.w X.K X.mg X.base CX0 k f sp) (hr : Room k X.A) (hg : Gl X x) (hm : X.mg x = some (.ref f)) (hk : PySem.W.keepIn X.K (.ref f) = true)
    (ha : PA X (e :: es) t) (hdb : (x == ("__debug__" : Str)) = false := by decide) (he : starEach (e :: es) X.env = (false, eval e X.env) :: starEach es X.env := by rfl) (hpl : (backTo pos (starEach es X.env)).any (·.1) = false := by rfl) :
    PE X (.Call (.Name x p) (e :: es) [] pos) (fun σ H Q => t σ H fun vs H1 => sp vs H1 Q E0) := by
  refine ⟨fun pins s σ H Q I h => ?_⟩
  refine wpAny_Call_Name_kw (ld_glob I hg hm ?_ hdb)
  refine PySem.W.callWith_K (h₀ := X.base) I.ok.mod.kin hk (thn (ha.run pos pins s σ H _ I h) fun us s1 ⟨vs, H1, I1, r, q⟩ => ⟨I1.kIn, ?_⟩) he hpl
  exact wpAny_call (run_fnR F hr pass0 I1 r q)
section
variable {sa : ShA α} {sr : Sh β} {pre : α → Prop} {post : α → β → Prop} {f : Addr} {x : Str} {k : Nat} {F1 : α → β}
theorem x_callG {Pa : α → Prop} (F : FnR X.prog X.w X.K X.mg X.base CX0 k f (spG sa pre sr post)) (hr : Room k X.A) (hm : X.mg x = some (.ref f)) (hk : PySem.W.keepIn X.K (.ref f) = true) (h : XA X (e :: es) Γ sa Pa) (hp : ∀ a, Pa a → pre a)
    (hg : Gl X x := by rfl) (hd : (x == ("__debug__" : Str)) = false := by decide) (he : starEach (e :: es) X.env = (false, eval e X.env) :: starEach es X.env := by rfl) (hpl : (backTo pos (starEach es X.env)).any (·.1) = false := by rfl) :
    XE X (.Call (.Name x p) (e :: es) [] pos) Γ sr (fun r => ∃ a, Pa a ∧ post a r) :=
  weakE (pe_callR F hr hg hm hk h hd he hpl) fun σ H Q ⟨E, q⟩ => ⟨E, fun a vs H1 pa e1 sv => ⟨a, sv, hp a pa, fun r v H2 po e2 sw => q r v H2 ⟨a, pa, po⟩ (e1.trans e2) sw⟩⟩
theorem x_callP {a : α} (F : FnR X.prog X.w X.K X.mg X.base CX0 k f (spG sa pre sr post)) (hr : Room k X.A) (hm : X.mg x = some (.ref f)) (hk : PySem.W.keepIn X.K (.ref f) = true) (h : XA X (e :: es) Γ sa (· = a)) (hp : pre a)
    (hg : Gl X x := by rfl) (hd : (x == ("__debug__" : Str)) = false := by decide) (he : starEach (e :: es) X.env = (false, eval e X.env) :: starEach es X.env := by rfl) (hpl : (backTo pos (starEach es X.env)).any (·.1) = false := by rfl) :
    XE X (.Call (.Name x p) (e :: es) [] pos) Γ sr (post a) := xe_imp (x_callG F hr hm hk h (fun _ e => by subst e; exact hp) hg hd he hpl) fun r ⟨a', h1, h2⟩ => by subst h1; exact h2
theorem x_call {a : α} (F : FnR X.prog X.w X.K X.mg X.base CX0 k f (spD sa pre sr F1)) (hr : Room k X.A) (hm : X.mg x = some (.ref f)) (hk : PySem.W.keepIn X.K (.ref f) = true) (h : XA X (e :: es) Γ sa (· = a)) (hp : pre a)
    (hg : Gl X x := by rfl) (hd : (x == ("__debug__" : Str)) = false := by decide) (he : starEach (e :: es) X.env = (false, eval e X.env) :: starEach es X.env := by rfl) (hpl : (backTo pos (starEach es X.env)).any (·.1) = false := by rfl) :
    XE X (.Call (.Name x p) (e :: es) [] pos) Γ sr (· = F1 a) := x_callP F hr hm hk h hp hg hd he hpl
end
end
end PL
set_option Elab.async false
set_option linter.all false
set_option maxRecDepth 100000
set_option maxHeartbeats 4000000
namespace PL
open PySem PySem.Spec
open PyProof.Rows hiding St
open L2

/-! ### a list that nobody else sees -/
def hide (H : Hp) (D : Addr) : Hp := fun a => if a = D then none else H a
theorem hide_at {H : Hp} {D : Addr} : hide H D D = none := by unfold hide; rw [if_pos rfl]
theorem hide_ne {H : Hp} {D a : Addr} (h : a ≠ D) : hide H D a = H a := by unfold hide; rw [if_neg h]
theorem hide_upd {H : Hp} {D : Addr} {o : HO} (h : H D = none) : hide (upd H D o) D = H := by
  funext a
  by_cases e : a = D
  · rw [e, hide_at, h]
  · rw [hide_ne e, upd_ne e]
theorem upd_hide {H : Hp} {D : Addr} {o : HO} (h : H D = some o) : upd (hide H D) D o = H := by
  funext a
  by_cases e : a = D
  · rw [e, upd_same, h]
  · rw [upd_ne e, hide_ne e]
theorem hide_same {H : Hp} {D : Addr} : Same (hide H D) H := fun a o e => by
  by_cases h : a = D
  · rw [h, hide_at] at e
    cases e
  · rw [hide_ne h] at e
    exact e
theorem same_upd {H H1 : Hp} {D : Addr} {o : HO} (e : Same H H1) (h : H D = none) : Same H (upd H1 D o) := fun a u ha => by
  rw [upd_ne (ne_of_none ha h)]
  exact e a u ha
theorem hide_upd' {H : Hp} {D : Addr} {o : HO} : hide (upd H D o) D = hide H D := by
  funext a
  by_cases e : a = D
  · rw [e, hide_at, hide_at]
  · rw [hide_ne e, hide_ne e, upd_ne e]
theorem same_hide {H H1 : Hp} {D : Addr} (e : Same H H1) : Same (hide H D) (hide H1 D) := fun a o ha => by
  by_cases h : a = D
  · rw [h, hide_at] at ha
    cases ha
  · rw [hide_ne h] at ha ⊢
    exact e a o ha

section
variable {X : Cx} {pins : List (Addr × Obj)} {σ : L2.St} {H H1 : Hp} {s s' : Shared} {D : Addr} {acc : List V}
theorem stay_hide {P : Program} {w : World} {H : Hp} {h h' : Heap} {a D : Addr} {o : HO} {vs : List V} (x : ObjOk P w H h a o) (hD : H D = some (.lst vs)) : ObjOk P w (hide H D) h a o :=
  x.stay (fun _ _ _ q => q) (fun b hb => by rw [hide_ne (fun z => by rw [z, hD] at hb; cases hb)]; exact hb) fun b xs hb => by rw [hide_ne (fun z => by rw [z, hD] at hb; cases hb)]; exact hb
theorem same_to_hide {H H1 : Hp} {D : Addr} (e : Same H H1) (h : H D = none) : Same H (hide H1 D) := fun a o ha => by
  rw [hide_ne (ne_of_none ha h)]
  exact e a o ha
theorem Inv.hid (I : Inv X pins σ H s) (hD : H D = some (.lst acc)) : ∃ o, s.heap.get? D = some o ∧ (∃ its n, o = { cls := .type "list", data := .seq its n }) ∧ Inv X ((D, o) :: pins) σ (hide H D) s := by
  obtain ⟨z, its, n, r, e⟩ : acc.length ≤ sizeLine ∧ ∃ (its : List Value) (n : Nat), Vals acc its ∧ s.heap.get? D = some { cls := .type "list", data := .seq its.toArray n } := I.hok D _ hD
  refine ⟨_, e, ⟨_, _, rfl⟩, ?_⟩
  have hn : ∀ b, H b = none → hide H D b = none := fun b hb => by
    by_cases h : b = D
    · rw [h, hide_at]
    · rw [hide_ne h]; exact hb
  have hk : ∀ b u, (∀ xs, u ≠ HO.lst xs) → H b = some u → hide H D b = some u := fun b u nu hb => by
    rw [hide_ne fun z => ?_]
    · exact hb
    · rw [z, hD] at hb
      exact nu _ (Option.some.inj hb).symm
  refine ⟨I.ok, I.os, I.bare, ⟨I.base.keep, I.base.slot, fun b o q n x => hn b (I.base.free b o q n x), I.base.there, fun b xs q => hk b _ (fun _ z => nomatch z) (I.base.tups b xs q), fun b o u q => hk b _ (fun _ z => nomatch z) (I.base.frzs b o u q), fun b ps q => ?_⟩, I.loc, I.cell, hn _ I.free, fun x c q => hn _ (I.freeC x c q), fun p hp => ?_, fun b o q => ?_, I.len⟩
  · obtain ⟨more, q1⟩ := I.base.tbls b ps q
    exact ⟨more, hk b _ (fun _ z => nomatch z) q1⟩
  · rcases List.mem_append.mp hp with h | h
    · obtain ⟨p1, p2, p3, p4, p5⟩ := I.pin p (List.mem_append_left _ h)
      exact ⟨p1, hn _ p2, p3, p4, p5⟩
    · rcases List.mem_cons.mp h with h | h
      · subst h
        refine ⟨e, hide_at, fun z => ?_, fun z => ?_, fun v q => nomatch q⟩
        · have q := I.free
          rw [← z, hD] at q
          cases q
        · obtain ⟨_, o, ho, _⟩ := I.ok.funs.mem z
          have q := I.base.free D o ho (I.ok.frf D z) fun y => I.ok.exfs D y z
          rw [hD] at q
          cases q
      · obtain ⟨p1, p2, p3, p4, p5⟩ := I.pin p (List.mem_append_right _ h)
        exact ⟨p1, hn _ p2, p3, p4, p5⟩
  · by_cases h : b = D
    · rw [h, hide_at] at q
      cases q
    · rw [hide_ne h] at q
      exact stay_hide (h' := s.heap) (I.hok b o q) hD
theorem Inv.unhid {o : Obj} (I : Inv X pins σ H s) (hD : H D = some (.lst acc)) (ho : s.heap.get? D = some o) {σ' : L2.St} (J : Inv X ((D, o) :: pins) σ' H1 s') : H1 D = none ∧ Inv X pins σ' (upd H1 D (.lst acc)) s' := by
  obtain ⟨p1, p2, p3, p4, p5⟩ := J.pin (D, o) (List.mem_append_right _ List.mem_cons_self)
  have hn : ∀ b, b ≠ D → H1 b = none → upd H1 D (.lst acc) b = none := fun b h hb => by rw [upd_ne h]; exact hb
  have hk : ∀ b u, H1 b = some u → upd H1 D (.lst acc) b = some u := fun b u hb => by rw [upd_ne (ne_of_none hb p2)]; exact hb
  have ok1 := I.hok D _ hD
  refine ⟨p2, J.ok, J.os, J.bare, ⟨J.base.keep, J.base.slot, fun b o' q n x => ?_, J.base.there, fun b xs q => hk b _ (J.base.tups b xs q), fun b o u q => hk b _ (J.base.frzs b o u q), fun b ps q => ?_⟩, J.loc, J.cell, ?_, fun x c q => ?_, fun p hp => ?_, fun b u q => ?_, J.len⟩
  · refine hn b (fun z => ?_) (J.base.free b o' q n x)
    subst z
    have y := I.base.free b o' q n x
    rw [hD] at y
    cases y
  · obtain ⟨more, q1⟩ := J.base.tbls b ps q
    exact ⟨more, hk b _ q1⟩
  · exact hn _ (fun z => p3 z.symm) J.free
  · refine hn _ (fun z => ?_) (J.freeC x c q)
    have y := I.freeC x c q
    rw [z, hD] at y
    cases y
  · have hp' : p ∈ X.pn ++ (D, o) :: pins := by
      rcases List.mem_append.mp hp with h | h
      · exact List.mem_append_left _ h
      · exact List.mem_append_right _ (List.mem_cons_of_mem _ h)
    obtain ⟨q1, q2, q3, q4, q5⟩ := J.pin p hp'
    refine ⟨q1, hn _ (fun z => ?_) q2, q3, q4, q5⟩
    have y := (I.pin p hp).2.1
    rw [z, hD] at y
    cases y
  · by_cases h : b = D
    · subst h
      rw [upd_same] at q
      cases q
      obtain ⟨z, its, n, r, e⟩ : acc.length ≤ sizeLine ∧ ∃ (its : List Value) (n : Nat), Vals acc its ∧ s.heap.get? b = some { cls := .type "list", data := .seq its.toArray n } := ok1
      rw [ho] at e
      cases e
      exact ⟨z, its, n, r, p1⟩
    · rw [upd_ne h] at q
      exact (J.hok b u q).stay (fun _ _ _ y => y) (fun c y => hk c _ y) fun c xs y => hk c _ y
end
section
variable {X : Cx} {e : Expr}
theorem frameE {t : TE} (h : PE X e t) : PE X e (fun σ H Q => ∃ D acc, H D = some (.lst acc) ∧ t σ (hide H D) (fun v H1 => H1 D = none → Q v (upd H1 D (.lst acc)))) := ⟨fun pins s σ H Q I ⟨D, acc, hD, q⟩ => by
  obtain ⟨o, ho, _, J⟩ := Inv.hid I hD
  refine thn (h.run _ s σ _ _ J q) fun u s1 ⟨v, H1, J1, r, k⟩ => ?_
  obtain ⟨hn, I1⟩ := Inv.unhid I hD ho J1
  exact ⟨v, _, I1, r, k hn⟩⟩
theorem frameT {t : TT} (h : PT X e t) : PT X e (fun σ H Q => ∃ D acc, H D = some (.lst acc) ∧ t σ (hide H D) (fun v H1 => H1 D = none → Q v (upd H1 D (.lst acc)))) := ⟨fun pins s σ H Q I ⟨D, acc, hD, q⟩ => by
  obtain ⟨o, ho, _, J⟩ := Inv.hid I hD
  refine thn (h.run _ s σ _ _ J q) fun u s1 ⟨H1, J1, k⟩ => ?_
  obtain ⟨hn, I1⟩ := Inv.unhid I hD ho J1
  exact ⟨_, I1, k hn⟩⟩
theorem frameTs {cs : List Expr} {t : TT} (h : PTs X cs t) : PTs X cs (fun σ H Q => ∃ D acc, H D = some (.lst acc) ∧ t σ (hide H D) (fun v H1 => H1 D = none → Q v (upd H1 D (.lst acc)))) := ⟨fun pins s σ H Q I ⟨D, acc, hD, q⟩ => by
  obtain ⟨o, ho, _, J⟩ := Inv.hid I hD
  refine thn (h.run _ s σ _ _ J q) fun u s1 ⟨H1, J1, k⟩ => ?_
  obtain ⟨hn, I1⟩ := Inv.unhid I hD ho J1
  exact ⟨_, I1, k hn⟩⟩
theorem frameI {tg iter : Expr} {t : TI} (h : PI X tg iter t) : PI X tg iter (fun σ H R => ∃ D acc, H D = some (.lst acc) ∧ t σ (hide H D) (fun J H1 => H1 D = none → R J (upd H1 D (.lst acc)))) := ⟨fun pins s σ H R I ⟨D, acc, hD, q⟩ => by
  obtain ⟨o, ho, _, J⟩ := Inv.hid I hD
  refine thn (h.run _ s σ _ _ J q) fun u s1 y => thn y fun u2 s2 ⟨it, fp, tn, Jt, H1, e1, J1, T, st, fo, k⟩ => ?_
  obtain ⟨hn, I1⟩ := Inv.unhid I hD ho J1
  refine ⟨it, fp, tn, Jt, _, e1, I1, T, st, fun b hb => ?_, k hn⟩
  obtain ⟨f1, f2, f3, f4, f5, f6⟩ := fo b hb
  refine ⟨?_, f2, f3, f4, f5, fun p hp => f6 p ?_⟩
  · rw [upd_ne]
    · exact f1
    · exact fun z => f6 (D, o) (List.mem_append_right _ List.mem_cons_self) z.symm
  · rcases List.mem_append.mp hp with h | h
    · exact List.mem_append_left _ h
    · exact List.mem_append_right _ (List.mem_cons_of_mem _ h)⟩
theorem exE {ι : Sort _} {t : ι → TE} (h : ∀ i, PE X e (t i)) : PE X e (fun σ H Q => ∃ i, t i σ H Q) := ⟨fun pins s σ H Q I ⟨i, q⟩ => (h i).run pins s σ H Q I q⟩
theorem exTs {ι : Sort _} {cs : List Expr} {t : ι → TT} (h : ∀ i, PTs X cs (t i)) : PTs X cs (fun σ H Q => ∃ i, t i σ H Q) := ⟨fun pins s σ H Q I ⟨i, q⟩ => (h i).run pins s σ H Q I q⟩
end

/-! ### what is walked -/
structure ItOk (J : It) {α : Type} (sx : Sh α) (xs : List α) (H1 : Hp) : Prop where
  ex : ∃ (G : Hp → Prop) (Y : Nat → Hp → V → Hp → Prop), Walk J xs.length G Y ∧ (∀ H, Same H1 H → G H) ∧ ∀ i H v H', Same H1 H → Y i H v H' → Same H H' ∧ ∃ x, xs[i]? = some x ∧ sx H' v x ∧ ∀ D, H1 D = none → H D ≠ none → sx (hide H' D) v x
def ti (Γ : List Cell) {α : Type} (sx : Sh α) (P : List α → Prop) : TI := fun σ H R => Env H σ Γ ∧ ∀ J H1 xs, P xs → Same H H1 → ItOk J sx xs H1 → R J H1
abbrev XI (X : Cx) (tg iter : Expr) (Γ : List Cell) {α : Type} (sx : Sh α) (P : List α → Prop) : Prop := PI X tg iter (ti Γ sx P)
theorem weakI {X : Cx} {tg iter : Expr} {t t' : TI} (h : PI X tg iter t) (k : ∀ σ H R, t' σ H R → t σ H R) : PI X tg iter t' := ⟨fun pins s σ H R I q => h.run pins s σ H R I (k _ _ _ q)⟩
def enumL {α : Type} (as : List α) : List (Int × α) := ((List.range as.length).map Int.ofNat).zip as
def rangeL (lo : Int) (n : Nat) : List Int := (List.range n).map fun (i : Nat) => lo + (i : Int)
section
variable {X : Cx} {Γ : List Cell} {α β γ : Type} {s : Sh α} {t : Sh β} {u : Sh γ} {P : List α → Prop} {R : List β → Prop} {e e1 e2 tg : Expr} {pos p : Pos} [Mo s] [Mo t]
theorem xi_list (h : XE X e Γ (sL X.K s) P) : XI X tg e Γ s P := weakI (pi_list h) fun σ H R ⟨E, q⟩ => ⟨E, fun as v H1 pa sm sv => by
  obtain ⟨a, xs, rfl, h2, h3⟩ := sv
  refine ⟨a, rfl, ⟨xs, SqL.of h2⟩, q _ H1 as pa sm ⟨_, _, by rw [← h3.length]; exact walk_list, fun H' e => SqL.of (e _ _ h2), fun i H2 v H' e y => ?_⟩⟩
  obtain ⟨rfl, y⟩ := y
  have hl : i < as.length := by rw [← h3.length]; exact (List.getElem?_eq_some_iff.mp y).1
  obtain ⟨w, h4, h5⟩ := Paired.at h3 (List.getElem?_eq_getElem hl)
  rw [y] at h4
  cases h4
  exact ⟨Same.refl _, as[i], List.getElem?_eq_getElem hl, Mo.up e h5, fun D hD _ => Mo.up (same_to_hide e hD) h5⟩⟩
theorem xi_tup (h : XE X e Γ (sU X.K s) P) : XI X tg e Γ s P := weakI (pi_tup h) fun σ H R ⟨E, q⟩ => ⟨E, fun as v H1 pa sm sv => by
  obtain ⟨a, xs, rfl, h2, h3⟩ := sv
  refine ⟨a, rfl, ⟨xs, h2⟩, q _ H1 as pa sm ⟨_, _, by rw [← h3.length]; exact walk_tup, fun H' e => Same.sqt e h2, fun i H2 v H' e y => ?_⟩⟩
  obtain ⟨rfl, y⟩ := y
  have hl : i < as.length := by rw [← h3.length]; exact (List.getElem?_eq_some_iff.mp y).1
  obtain ⟨w, h4, h5⟩ := Paired.at h3 (List.getElem?_eq_getElem hl)
  rw [y] at h4
  cases h4
  exact ⟨Same.refl _, as[i], List.getElem?_eq_getElem hl, Mo.up e h5, fun D hD _ => Mo.up (same_to_hide e hD) h5⟩⟩
theorem rangeL_at {lo : Int} {n i : Nat} (h : i < n) : (rangeL lo n)[i]? = some (lo + i) := by
  unfold rangeL
  rw [List.getElem?_map, List.getElem?_range h] <;> rfl
theorem rangeL_len {lo : Int} {n : Nat} : (rangeL lo n).length = n := by
  unfold rangeL
  simp
theorem itok_range {lo : Int} {n : Nat} {H : Hp} : ItOk (Itr lo n) sInt (rangeL lo n) H := by
  refine ⟨fun _ => True, fun i H x H' => i < n ∧ H' = H ∧ x = V.int (lo + (i : Int)), ?_, fun _ _ => trivial, ?_⟩
  · rw [rangeL_len]
    exact walk_range.mono (fun _ h => h) fun i H x H' hi _ y => ⟨hi, y⟩
  · rintro i H2 v H' e ⟨hi, y1, y2⟩
    subst y1
    exact ⟨Same.refl _, lo + (i : Int), rangeL_at hi, y2, fun _ _ _ => y2⟩
theorem xi_range1 {Pn : Int → Prop} (hm : X.mg "range" = none) (h : XE X e Γ sInt Pn) (hb : ∀ n, Pn n → -(2 ^ 62) ≤ n ∧ n < 2 ^ 62) (hg : Gl X "range" := by rfl) (hs : starEach [e] X.env = [(false, eval e X.env)] := by rfl) :
    XI X tg (.Call (.Name "range" p) [e] [] pos) Γ sInt (fun xs => ∃ n, Pn n ∧ xs = rangeL 0 n.toNat) := weakI (pi_range1 hg hm (pa_cons h pa_nil hs) hs) fun σ H R ⟨E, q⟩ => ⟨E, fun n v H1 pn sm sv => by
  cases sv
  exact ⟨n, rfl, (hb n pn).1, (hb n pn).2, q _ H1 _ ⟨n, pn, rfl⟩ sm itok_range⟩⟩
theorem zip_at {as : List α} {bs : List β} {i : Nat} {a : α} {b : β} (h1 : as[i]? = some a) (h2 : bs[i]? = some b) : (as.zip bs)[i]? = some (a, b) := by
  rw [List.getElem?_zip_eq_some]
  exact ⟨h1, h2⟩
theorem itok_zip {K : PySem.W.Frag} {a b : Addr} {xs ys : List V} {as : List α} {bs : List β} {H : Hp} (h1 : SqL K H a xs) (h2 : SqL K H b ys) (p1 : Paired (s H) xs as) (p2 : Paired (t H) ys bs) : ItOk (Itz K a b) (sP K s t) (as.zip bs) H :=
  ⟨_, _, walk_zip (xs := xs) (ys := ys) (by rw [List.length_zip, p1.length, p2.length]), fun H' e => ⟨Same.seq e h1, Same.seq e h2⟩, fun i H2 v H' e ⟨T, x, y, h3, h4, h5, h6, h7⟩ => by
    subst h3 h5
    have l1 : i < as.length := by rw [← p1.length]; exact (List.getElem?_eq_some_iff.mp h6).1
    have l2 : i < bs.length := by rw [← p2.length]; exact (List.getElem?_eq_some_iff.mp h7).1
    obtain ⟨x', q1, q2⟩ := Paired.at p1 (List.getElem?_eq_getElem l1)
    obtain ⟨y', q3, q4⟩ := Paired.at p2 (List.getElem?_eq_getElem l2)
    have h6 : xs[i]? = some x := h6
    have h7 : ys[i]? = some y := h7
    rw [h6] at q1
    rw [h7] at q3
    cases q1
    cases q3
    have e2 := Same.new (o := HO.tup [x, y]) h4
    exact ⟨e2, (as[i], bs[i]), zip_at (List.getElem?_eq_getElem l1) (List.getElem?_eq_getElem l2), ⟨T, x, y, rfl, SqT.of upd_same, Mo.up (e.trans e2) q2, Mo.up (e.trans e2) q4⟩, fun D hD hn => by
      have hTD : T ≠ D := fun z => hn (by rw [← z]; exact h4)
      exact ⟨T, x, y, rfl, SqT.of (by rw [hide_ne hTD, upd_same]), Mo.up (same_to_hide (e.trans e2) hD) q2, Mo.up (same_to_hide (e.trans e2) hD) q4⟩⟩⟩
variable {elts : List Expr} {kk : Nat} {tpos : Pos}
theorem xi_zip (hm : X.mg "zip" = none) (h : XE X e1 Γ (sL X.K s) P) (h2 : XE X e2 Γ (sL X.K t) R) (hg : Gl X "zip" := by rfl) (hs : starEach [e1, e2] X.env = (false, eval e1 X.env) :: starEach [e2] X.env := by rfl) (hs2 : starEach [e2] X.env = (false, eval e2 X.env) :: starEach [] X.env := by rfl) (hpl : (backTo pos (starEach [e2] X.env)).any (·.1) = false := by rfl) :
    XI X (.Tuple elts kk tpos) (.Call (.Name "zip" p) [e1, e2] [] pos) Γ (sP X.K s t) (fun zs => ∃ xs ys, P xs ∧ R ys ∧ zs = xs.zip ys) := weakI (RZ.pi_zipA hg hm (pa_cons h (pa_cons h2 pa_nil hs2) hs) hs hpl) fun σ H Q ⟨E, q⟩ => ⟨E, fun as v H1 pa sm sv => ⟨E.up sm, fun bs w H2 pb sm2 sw => by
  obtain ⟨a, xs, rfl, g2, g3⟩ := sv
  obtain ⟨b, ys, rfl, g5, g6⟩ := sw
  exact ⟨a, b, xs, ys, rfl, .inl ⟨SqL.of (sm2 _ _ g2), SqL.of g5, q _ H2 _ ⟨as, bs, pa, pb, rfl⟩ (sm.trans sm2) (itok_zip (SqL.of (sm2 _ _ g2)) (SqL.of g5) (paired_up sm2 g3) g6)⟩⟩⟩⟩
theorem xi_imp {tg : Expr} {P' : List α → Prop} (h : XI X tg e Γ s P) (k : ∀ xs, P xs → P' xs) : XI X tg e Γ s P' := weakI h fun σ H R ⟨E, q⟩ => ⟨E, fun J H1 xs pa => q J H1 xs (k xs pa)⟩
end

/-! ### targets -/
def wipeC (Γ : List Cell) : List Nat → List Cell
  | [] => Γ
  | v :: vs => (wipeC Γ vs).set v .no
theorem env_wipe {H : Hp} {σ : L2.St} {Γ : List Cell} (E : Env H σ Γ) : ∀ vs : List Nat, Env H (wipe σ vs) (wipeC Γ vs)
  | [] => E
  | v :: vs => (env_wipe E vs).forget
/-- a target's store: Γ becomes up x Γ; B: the part of the heap that Γ speaks of -/
def Tgt (g : TG) (vs : List Nat) {α : Type} (sx : Sh α) (up : α → List Cell → List Cell) : Prop := ∀ (v : V) (x : α) (σ : L2.St) (H B : Hp) (Γ : List Cell) (Q : L2.St → Hp → Prop), Same B H → sx B v x → Env B σ Γ →
  (∀ σ', Env B σ' (up x Γ) → wipe σ' vs = wipe σ vs → (∀ j, j ∉ vs → σ'[j]? = σ[j]?) → Q σ' H) → g v σ H Q
theorem tgt_name {α : Type} {s : Sh α} [m : Mo s] (i : Nat) : Tgt (gName i) [i] s (fun x Γ => Γ.set i (.is s m x)) := fun v x σ H B Γ Q _ h E k => k _ (E.set h) (by
  show (wipe (σ.set i (some v)) []).set i none = (wipe σ []).set i none
  show (σ.set i (some v)).set i none = σ.set i none
  rw [List.set_set]) fun j hj => List.getElem?_set_ne (fun z => hj (by simp [z]))
theorem tgt_pair {K : PySem.W.Frag} {α β : Type} {s : Sh α} {t : Sh β} [m : Mo s] [n : Mo t] (i j : Nat) : Tgt (gTup K 2 (gCons (gName i) (gCons (gName j) gNil))) [i, j] (sP K s t) (fun x Γ => (Γ.set i (.is s m x.1)).set j (.is t n x.2)) :=
  fun v x σ H B Γ Q e h E k => by
    obtain ⟨p, a, b, rfl, h2, h3, h4⟩ := h
    refine ⟨p, [a, b], rfl, Same.sqt e h2, rfl, a, [b], rfl, b, [], rfl, rfl, ?_⟩
    refine k _ ((E.set h3).set h4) ?_ fun l hl => ?_
    · show ((((σ.set i (some a)).set j (some b)).set j none).set i none) = (σ.set j none).set i none
      rw [List.set_set]
      by_cases e : i = j
      · subst e
        rw [List.set_set, List.set_set, List.set_set]
      · rw [List.set_comm _ _ e, List.set_set]
    · simp only [List.mem_cons, not_or] at hl
      rw [List.getElem?_set_ne (fun z => hl.2.1 z.symm), List.getElem?_set_ne (fun z => hl.1 z.symm)]
theorem wipe_at {σ : L2.St} {j : Nat} : ∀ {vs : List Nat}, (wipe σ vs)[j]? = if j ∈ vs then (σ[j]?.map fun _ => none) else σ[j]?
  | [] => by simp [wipe]
  | v :: vs => by
    show ((wipe σ vs).set v none)[j]? = _
    by_cases h : v = j
    · subst h
      rw [if_pos List.mem_cons_self]
      by_cases hl : v < σ.length
      · rw [List.getElem?_set_self (by rw [wipe_length]; exact hl), List.getElem?_eq_getElem hl]
        rfl
      · rw [List.getElem?_eq_none (by rw [List.length_set, wipe_length]; omega), List.getElem?_eq_none (by omega)]
        rfl
    · rw [List.getElem?_set_ne h, wipe_at]
      have e : (j ∈ v :: vs) = (j ∈ vs) := by
        simp only [List.mem_cons, eq_iff_iff]
        exact ⟨fun z => z.resolve_left fun q => h q.symm, .inr⟩
      simp only [e]
theorem wipe_wipe (σ : L2.St) (vs : List Nat) : wipe (wipe σ vs) vs = wipe σ vs := by
  apply List.ext_getElem?
  intro j
  rw [wipe_at, wipe_at]
  split
  · cases σ[j]? <;> rfl
  · rfl

/-! ### comprehensions -/
section
variable {X : Cx} {Γ : List Cell} {α β : Type} {sx : Sh α} {s : Sh β} {Pl : List α → Prop} {elt tg iter : Expr} {scope : Scope} {pos : Pos} {own : List (Str × Nat)} {g : TG} {up : α → List Cell → List Cell} [Mo s]
/-- what comes of it: item by item, those that the test leaves out are left out -/
inductive LcR {α β : Type} (Pc : α → Bool → Prop) (Pe : α → β → Prop) : List α → List β → Prop where
  | nil : LcR Pc Pe [] []
  | yes {x : α} {y : β} {xs : List α} {ys : List β} (c : Pc x true) (e : Pe x y) (t : LcR Pc Pe xs ys) : LcR Pc Pe (x :: xs) (y :: ys)
  | no {x : α} {xs : List α} {ys : List β} (c : Pc x false) (t : LcR Pc Pe xs ys) : LcR Pc Pe (x :: xs) ys
theorem LcR.snoc_yes {Pc : α → Bool → Prop} {Pe : α → β → Prop} {x : α} {y : β} (c : Pc x true) (e : Pe x y) : ∀ {xs : List α} {ys : List β}, LcR Pc Pe xs ys → LcR Pc Pe (xs ++ [x]) (ys ++ [y])
  | _, _, .nil => .yes c e .nil
  | _, _, .yes c' e' t => .yes c' e' (LcR.snoc_yes c e t)
  | _, _, .no c' t => .no c' (LcR.snoc_yes c e t)
theorem LcR.snoc_no {Pc : α → Bool → Prop} {Pe : α → β → Prop} {x : α} (c : Pc x false) : ∀ {xs : List α} {ys : List β}, LcR Pc Pe xs ys → LcR Pc Pe (xs ++ [x]) ys
  | _, _, .nil => .no c .nil
  | _, _, .yes c' e' t => .yes c' e' (LcR.snoc_no c t)
  | _, _, .no c' t => .no c' (LcR.snoc_no c t)
theorem LcR.le {Pc : α → Bool → Prop} {Pe : α → β → Prop} : ∀ {xs : List α} {ys : List β}, LcR Pc Pe xs ys → ys.length ≤ xs.length
  | _, _, .nil => Nat.le_refl _
  | _, _, .yes _ _ t => Nat.succ_le_succ (LcR.le t)
  | _, _, .no _ t => Nat.le_succ_of_le (LcR.le t)
theorem LcR.map {Pc : α → Bool → Prop} {f : α → β} : ∀ {xs : List α} {ys : List β}, (∀ x, x ∈ xs → ¬ Pc x false) → LcR Pc (fun x y => y = f x) xs ys → ys = xs.map f
  | _, _, _, .nil => rfl
  | _, _, h, .yes _ e t => by rw [List.map_cons, e, LcR.map (fun x hx => h x (List.mem_cons_of_mem _ hx)) t]
  | _, _, h, .no c t => absurd c (h _ List.mem_cons_self)
theorem LcR.filter {p : α → Bool} {f : α → β} : ∀ {xs : List α} {ys : List β}, LcR (fun x b => b = p x) (fun x y => y = f x) xs ys → ys = (xs.filter p).map f
  | _, _, .nil => rfl
  | _, _, .yes c e t => by rw [List.filter_cons, if_pos c.symm, List.map_cons, e, LcR.filter t]
  | _, _, .no c t => by rw [List.filter_cons, if_neg (by rw [← c]; simp), LcR.filter t]
/-- the reading of a comprehension -/
theorem tlc_ok {wi : TI} {tt : TT} {te : TE} {vs : List Nat} {Pc : α → Bool → Prop} {Pe : α → β → Prop} {σ : L2.St} {H : Hp} {Q : VK} (E : Env H σ Γ) (ht : Tgt g vs sx up) (hl : ∀ xs, Pl xs → xs.length ≤ 16000000)
    (hw : ∀ R, (∀ J H1 xs, Pl xs → Same H H1 → ItOk J sx xs H1 → R J H1) → wi σ H R)
    (htt : ∀ x σ H Q, (∃ xs, Pl xs ∧ x ∈ xs) → (∃ D acc, H D = some (.lst acc) ∧ Env (hide H D) σ (up x (wipeC Γ vs)) ∧ ∀ b H1, Pc x b → Same (hide H D) H1 → H1 D = none → Q b (upd H1 D (.lst acc))) → tt σ H Q)
    (hte : ∀ x σ H Q, (∃ xs, Pl xs ∧ x ∈ xs) → (∃ D acc, H D = some (.lst acc) ∧ Env (hide H D) σ (up x (wipeC Γ vs)) ∧ ∀ y v H1, Pe x y → Same (hide H D) H1 → s H1 v y → H1 D = none → Q v (upd H1 D (.lst acc))) → te σ H Q)
    (hq : ∀ xs ys D acc B, Pl xs → LcR Pc Pe xs ys → Same H B → B D = none → Paired (s B) acc ys → Q (.ref D) (upd B D (.lst acc))) : tLc wi g tt te vs σ H Q := by
  refine hw _ fun J H1 xs pl sm ok => ?_
  intro D hD
  obtain ⟨G, Y, w, hG, hY⟩ := ok.ex
  refine lc_it w (fun i H2 => ∃ B acc ys, Same H1 B ∧ B D = none ∧ H2 = upd B D (.lst acc) ∧ Paired (s B) acc ys ∧ LcR Pc Pe (xs.take i) ys) ⟨H1, [], [], Same.refl _, hD, rfl, .nil, .nil⟩ ?_ ?_ ?_
  · rintro i H2 hi ⟨B, acc, ys, e1, hB, rfl, p, l⟩
    exact hG _ (same_upd e1 hD)
  · rintro i v H2 H3 hi ⟨B, acc, ys, e1, hB, rfl, p, l⟩ y
    obtain ⟨e3, x, hx, sv⟩ := hY i _ v H3 (same_upd e1 hD) y
    have hxm : x ∈ xs := List.mem_of_getElem? hx
    have hD3 : H3 D = some (.lst acc) := e3 _ _ upd_same
    have eB : Same B (hide H3 D) := fun a o ha => by
      rw [hide_ne (ne_of_none ha hB)]
      exact e3 _ _ (by rw [upd_ne (ne_of_none ha hB)]; exact ha)
    have E3 : Env (hide H3 D) (wipe σ vs) (wipeC Γ vs) := env_wipe ((E.up (sm.trans e1)).up eB) vs
    have svD : sx (hide H3 D) v x := sv.2 D hD (by rw [upd_same]; simp)
    refine ht v x (wipe σ vs) H3 (hide H3 D) (wipeC Γ vs) _ hide_same svD E3 fun σ2 E4 hw2 hfr => ⟨by rw [hw2, wipe_wipe], ?_⟩
    have et : xs.take (i + 1) = xs.take i ++ [x] := by rw [List.take_add_one, hx] <;> rfl
    have hlen := hl xs pl
    refine htt x σ2 H3 _ ⟨xs, pl, hxm⟩ ⟨D, acc, hD3, E4, fun b H4 pc e4 h4 => ?_⟩
    cases b with
    | false => exact ⟨H4, acc, ys, e1.trans (eB.trans e4), h4, rfl, paired_up (eB.trans e4) p, by rw [et]; exact l.snoc_no pc⟩
    | true =>
      refine hte x σ2 _ _ ⟨xs, pl, hxm⟩ ⟨D, acc, upd_same, by rw [hide_upd h4]; exact E4.up e4, fun y w H5 pe e5 sw h5 => ?_⟩
      rw [hide_upd h4] at e5
      have l2 : acc.length < sizeLine := by
        have z := p.length
        have z2 := l.le
        rw [List.length_take] at z2
        have z3 : (16000000 : Nat) < sizeLine := by decide
        omega
      exact ⟨acc, upd_same, l2, H5, acc ++ [w], ys ++ [y], e1.trans (eB.trans (e4.trans e5)), h5, by funext a; by_cases h : a = D <;> simp [upd, h], Paired.app (paired_up (eB.trans (e4.trans e5)) p) (.cons sw .nil), by rw [et]; exact l.snoc_yes pc pe⟩
  · rintro H2 ⟨B, acc, ys, e1, hB, rfl, p, l⟩
    rw [List.take_length] at l
    exact hq xs ys D acc B pl l (sm.trans e1) hB p
theorem condTs {X : Cx} {cs : List Expr} {t : TT} {c : Prop} (h : c → PTs X cs t) : PTs X cs (fun σ H Q => c ∧ t σ H Q) := ⟨fun pins s σ H Q I q => (h q.1).run pins s σ H Q I q.2⟩
def teB (Γ : α → List Cell) (s : Sh β) (A : α → Prop) (Pe : α → β → Prop) : TE := fun σ H Q => ∃ x, A x ∧ ∃ D acc, H D = some (.lst acc) ∧ tx (Γ x) s (Pe x) σ (hide H D) (fun v H1 => H1 D = none → Q v (upd H1 D (.lst acc)))
def ttB (Γ : α → List Cell) (A : α → Prop) (Pc : α → Bool → Prop) : TT := fun σ H Q => ∃ x, A x ∧ ∃ D acc, H D = some (.lst acc) ∧ tq (Γ x) (Pc x) σ (hide H D) (fun v H1 => H1 D = none → Q v (upd H1 D (.lst acc)))
theorem teB_pe {Y : Cx} {e : Expr} {Γ : α → List Cell} {A : α → Prop} {Pe : α → β → Prop} (h : ∀ x, A x → XE Y e (Γ x) s (Pe x)) : PE Y e (teB Γ s A Pe) := exE fun x => condE fun a => frameE (h x a)
theorem ttB_pt {Y : Cx} {c : Expr} {Γ : α → List Cell} {A : α → Prop} {Pc : α → Bool → Prop} (h : ∀ x, A x → XT Y c (Γ x) (Pc x)) : PTs Y [c] (ttB Γ A Pc) := exTs fun x => condTs fun a => frameTs (pts_one (h x a))
theorem lc_read {tg iter : Expr} {vs : List Nat} {Pe : α → β → Prop} {σ : L2.St} {H : Hp} {Q : VK} (ht : Tgt g vs sx up) (hl : ∀ xs, Pl xs → xs.length ≤ 16000000) (h : tx Γ (sL X.K s) (fun ys => ∃ xs, Pl xs ∧ LcR (fun _ b => b = true) Pe xs ys) σ H Q) :
    tLc (ti Γ sx Pl) g tYes (teB (fun x => up x (wipeC Γ vs)) s (fun x => ∃ xs, Pl xs ∧ x ∈ xs) Pe) vs σ H Q := by
  obtain ⟨E, q⟩ := h
  refine tlc_ok (Pc := fun _ b => b = true) (Pe := Pe) (Pl := Pl) (s := s) E ht hl (fun R k => ⟨E, k⟩) (fun x σ H Q _ ⟨D, acc, hD, E2, k⟩ => ?_) (fun x σ H Q hx ⟨D, acc, hD, E2, k⟩ => ⟨x, hx, D, acc, hD, E2, fun y v H1 pe e1 sv h1 => k y v H1 pe e1 sv h1⟩) fun xs ys D acc B pl l e1 hB p => ?_
  · have z := k true (hide H D) rfl (Same.refl _) hide_at
    rw [upd_hide hD] at z
    exact z
  · have e2 := Same.new (o := HO.lst acc) hB
    exact q ys _ _ ⟨xs, pl, l⟩ (e1.trans e2) ⟨D, acc, rfl, upd_same, paired_up e2 p⟩
theorem lc_readC {tg iter : Expr} {vs : List Nat} {Pe : α → β → Prop} {Pc : α → Bool → Prop} {σ : L2.St} {H : Hp} {Q : VK} (ht : Tgt g vs sx up) (hl : ∀ xs, Pl xs → xs.length ≤ 16000000) (h : tx Γ (sL X.K s) (fun ys => ∃ xs, Pl xs ∧ LcR Pc Pe xs ys) σ H Q) :
    tLc (ti Γ sx Pl) g (ttB (fun x => up x (wipeC Γ vs)) (fun x => ∃ xs, Pl xs ∧ x ∈ xs) Pc) (teB (fun x => up x (wipeC Γ vs)) s (fun x => ∃ xs, Pl xs ∧ x ∈ xs) Pe) vs σ H Q := by
  obtain ⟨E, q⟩ := h
  refine tlc_ok (Pc := Pc) (Pe := Pe) (Pl := Pl) (s := s) E ht hl (fun R k => ⟨E, k⟩) (fun x σ H Q hx ⟨D, acc, hD, E2, k⟩ => ⟨x, hx, D, acc, hD, E2, fun b H1 pc e1 h1 => k b H1 pc e1 h1⟩) (fun x σ H Q hx ⟨D, acc, hD, E2, k⟩ => ⟨x, hx, D, acc, hD, E2, fun y v H1 pe e1 sv h1 => k y v H1 pe e1 sv h1⟩) fun xs ys D acc B pl l e1 hB p => ?_
  have e2 := Same.new (o := HO.lst acc) hB
  exact q ys _ _ ⟨xs, pl, l⟩ (e1.trans e2) ⟨D, acc, rfl, upd_same, paired_up e2 p⟩
/-- [elt for tg in iter] -/
theorem x_lcG {Pe : α → β → Prop} (own : List (Str × Nat)) (hc : X.calm = true) (hN : X.N.Nodup) (hi : XI X tg iter Γ sx Pl) (ok : BlkOk X.N X.env.scope scope own) (hg : ∀ (s : Shared) (H : Hp) (C : Addr) (cl : List (Str × Addr)) (fp : List Addr), PG (X.blk s H scope (compEnvC scope cl C X.env) fp) tg g)
    (ht : Tgt g (own.map (·.2)) sx up) (hl : ∀ xs, Pl xs → xs.length ≤ 16000000)
    (he : ∀ x, (∃ xs, Pl xs ∧ x ∈ xs) → ∀ (s' : Shared) (H : Hp) (C : Addr) (cl : List (Str × Addr)) (fp : List Addr), XE (X.blk s' H scope (compEnvC scope cl C X.env) fp) elt (up x (wipeC Γ (own.map (·.2)))) s (Pe x)) (hs : ∀ x, foldedSetIterable iter X.env x = pure x := by intro _; rfl) :
    XE X (.ListComp elt [⟨tg, iter, [], 0⟩] scope pos) Γ (sL X.K s) (fun ys => ∃ xs, Pl xs ∧ LcR (fun _ b => b = true) Pe xs ys) :=
  weakE (pe_lc hc hN hi ok hg (fun _ _ _ _ _ => pts_nil) (fun s' H C cl fp => teB_pe fun x hx => he x hx s' H C cl fp) hs) fun σ H Q h => lc_read (tg := tg) (iter := iter) ht hl h
theorem x_lcC {Pe : α → β → Prop} {Pc : α → Bool → Prop} {c : Expr} (own : List (Str × Nat)) (hc : X.calm = true) (hN : X.N.Nodup) (hi : XI X tg iter Γ sx Pl) (ok : BlkOk X.N X.env.scope scope own) (hg : ∀ (s : Shared) (H : Hp) (C : Addr) (cl : List (Str × Addr)) (fp : List Addr), PG (X.blk s H scope (compEnvC scope cl C X.env) fp) tg g)
    (ht : Tgt g (own.map (·.2)) sx up) (hl : ∀ xs, Pl xs → xs.length ≤ 16000000)
    (hcc : ∀ x, (∃ xs, Pl xs ∧ x ∈ xs) → ∀ (s' : Shared) (H : Hp) (C : Addr) (cl : List (Str × Addr)) (fp : List Addr), XT (X.blk s' H scope (compEnvC scope cl C X.env) fp) c (up x (wipeC Γ (own.map (·.2)))) (Pc x))
    (he : ∀ x, (∃ xs, Pl xs ∧ x ∈ xs) → ∀ (s' : Shared) (H : Hp) (C : Addr) (cl : List (Str × Addr)) (fp : List Addr), XE (X.blk s' H scope (compEnvC scope cl C X.env) fp) elt (up x (wipeC Γ (own.map (·.2)))) s (Pe x)) (hs : ∀ x, foldedSetIterable iter X.env x = pure x := by intro _; rfl) :
    XE X (.ListComp elt [⟨tg, iter, [c], 0⟩] scope pos) Γ (sL X.K s) (fun ys => ∃ xs, Pl xs ∧ LcR Pc Pe xs ys) :=
  weakE (pe_lc hc hN hi ok hg (fun s' H C cl fp => ttB_pt fun x hx => hcc x hx s' H C cl fp) (fun s' H C cl fp => teB_pe fun x hx => he x hx s' H C cl fp) hs) fun σ H Q h => lc_readC (tg := tg) (iter := iter) ht hl h
end
end PL
set_option Elab.async false
set_option linter.all false
set_option maxRecDepth 100000
set_option maxHeartbeats 4000000
namespace PL
open PySem PySem.Spec
open PyProof.Rows hiding St
open L2

/-- shapes that a list elsewhere does not touch -/
class Lf {α : Type} (s : Sh α) : Prop where
  lf : ∀ {H : Hp} {D : Addr} {xs : List V} {v : V} {a : α}, H D = some (.lst xs) → s H v a → s (hide H D) v a
theorem Lf.sqt {K : PySem.W.Frag} {H : Hp} {D a : Addr} {xs ys : List V} (hD : H D = some (.lst xs)) (h : SqT K H a ys) : SqT K (hide H D) a ys := by
  rcases h with (h | ⟨o, h⟩) | h
  · exact .inl (.inl (by rw [hide_ne (fun z => by rw [z, hD] at h; cases h)]; exact h))
  · exact .inl (.inr ⟨o, by rw [hide_ne (fun z => by rw [z, hD] at h; cases h)]; exact h⟩)
  · exact .inr h
instance : Lf sInt := ⟨fun _ h => h⟩
instance : Lf sBl := ⟨fun _ h => h⟩
instance : Lf sStr := ⟨fun _ h => h⟩
instance : Lf sNon := ⟨fun _ h => h⟩
instance {α : Type} {s : Sh α} [m : Lf s] : Lf (sOpt s) := ⟨fun {H D xs v a} e h => by
  cases a with
  | none => exact h
  | some x => exact ⟨h.1, m.lf e h.2⟩⟩
instance {K : PySem.W.Frag} {α β : Type} {s : Sh α} {t : Sh β} [m : Lf s] [n : Lf t] : Lf (sP K s t) := ⟨fun e ⟨p, x, y, h1, h2, h3, h4⟩ => ⟨p, x, y, h1, Lf.sqt e h2, m.lf e h3, n.lf e h4⟩⟩
instance {K : PySem.W.Frag} {α β γ : Type} {s : Sh α} {t : Sh β} {u : Sh γ} [m : Lf s] [n : Lf t] [o : Lf u] : Lf (sT K s t u) :=
  ⟨fun e ⟨p, x, y, z, h1, h2, h3, h4, h5⟩ => ⟨p, x, y, z, h1, Lf.sqt e h2, m.lf e h3, n.lf e h4, o.lf e h5⟩⟩
instance {K : PySem.W.Frag} {α : Type} {s : Sh α} [m : Lf s] : Lf (sU K s) := ⟨fun e ⟨p, xs, h1, h2, h3⟩ => ⟨p, xs, h1, Lf.sqt e h2, Paired.mapP h3 fun _ _ => m.lf e⟩⟩

/-! ### statements: at most one list of our own -/
inductive Own : Type 1 where
  | no
  | at_ (i : Nat) {α : Type} (s : Sh α) (m : Mo s) (as : List α)
def EnvF (H0 B H : Hp) (σ : L2.St) (Γ : List Cell) : Own → Prop
  | .no => B = H ∧ Same H0 H ∧ Env H σ Γ
  | .at_ i s _ as => ∃ D vs, σ[i]? = some (some (.ref D)) ∧ H D = some (.lst vs) ∧ B = hide H D ∧ Same H0 B ∧ Env B σ Γ ∧ Paired (s B) vs as
theorem EnvF.env {H0 B H : Hp} {σ : L2.St} {Γ : List Cell} {o : Own} (h : EnvF H0 B H σ Γ o) : Same H0 B ∧ Same B H ∧ Env B σ Γ := by
  cases o with
  | no =>
    obtain ⟨rfl, h2, h3⟩ := h
    exact ⟨h2, Same.refl _, h3⟩
  | at_ i s m as =>
    obtain ⟨D, vs, h1, h2, rfl, h4, h5, h6⟩ := h
    exact ⟨h4, hide_same, h5⟩
def tF (H0 : Hp) (Γ : List Cell) (o : Own) {α : Type} (s : Sh α) (P : α → Prop) : TE := fun σ H Q => ∃ B, EnvF H0 B H σ Γ o ∧ ∀ a v B' H', P a → EnvF H0 B' H' σ Γ o → s B' v a → Q v H'
def tFq (H0 : Hp) (Γ : List Cell) (o : Own) (P : Bool → Prop) : TT := fun σ H Q => ∃ B, EnvF H0 B H σ Γ o ∧ ∀ b B' H', P b → EnvF H0 B' H' σ Γ o → Q b H'
def tFi (H0 : Hp) (Γ : List Cell) (o : Own) {α : Type} (sx : Sh α) (P : List α → Prop) : TI := fun σ H R => ∃ B, EnvF H0 B H σ Γ o ∧ ∀ J xs B' H', P xs → EnvF H0 B' H' σ Γ o → ItOk J sx xs B' → R J H'
abbrev EF (X : Cx) (e : Expr) (Γ : List Cell) (o : Own) {α : Type} (s : Sh α) (P : α → Prop) : Prop := ∀ H0, PE X e (tF H0 Γ o s P)
abbrev ET (X : Cx) (e : Expr) (Γ : List Cell) (o : Own) (P : Bool → Prop) : Prop := ∀ H0, PT X e (tFq H0 Γ o P)
abbrev EI (X : Cx) (tg e : Expr) (Γ : List Cell) (o : Own) {α : Type} (sx : Sh α) (P : List α → Prop) : Prop := ∀ H0, PI X tg e (tFi H0 Γ o sx P)
theorem envF_grow {H0 H B' : Hp} {σ : L2.St} {Γ : List Cell} {i : Nat} {α : Type} {s : Sh α} {m : Mo s} {as : List α} {D : Addr} {vs : List V} (h1 : σ[i]? = some (some (.ref D))) (h2 : H D = some (.lst vs)) (h4 : Same H0 (hide H D)) (h5 : Env (hide H D) σ Γ) (h6 : Paired (s (hide H D)) vs as)
    (e : Same (hide H D) B') (hn : B' D = none) : EnvF H0 B' (upd B' D (.lst vs)) σ Γ (.at_ i s m as) := ⟨D, vs, h1, upd_same, (hide_upd hn).symm, h4.trans e, h5.up e, paired_up e h6⟩
section
variable {X : Cx} {Γ : List Cell} {o : Own} {α β γ : Type} {s : Sh α} {t : Sh β} {P : α → Prop} {e tg : Expr}
/-- an expression that does not read the list of our own -/
theorem ef (h : XE X e Γ s P) : EF X e Γ o s P := by
  intro H0
  cases o with
  | no =>
    refine weakE h ?_
    intro σ H Q hq
    obtain ⟨B, hE, k⟩ := hq
    obtain ⟨e1, h2, h3⟩ := hE
    subst e1
    exact ⟨h3, fun a v H' pa sm sv => k a v H' H' pa ⟨rfl, h2.trans sm, h3.up sm⟩ sv⟩
  | at_ i s' m as =>
    refine weakE (frameE h) ?_
    intro σ H Q hq
    obtain ⟨B, hE, k⟩ := hq
    obtain ⟨D, vs, h1, h2, h3, h4, h5, h6⟩ := hE
    subst h3
    exact ⟨D, vs, h2, h5, fun a v H' pa sm sv hn => k a v H' _ pa (envF_grow h1 h2 h4 h5 h6 sm hn) sv⟩
theorem et {Pb : Bool → Prop} (h : XT X e Γ Pb) : ET X e Γ o Pb := by
  intro H0
  cases o with
  | no =>
    refine weakT h ?_
    intro σ H Q hq
    obtain ⟨B, hE, k⟩ := hq
    obtain ⟨e1, h2, h3⟩ := hE
    subst e1
    exact ⟨h3, fun a H' pa sm => k a H' H' pa ⟨rfl, h2.trans sm, h3.up sm⟩⟩
  | at_ i s' m as =>
    refine weakT (frameT h) ?_
    intro σ H Q hq
    obtain ⟨B, hE, k⟩ := hq
    obtain ⟨D, vs, h1, h2, h3, h4, h5, h6⟩ := hE
    subst h3
    exact ⟨D, vs, h2, h5, fun a H' pa sm hn => k a H' _ pa (envF_grow h1 h2 h4 h5 h6 sm hn)⟩
theorem ei {Pl : List α → Prop} (h : XI X tg e Γ s Pl) : EI X tg e Γ o s Pl := by
  intro H0
  cases o with
  | no =>
    refine weakI h ?_
    intro σ H Q hq
    obtain ⟨B, hE, k⟩ := hq
    obtain ⟨e1, h2, h3⟩ := hE
    subst e1
    exact ⟨h3, fun J H' xs pa sm ok => k J xs H' H' pa ⟨rfl, h2.trans sm, h3.up sm⟩ ok⟩
  | at_ i s' m as =>
    refine weakI (frameI h) ?_
    intro σ H Q hq
    obtain ⟨B, hE, k⟩ := hq
    obtain ⟨D, vs, h1, h2, h3, h4, h5, h6⟩ := hE
    subst h3
    exact ⟨D, vs, h2, h5, fun J H' xs pa sm ok hn => k J xs H' _ pa (envF_grow h1 h2 h4 h5 h6 sm hn) ok⟩
theorem full_env {K : PySem.W.Frag} {H : Hp} {σ : L2.St} {i : Nat} {s' : Sh γ} [m : Mo s'] {as : List γ} {D : Addr} {vs : List V} (h1 : σ[i]? = some (some (.ref D))) (h2 : H D = some (.lst vs)) (h5 : Env (hide H D) σ Γ) (h6 : Paired (s' (hide H D)) vs as) : Env H σ (Γ.set i (Ce (sL K s') as)) := by
  have E := (h5.up hide_same).set (i := i) (s := sL K s') (m := inferInstance) (a := as) (v := .ref D) ⟨D, vs, rfl, h2, paired_up hide_same h6⟩
  have e : σ.set i (some (.ref D)) = σ := by
    apply List.ext_getElem?
    intro j
    by_cases h : i = j
    · subst h
      rw [List.getElem?_set_self (List.getElem?_eq_some_iff.mp h1).1, h1]
    · rw [List.getElem?_set_ne h]
  rw [e] at E
  exact E
/-- an expression that reads it -/
theorem efr {i : Nat} {s' : Sh γ} {m : Mo s'} {as : List γ} [Lf s] (h : XE X e (Γ.set i (Ce (sL X.K s') as)) s P) : EF X e Γ (.at_ i s' m as) s P := fun H0 => weakE h fun σ H Q ⟨B, ⟨D, vs, h1, h2, h3, h4, h5, h6⟩, k⟩ => by
  subst h3
  refine ⟨full_env h1 h2 h5 h6, fun a v H' pa sm sv => ?_⟩
  exact k a v (hide H' D) H' pa ⟨D, vs, h1, sm _ _ h2, rfl, h4.trans (same_hide sm), h5.up (same_hide sm), paired_up (same_hide sm) h6⟩ (Lf.lf (sm _ _ h2) sv)
theorem etr {i : Nat} {s' : Sh γ} {m : Mo s'} {as : List γ} {Pb : Bool → Prop} (h : XT X e (Γ.set i (Ce (sL X.K s') as)) Pb) : ET X e Γ (.at_ i s' m as) Pb := fun H0 => weakT h fun σ H Q ⟨B, ⟨D, vs, h1, h2, h3, h4, h5, h6⟩, k⟩ => by
  subst h3
  refine ⟨full_env h1 h2 h5 h6, fun a H' pa sm => ?_⟩
  exact k a (hide H' D) H' pa ⟨D, vs, h1, sm _ _ h2, rfl, h4.trans (same_hide sm), h5.up (same_hide sm), paired_up (same_hide sm) h6⟩
/-- an expression that ends the def: it may hand the list out -/
theorem ef_last {i : Nat} {s' : Sh γ} {m : Mo s'} {as : List γ} (h : XE X e (Γ.set i (Ce (sL X.K s') as)) s P) (H0 : Hp) : PE X e (fun σ H Q => ∃ B, EnvF H0 B H σ Γ (.at_ i s' m as) ∧ ∀ a v H', P a → Same H0 H' → s H' v a → Q v H') := weakE h fun σ H Q ⟨B, ⟨D, vs, h1, h2, h3, h4, h5, h6⟩, k⟩ => by
  subst h3
  exact ⟨full_env h1 h2 h5 h6, fun a v H' pa sm sv => k a v H' pa ((h4.trans hide_same).trans sm) sv⟩
end

structure Goal (ρ : Type) : Type 1 where
  sr : Sh ρ
  R : ρ → Prop
  N : List Cell → Own → Prop := fun _ _ => False
  Bk : List Cell → Own → Prop := fun _ _ => False
  Ct : List Cell → Own → Prop := fun _ _ => False
structure GoalOk {ρ : Type} (H0 : Hp) (G : Goal ρ) (D : Ends) : Prop where
  rt : ∀ r v H', G.R r → Same H0 H' → G.sr H' v r → D.rt v H'
  nx : ∀ Γ' o' σ' B' H', G.N Γ' o' → EnvF H0 B' H' σ' Γ' o' → D.nx σ' H'
  bk : ∀ Γ' o' σ' B' H', G.Bk Γ' o' → EnvF H0 B' H' σ' Γ' o' → D.bk σ' H'
  ct : ∀ Γ' o' σ' B' H', G.Ct Γ' o' → EnvF H0 B' H' σ' Γ' o' → D.ct σ' H'
theorem EnvF.lower {H0 H1 B H : Hp} {σ : L2.St} {Γ : List Cell} {o : Own} (h : EnvF H1 B H σ Γ o) (e : Same H0 H1) : EnvF H0 B H σ Γ o := by
  cases o with
  | no => exact ⟨h.1, e.trans h.2.1, h.2.2⟩
  | at_ i s m as =>
    obtain ⟨D, vs, h1, h2, h3, h4, h5⟩ := h
    exact ⟨D, vs, h1, h2, h3, e.trans h4, h5⟩
theorem EnvF.raise {H0 B H : Hp} {σ : L2.St} {Γ : List Cell} {o : Own} (h : EnvF H0 B H σ Γ o) : EnvF B B H σ Γ o := by
  cases o with
  | no => exact ⟨h.1, by rw [h.1]; exact Same.refl _, h.2.2⟩
  | at_ i s m as =>
    obtain ⟨D, vs, h1, h2, h3, h4, h5⟩ := h
    exact ⟨D, vs, h1, h2, h3, Same.refl _, h5⟩
def tsF {ρ : Type} (H0 : Hp) (Γ : List Cell) (o : Own) (G : Goal ρ) : TS := fun D σ H => (∃ B, EnvF H0 B H σ Γ o) ∧ GoalOk H0 G D
abbrev XB (X : Cx) {ρ : Type} (body : List Stmt) (Γ : List Cell) (o : Own) (G : Goal ρ) : Prop := ∀ H0, PSs X body (tsF H0 Γ o G)
def Own.isAt (o : Own) (i : Nat) : Bool := match o with
  | .no => false
  | .at_ j _ _ _ => decide (i = j)
theorem EnvF.set {H0 B H : Hp} {σ : L2.St} {Γ : List Cell} {o : Own} {i : Nat} {α : Type} {s : Sh α} {m : Mo s} {a : α} {v : V} (h : EnvF H0 B H σ Γ o) (sv : s B v a) (ho : o.isAt i = false) : EnvF H0 B H (σ.set i (some v)) (Γ.set i (.is s m a)) o := by
  cases o with
  | no =>
    obtain ⟨rfl, h2, h3⟩ := h
    exact ⟨rfl, h2, h3.set sv⟩
  | at_ j s' m' as =>
    obtain ⟨D, vs, h1, h2, h3, h4, h5, h6⟩ := h
    have ne : i ≠ j := of_decide_eq_false ho
    exact ⟨D, vs, by rw [List.getElem?_set_ne ne]; exact h1, h2, h3, h4, h5.set sv, h6⟩
theorem EnvF.sub {H0 B H : Hp} {σ σ' : L2.St} {Γ Γ' : List Cell} {o : Own} (h : EnvF H0 B H σ Γ o) (E : Env B σ' Γ') (ho : ∀ i, o.isAt i = true → σ'[i]? = σ[i]?) : EnvF H0 B H σ' Γ' o := by
  cases o with
  | no =>
    obtain ⟨rfl, h2, h3⟩ := h
    exact ⟨rfl, h2, E⟩
  | at_ j s' m' as =>
    obtain ⟨D, vs, h1, h2, h3, h4, h5, h6⟩ := h
    exact ⟨D, vs, by rw [ho j (decide_eq_true rfl)]; exact h1, h2, h3, h4, E, h6⟩

section
variable {X : Cx} {Γ : List Cell} {o : Own} {α β γ ρ : Type} {s : Sh α} {t : Sh β} {u : Sh γ} {P : α → Prop} {R : β → Prop} {e e1 e2 tg : Expr} {G : Goal ρ} {rest body orelse : List Stmt} {pos p p1 p2 p3 : Pos} {x y z : Str}
theorem xb_nil (h : G.N Γ o) : XB X [] Γ o G := fun H0 => weakB pss_nil fun D σ H ⟨⟨B, E⟩, g⟩ => g.nx _ _ _ _ _ h E
theorem xb_consP {st : Stmt} {ι : Type 1} {A : ι → Prop} {Γ' : ι → List Cell} {o' : ι → Own} {t : Hp → TS} (h : ∀ H0, PS X st (t H0)) (hr : ∀ i, A i → XB X rest (Γ' i) (o' i) G) (k : ∀ H0 D σ H, tsF H0 Γ o G D σ H → t H0 { D with nx := fun σ' H' => ∃ i, A i ∧ tsF H0 (Γ' i) (o' i) G D σ' H' } σ H) : XB X (st :: rest) Γ o G :=
  fun H0 => weakB (pss_cons (h H0) (exB fun i => condB fun a => hr i a H0)) fun D σ H q => k H0 D σ H q
/-- x = e -/
theorem xb_setP (i : Nat) [m : Mo s] (hN : X.N.Nodup) (he : EF X e Γ o s P) (h : ∀ a, P a → XB X rest (Γ.set i (.is s m a)) o G) (ho : o.isAt i = false := by rfl) (hi : X.N[i]? = some x := by rfl) (hx : Loc X.env.scope x := by first | exact Or.inl rfl | exact Or.inr rfl)
    (hs : swapsWith e (some (.Name x p1)) pos.line X.env = pure false := by rfl) (hf : X.fn x = true ∨ X.env.scope.names.lookup x = some .local := by first | exact .inl rfl | exact .inr rfl | assumption) : XB X (.Assign [.Name x p1] e pos :: rest) Γ o G :=
  xb_consP (ι := ULift α) (A := fun a => P a.down) (Γ' := fun a => Γ.set i (.is s m a.down)) (o' := fun _ => o) (fun H0 => ps_set hN hi hx (he H0) hs hf) (fun a pa => h a.down pa) fun H0 D σ H ⟨⟨B, E⟩, g⟩ => ⟨B, E, fun a v B' H' pa E' sv => ⟨⟨a⟩, pa, ⟨B', E'.set sv ho⟩, g⟩⟩
theorem xb_set (i : Nat) {a : α} [m : Mo s] (hN : X.N.Nodup) (he : XE X e Γ s (· = a)) (h : XB X rest (Γ.set i (.is s m a)) o G) (ho : o.isAt i = false := by rfl) (hi : X.N[i]? = some x := by rfl) (hx : Loc X.env.scope x := by first | exact Or.inl rfl | exact Or.inr rfl)
    (hs : swapsWith e (some (.Name x p1)) pos.line X.env = pure false := by rfl) (hf : X.fn x = true ∨ X.env.scope.names.lookup x = some .local := by first | exact .inl rfl | exact .inr rfl | assumption) : XB X (.Assign [.Name x p1] e pos :: rest) Γ o G :=
  xb_setP i hN (ef he) (fun b hb => by subst hb; exact h) ho hi hx hs hf
/-- a, b = e, a pair -/
theorem xb_unp2P (i j : Nat) {k1 : Nat} [m : Mo s] [n : Mo t] {Pp : α × β → Prop} (hc : X.calm = true) (hN : X.N.Nodup) (he : EF X e Γ o (sP X.K s t) Pp) (h : ∀ a b, Pp (a, b) → XB X rest ((Γ.set i (.is s m a)).set j (.is t n b)) o G) (ho : o.isAt i = false := by rfl) (ho2 : o.isAt j = false := by rfl)
    (hi : X.N[i]? = some x := by rfl) (hj : X.N[j]? = some y := by rfl) (hx : Loc X.env.scope x := by first | exact Or.inl rfl | exact Or.inr rfl) (hy : Loc X.env.scope y := by first | exact Or.inl rfl | exact Or.inr rfl)
    (hfx : X.fn x = true ∨ X.env.scope.names.lookup x = some .local := by first | exact .inl rfl | exact .inr rfl) (hfy : X.fn y = true ∨ X.env.scope.names.lookup y = some .local := by first | exact .inl rfl | exact .inr rfl)
    (hn : (assignEach [.Name x p1, .Name y p2] X.env).length = 2 := by rfl) (hst : (assignEach [.Name x p1, .Name y p2] X.env).findIdx? (·.1) = none := by rfl)
    (g1 : (assignEach [.Name x p1, .Name y p2] X.env).map (·.2) = assign (.Name x p1) X.env :: (assignEach [.Name y p2] X.env).map (·.2) := by rfl) (g2 : (assignEach [.Name y p2] X.env).map (·.2) = assign (.Name y p2) X.env :: (assignEach [] X.env).map (·.2) := by rfl)
    (hs : swapsWithSole [.Tuple [.Name x p1, .Name y p2] k1 p3] e pos.line X.env = pure false := by rfl) (hw : swappedStores [.Tuple [.Name x p1, .Name y p2] k1 p3] e X.env = pure none := by rfl)
    (h1 : (assignEach [.Tuple [.Name x p1, .Name y p2] k1 p3] X.env).map (·.2) = [assign (.Tuple [.Name x p1, .Name y p2] k1 p3) X.env] := by rfl) : XB X (.Assign [.Tuple [.Name x p1, .Name y p2] k1 p3] e pos :: rest) Γ o G :=
  xb_consP (ι := ULift (α × β)) (A := fun a => Pp a.down) (Γ' := fun a => (Γ.set i (.is s m a.down.1)).set j (.is t n a.down.2)) (o' := fun _ => o)
    (fun H0 => ps_asg (he H0) (pg_tup hc (pgs_cons (pg_name (i := i) hN hi hx hfx) (pgs_cons (pg_name (i := j) hN hj hy hfy) pgs_nil g2) g1) hn hst) hs hw h1) (fun a pa => h a.down.1 a.down.2 pa) fun H0 D σ H ⟨⟨B, E⟩, g⟩ => ⟨B, E, fun a v B' H' pa E' sv => by
      obtain ⟨q, a1, b1, rfl, h2, h3, h4⟩ := sv
      exact ⟨q, [a1, b1], rfl, Same.sqt E'.env.2.1 h2, rfl, a1, [b1], rfl, b1, [], rfl, rfl, ⟨a⟩, pa, ⟨B', (E'.set h3 ho).set h4 ho2⟩, g⟩⟩
/-- a, b = e1, e2, two local names -/
theorem xb_par2P (i j : Nat) {k1 k2 : Nat} {p4 : Pos} [m : Mo s] [n : Mo t] (hc : X.calm = true) (hN : X.N.Nodup) (he : XA X [e1, e2] Γ (aC s (aC t aN)) (fun ab => P ab.1 ∧ R ab.2.1)) (h : ∀ a b, P a → R b → XB X rest ((Γ.set i (.is s m a)).set j (.is t n b)) .no G)
    (hi : X.N[i]? = some x := by rfl) (hj : X.N[j]? = some y := by rfl) (hij : i ≠ j := by decide) (hx : X.env.scope.names.lookup x = some .local := by rfl) (hy : X.env.scope.names.lookup y = some .local := by rfl)
    (hw : swappedStores [.Tuple [.Name x p1, .Name y p2] k1 p3] (.Tuple [e1, e2] k2 p4) X.env = pure (some [x, y]) := by rfl)
    (hs : swapsWithSole [.Tuple [.Name x p1, .Name y p2] k1 p3] (.Tuple [e1, e2] k2 p4) pos.line X.env = pure false := by rfl) : XB X (.Assign [.Tuple [.Name x p1, .Name y p2] k1 p3] (.Tuple [e1, e2] k2 p4) pos :: rest) Γ .no G :=
  xb_consP (ι := ULift (α × β)) (A := fun a => P a.down.1 ∧ R a.down.2) (Γ' := fun a => (Γ.set i (.is s m a.down.1)).set j (.is t n a.down.2)) (o' := fun _ => .no)
    (fun H0 => ps_par hc hN hi hj hij hx hy he hw hs) (fun a pa => h a.down.1 a.down.2 pa.1 pa.2) fun H0 D σ H ⟨⟨B, e0, h2, h3⟩, g⟩ => ⟨e0 ▸ h3, fun ab vs H' pa sm sv => by
      obtain ⟨a, b, c⟩ := ab
      obtain ⟨v, w, rfl, h4, v', w', rfl, h5, h6⟩ := sv
      cases h6
      exact ⟨v, v', rfl, ⟨(a, b)⟩, ⟨pa.1, pa.2⟩, ⟨H', rfl, h2.trans sm, (((show Env H σ Γ from h3).up sm).set h4).set h5⟩, g⟩⟩
theorem xb_par2 (i j : Nat) {a : α} {b : β} {k1 k2 : Nat} {p4 : Pos} [m : Mo s] [n : Mo t] (hc : X.calm = true) (hN : X.N.Nodup) (h1 : XE X e1 Γ s (· = a)) (h2 : XE X e2 Γ t (· = b)) (h : XB X rest ((Γ.set i (.is s m a)).set j (.is t n b)) .no G)
    (hi : X.N[i]? = some x := by rfl) (hj : X.N[j]? = some y := by rfl) (hij : i ≠ j := by decide) (hx : X.env.scope.names.lookup x = some .local := by rfl) (hy : X.env.scope.names.lookup y = some .local := by rfl)
    (hw : swappedStores [.Tuple [.Name x p1, .Name y p2] k1 p3] (.Tuple [e1, e2] k2 p4) X.env = pure (some [x, y]) := by rfl)
    (hs : swapsWithSole [.Tuple [.Name x p1, .Name y p2] k1 p3] (.Tuple [e1, e2] k2 p4) pos.line X.env = pure false := by rfl)
    (g1 : starEach [e1, e2] X.env = (false, eval e1 X.env) :: starEach [e2] X.env := by rfl) (g2 : starEach [e2] X.env = (false, eval e2 X.env) :: starEach [] X.env := by rfl) : XB X (.Assign [.Tuple [.Name x p1, .Name y p2] k1 p3] (.Tuple [e1, e2] k2 p4) pos :: rest) Γ .no G :=
  xb_par2P (P := (· = a)) (R := (· = b)) i j hc hN (xa_imp (xa_consG h1 (xa_consG h2 xa_nil g2) g1) fun ab h => ⟨h.1, h.2.1⟩) (fun a' b' ha hb => by subst ha; subst hb; exact h) hi hj hij hx hy hw hs
/-- return e -/
theorem xb_ret (he : EF X e Γ o G.sr G.R) [Mo G.sr] : XB X (.Return (some e) pos :: rest) Γ o G := fun H0 => weakB (pss_cons (ps_ret (he H0)) (t := tRet _) (u := fun _ _ _ => False) ⟨fun _ _ _ _ _ _ h => h.elim⟩) fun D σ H ⟨⟨B, E⟩, g⟩ => ⟨B, E, fun a v B' H' pa E' sv => g.rt a v H' pa (E'.env.1.trans E'.env.2.1) (Mo.up E'.env.2.1 sv)⟩
theorem xb_retL {i : Nat} {s' : Sh γ} {m : Mo s'} {as : List γ} (he : XE X e (Γ.set i (Ce (sL X.K s') as)) G.sr G.R) : XB X (.Return (some e) pos :: rest) Γ (.at_ i s' m as) G := fun H0 => weakB (pss_cons (ps_ret (ef_last he H0)) (t := tRet _) (u := fun _ _ _ => False) ⟨fun _ _ _ _ _ _ h => h.elim⟩) fun D σ H ⟨⟨B, E⟩, g⟩ => ⟨B, E, fun a v H' pa sm sv => g.rt a v H' pa sm sv⟩
/-- if -/
theorem xb_ifP {c : Expr} {Pc : Bool → Prop} (N : List Cell → Own → Prop) (hc : ET X c Γ o Pc) (h1 : Pc true → XB X body Γ o { G with N := N }) (h2 : Pc false → XB X orelse Γ o { G with N := N }) (hr : ∀ Γ' o', N Γ' o' → XB X rest Γ' o' G) : XB X (.If c body orelse pos :: rest) Γ o G :=
  xb_consP (ι := List Cell × Own) (A := fun q => N q.1 q.2) (Γ' := fun q => q.1) (o' := fun q => q.2) (fun H0 => ps_if (hc H0) (condB fun h => h1 h H0) (condB fun h => h2 h H0)) (fun q hq => hr q.1 q.2 hq) fun H0 D σ H ⟨⟨B, E⟩, g⟩ => ⟨B, E, fun b B' H' pb E' => by
    have ok : GoalOk H0 { G with N := N } { D with nx := fun σ' H' => ∃ q : List Cell × Own, N q.1 q.2 ∧ tsF H0 q.1 q.2 G D σ' H' } := ⟨g.rt, fun Γ' o' σ' B' H' n E2 => ⟨(Γ', o'), n, ⟨B', E2⟩, g⟩, g.bk, g.ct⟩
    cases b with
    | true => exact ⟨pb, ⟨B', E'⟩, ok⟩
    | false => exact ⟨pb, ⟨B', E'⟩, ok⟩⟩
/-- if that leaves -/
theorem xb_ifR {c : Expr} {b : Bool} (hc : XT X c Γ (· = b)) (h1 : b = true → XB X body Γ o { G with N := fun _ _ => False }) (h2 : b = false → XB X rest Γ o G) : XB X (.If c body [] pos :: rest) Γ o G :=
  xb_ifP (fun Γ' o' => Γ' = Γ ∧ o' = o ∧ b = false) (et hc) (fun h H0 => weakB (h1 h.symm H0) fun D σ H ⟨E, g⟩ => ⟨E, g.rt, fun _ _ _ _ _ n => n.elim, g.bk, g.ct⟩) (fun h => xb_nil ⟨rfl, rfl, h.symm⟩) fun Γ' o' ⟨q1, q2, q3⟩ => by
    subst q1 q2
    exact h2 q3
/-- an expression for its own sake -/
theorem xb_expr (he : EF X e Γ o s P) (h : XB X rest Γ o G) (hs : swapsWith e none pos.line X.env = pure false := by rfl) : XB X (.Expr e pos :: rest) Γ o G :=
  xb_consP (ι := PUnit) (A := fun _ => True) (Γ' := fun _ => Γ) (o' := fun _ => o) (fun H0 => ps_expr (he H0) hs) (fun _ _ => h) fun H0 D σ H ⟨⟨B, E⟩, g⟩ => ⟨B, E, fun a v B' H' pa E' sv => ⟨⟨⟩, trivial, ⟨B', E'⟩, g⟩⟩
/-- x = [..], a list of our own -/
theorem xb_own (i : Nat) {es : List Expr} {as : List α} [m : Mo s] (hN : X.N.Nodup) (he : XA X es Γ (aS s) (· = as)) (h : XB X rest (Γ.set i .no) (.at_ i s m as) G) (hl : as.length ≤ 16777216 := by decide) (hi : X.N[i]? = some x := by rfl) (hx : Loc X.env.scope x := by first | exact Or.inl rfl | exact Or.inr rfl)
    (hs : swapsWith (.List es p2) (some (.Name x p1)) pos.line X.env = pure false := by rfl) (hf : X.fn x = true ∨ X.env.scope.names.lookup x = some .local := by first | exact .inl rfl | exact .inr rfl | assumption) (hiΓ : i < Γ.length := by decide) : XB X (.Assign [.Name x p1] (.List es p2) pos :: rest) Γ .no G :=
  xb_consP (ι := PUnit) (A := fun _ => True) (Γ' := fun _ => Γ.set i .no) (o' := fun _ => .at_ i s m as) (fun H0 => ps_set hN hi hx (pe_lst he) hs hf) (fun _ _ => h) fun H0 D σ H ⟨⟨B, e1, h2, h3⟩, g⟩ => by
    subst e1
    refine ⟨h3, fun as' vs H' pa sm sv => ⟨by rw [Paired.length sv, pa]; exact hl, fun p hp => ⟨⟨⟩, trivial, ⟨H', p, vs, ?_, upd_same, (hide_upd hp).symm, h2.trans sm, ((h3.up sm).forget), ?_⟩, g⟩⟩⟩
    · exact List.getElem?_set_self (by rw [h3.len]; exact hiΓ)
    · subst pa
      exact sv
/-- x.append(e) -/
theorem xb_append {i : Nat} {m : Mo s} {as : List α} (he : EF X e Γ (.at_ i s m as) s P) (h : ∀ a, P a → XB X rest Γ (.at_ i s m (as ++ [a])) G) (hl : as.length < 16777216) (hi : X.N[i]? = some x := by rfl) (hv : Vis X.env.scope x := by first | exact Or.inl rfl | exact Or.inr (Or.inl rfl) | exact Or.inr (Or.inr rfl))
    (hd : (x == ("__debug__" : Str)) = false := by decide) (hcd : (x == ("__classdict__" : Str)) = false := by decide)
    (hbase : attributeBase (.Name x p1) "append" X.env (eval (.Name x p1) X.env) = eval (.Name x p1) X.env := by rfl)
    (hfew : ((backTo p3 (starEach (e :: []) X.env)).all (fun x => !x.1) && (backToKw p3 (keywordEach [] X.env)).all (fun x => x.1.isSome)
      && decide ((e :: []).length + ([] : List Keyword).length + (if ([] : List Keyword).isEmpty then 0 else 1) < 30)) = true := by rfl)
    (hline : (p2.endLine == p3.line) = true := by rfl) (hs : starEach (e :: []) X.env = (false, eval e X.env) :: starEach [] X.env := by rfl) (hplain : (backTo p3 (starEach [] X.env)).any (·.1) = false := by rfl)
    (hsw : swapsWith (.Call (.Attribute (.Name x p1) "append" p2) [e] [] p3) none pos.line X.env = pure false := by rfl) :
    XB X (.Expr (.Call (.Attribute (.Name x p1) "append" p2) [e] [] p3) pos :: rest) Γ (.at_ i s m as) G :=
  xb_consP (ι := ULift α) (A := fun a => P a.down) (Γ' := fun _ => Γ) (o' := fun a => .at_ i s m (as ++ [a.down]))
    (fun H0 => ps_expr (pe_bm PySem.F.plainAttrs_list PySem.F.slot_list_append PySem.F.type_list_append mt_append (pe_var hi hv hd hcd) (pa_cons (he H0) pa_nil hs) hbase hfew hline hs hplain) hsw) (fun a pa => h a.down pa) fun H0 D σ H ⟨⟨B, E⟩, g⟩ => by
      obtain ⟨L, vs, h1, h2, h3, h4, h5, h6⟩ := id E
      refine ⟨.ref L, h1, .inl ⟨rfl, vs, SqL.of h2⟩, B, E, fun a v B' H' pa E' sv => ?_⟩
      obtain ⟨L', vs', k1, k2, k3, k4, k5, k6⟩ := E'
      rw [h1] at k1
      cases k1
      refine ⟨L, vs', v, rfl, rfl, k2, by rw [Paired.length k6]; exact hl, ⟨a⟩, pa, ⟨B', L, vs' ++ [v], h1, upd_same, ?_, k4, k5, Paired.app k6 (.cons sv .nil)⟩, g⟩
      rw [k3, hide_upd']
/-- for -/
theorem xb_for {iter : Expr} {sx : Sh α} {Pl : List α → Prop} {gt : TG} {vs : List Nat} {up : α → List Cell → List Cell} (I : List α → Nat → List Cell → Own → Prop) (N : List Cell → Own → Prop) (hp : PassesOwn (model X.prog X.w) X.A X.env X.xe) (hc : X.calm = true)
    (hi : EI X tg iter Γ o sx Pl) (hg : PG X tg gt) (ht : Tgt gt vs sx up) (h0 : ∀ xs, Pl xs → I xs 0 Γ o)
    (hs : ∀ xs, Pl xs → ∀ i x Γ' o', xs[i]? = some x → I xs i Γ' o' → (∀ j ∈ vs, o'.isAt j = false) ∧ XB X body (up x Γ') o' { G with N := I xs (i + 1), Ct := I xs (i + 1), Bk := N })
    (hd : ∀ xs, Pl xs → ∀ Γ' o', I xs xs.length Γ' o' → N Γ' o') (hr : ∀ Γ' o', N Γ' o' → XB X rest Γ' o' G) (hf : ∀ x, foldedSetIterable iter X.env x = pure x := by intro _; rfl) : XB X (.For tg iter body [] pos :: rest) Γ o G := by
  refine xb_consP (ι := List Cell × Own) (A := fun q => N q.1 q.2) (Γ' := fun q => q.1) (o' := fun q => q.2) (t := fun H0 => tFor (tFi H0 Γ o sx Pl) gt (fun D σ H => ∃ H1, ∃ q : (List α × Nat × α) × (List Cell × Own), (Pl q.1.1 ∧ q.1.1[q.1.2.1]? = some q.1.2.2 ∧ I q.1.1 q.1.2.1 q.2.1 q.2.2) ∧ tsF H1 (up q.1.2.2 q.2.1) q.2.2 { G with N := I q.1.1 (q.1.2.1 + 1), Ct := I q.1.1 (q.1.2.1 + 1), Bk := N } D σ H)) (fun H0 => ps_for hp hc (hi H0) hg (exB fun H1 => exB fun q => condB fun h => (hs q.1.1 h.1 q.1.2.1 q.1.2.2 q.2.1 q.2.2 h.2.1 h.2.2).2 H1) hf) (fun q hq => hr q.1 q.2 hq) ?_
  intro H0 D σ H ⟨⟨B, E⟩, g⟩
  refine ⟨B, E, fun J xs B1 H1 pl E1 ok => ?_⟩
  obtain ⟨Gw, Y, w, hG, hY⟩ := ok.ex
  have e01 : Same H0 B1 := E1.env.1
  refine for_it (g := gt) (tb := (fun D σ H => ∃ H1, ∃ q : (List α × Nat × α) × (List Cell × Own), (Pl q.1.1 ∧ q.1.1[q.1.2.1]? = some q.1.2.2 ∧ I q.1.1 q.1.2.1 q.2.1 q.2.2) ∧ tsF H1 (up q.1.2.2 q.2.1) q.2.2 { G with N := I q.1.1 (q.1.2.1 + 1), Ct := I q.1.1 (q.1.2.1 + 1), Bk := N } D σ H)) (D := { D with nx := fun σ' H' => ∃ q : List Cell × Own, N q.1 q.2 ∧ tsF H0 q.1 q.2 G D σ' H' }) w (fun i σ' H' => ∃ Γ' o' B', I xs i Γ' o' ∧ EnvF B1 B' H' σ' Γ' o') ⟨Γ, o, B1, h0 xs pl, E1.raise⟩ ?_ ?_ ?_
  · rintro i σ' H' hi' ⟨Γ', o', B', _, E'⟩
    exact hG _ (E'.env.1.trans E'.env.2.1)
  · rintro i v σ' H' H'' hi' ⟨Γ', o', B', inv, E'⟩ y
    obtain ⟨e3, x, hx, sv, svh⟩ := hY i H' v H'' (E'.env.1.trans E'.env.2.1) y
    obtain ⟨hv, hb⟩ := hs xs pl i x Γ' o' hx inv
    -- the environment behind the iterator's step
    obtain ⟨B'', E'', sv'', s12⟩ : ∃ B'', EnvF B1 B'' H'' σ' Γ' o' ∧ sx B'' v x ∧ Same B'' H'' := by
      cases o' with
      | no =>
        obtain ⟨e4, h2, h3⟩ := E'
        exact ⟨H'', ⟨rfl, h2.trans e3, h3.up e3⟩, sv, Same.refl _⟩
      | at_ j s' m' as =>
        obtain ⟨L, us, h1, h2, h3, h4, h5, h6⟩ := E'
        subst h3
        have hn : B1 L = none := by
          cases q : B1 L with
          | none => rfl
          | some ob =>
            have z := h4 _ _ q
            rw [hide_at] at z
            cases z
        exact ⟨hide H'' L, ⟨L, us, h1, e3 _ _ h2, rfl, h4.trans (same_hide e3), h5.up (same_hide e3), paired_up (same_hide e3) h6⟩, svh L hn (by rw [h2]; simp), hide_same⟩
    refine ht v x σ' H'' B'' Γ' _ s12 sv'' E''.env.2.2 fun σ2 E2 _ fr => ⟨B1, ((xs, i, x), (Γ', o')), ⟨pl, hx, inv⟩, ⟨B'', E''.sub E2 fun j hj => fr j fun hm => ?_⟩, fun r v H' pr sm sr => g.rt r v H' pr (e01.trans sm) sr, fun Γ3 o3 σ3 B3 H3 n E3 => ⟨Γ3, o3, B3, n, E3⟩, fun Γ3 o3 σ3 B3 H3 n E3 => ⟨(Γ3, o3), n, ⟨B3, E3.lower e01⟩, g⟩, fun Γ3 o3 σ3 B3 H3 n E3 => ⟨Γ3, o3, B3, n, E3⟩⟩
    rw [hv j hm] at hj
    cases hj
  · rintro σ' H' ⟨Γ', o', B', inv, E'⟩
    exact ⟨(Γ', o'), hd xs pl Γ' o' inv, ⟨B', E'.lower e01⟩, g⟩
/-- while -/
theorem xb_while {c : Expr} (I : Nat → List Cell → Own → Prop) (N : List Cell → Own → Prop) (Pc : List Cell → Own → Bool → Prop) (hp : PassesOwn (model X.prog X.w) X.A X.env X.xe) (m0 : Nat) (h0 : I m0 Γ o)
    (hc : ∀ m Γ' o', I m Γ' o' → ET X c Γ' o' (Pc Γ' o')) (hs : ∀ m Γ' o', I m Γ' o' → Pc Γ' o' true → XB X body Γ' o' { G with N := fun Γ'' o'' => ∃ m', m' < m ∧ I m' Γ'' o'', Ct := fun Γ'' o'' => ∃ m', m' < m ∧ I m' Γ'' o'', Bk := N })
    (hd : ∀ m Γ' o', I m Γ' o' → Pc Γ' o' false → N Γ' o') (hr : ∀ Γ' o', N Γ' o' → XB X rest Γ' o' G) : XB X (.While c body [] pos :: rest) Γ o G := by
  refine xb_consP (ι := List Cell × Own) (A := fun q => N q.1 q.2) (Γ' := fun q => q.1) (o' := fun q => q.2)
    (t := fun H0 => tWhile (fun σ H Q => ∃ q : Nat × List Cell × Own, I q.1 q.2.1 q.2.2 ∧ tFq H0 q.2.1 q.2.2 (Pc q.2.1 q.2.2) σ H (fun b H' => (∃ B', EnvF H0 B' H' σ q.2.1 q.2.2) → (Pc q.2.1 q.2.2 b) → Q b H')) (fun D σ H => ∃ q : Nat × List Cell × Own, (I q.1 q.2.1 q.2.2 ∧ Pc q.2.1 q.2.2 true) ∧ tsF H0 q.2.1 q.2.2 { G with N := fun Γ'' o'' => ∃ m', m' < q.1 ∧ I m' Γ'' o'', Ct := fun Γ'' o'' => ∃ m', m' < q.1 ∧ I m' Γ'' o'', Bk := N } D σ H))
    (fun H0 => ps_while hp ⟨fun pins s σ H Q J ⟨q, iv, B, E, k⟩ => (hc q.1 q.2.1 q.2.2 iv H0).run pins s σ H Q J ⟨B, E, fun b B' H' pb E' => k b B' H' pb E' ⟨B', E'⟩ pb⟩⟩ (exB fun q => condB fun h => hs q.1 q.2.1 q.2.2 h.1 h.2 H0)) (fun q hq => hr q.1 q.2 hq) ?_
  intro H0 D σ H ⟨⟨B, E⟩, g⟩
  refine ⟨fun m σ' H' => ∃ Γ' o' B', I m Γ' o' ∧ EnvF H0 B' H' σ' Γ' o', ⟨m0, Γ, o, B, h0, E⟩, ?_⟩
  rintro m σ' H' ⟨Γ', o', B', iv, E'⟩
  refine ⟨(m, Γ', o'), iv, B', E', fun b B2 H2 pb E2 _ _ => ?_⟩
  cases b with
  | true =>
    exact ⟨fun σ3 H3 => ∃ m', m' < m ∧ ∃ Γ3 o3 B3, I m' Γ3 o3 ∧ EnvF H0 B3 H3 σ3 Γ3 o3, fun σ3 H3 ⟨m', l, w⟩ => ⟨m', l, w⟩, (m, Γ', o'), ⟨iv, pb⟩, ⟨B2, E2⟩, g.rt, fun Γ3 o3 σ3 B3 H3 ⟨m', l, n⟩ E3 => ⟨m', l, Γ3, o3, B3, n, E3⟩, fun Γ3 o3 σ3 B3 H3 n E3 => ⟨(Γ3, o3), n, ⟨B3, E3⟩, g⟩, fun Γ3 o3 σ3 B3 H3 ⟨m', l, n⟩ E3 => ⟨m', l, Γ3, o3, B3, n, E3⟩⟩
  | false => exact ⟨(Γ', o'), hd m Γ' o' iv pb, ⟨B2, E2⟩, g⟩
end
end PL
set_option Elab.async false
set_option linter.all false
set_option maxRecDepth 100000
set_option maxHeartbeats 4000000
namespace PL
open PySem PySem.Spec
open PyProof.Rows hiding St
open L2

/-! ### a def -/
structure ArgC {α : Type} (sa : ShA α) (cs : α → List Cell) : Prop where
  len : ∀ {H : Hp} {vs : List V} {a : α}, sa H vs a → vs.length = (cs a).length
  at_ : ∀ {H : Hp} {vs : List V} {a : α}, sa H vs a → ∀ (i : Nat) (c : Cell), (cs a)[i]? = some c → CellOk H vs[i]? c
theorem argC_nil : ArgC aN (fun _ => []) := ⟨fun h => by rw [h] <;> rfl, fun h i c e => by simp at e⟩
theorem argC_cons {α β : Type} {s : Sh α} [m : Mo s] {sa : ShA β} {cs : β → List Cell} (h : ArgC sa cs) : ArgC (aC s sa) (fun a => Ce s a.1 :: cs a.2) := ⟨fun ⟨v, w, e, h1, h2⟩ => by
  rw [e, List.length_cons, List.length_cons, h.len h2], fun ⟨v, w, e, h1, h2⟩ i c hc => by
  subst e
  cases i with
  | zero =>
    cases hc
    exact ⟨v, rfl, h1⟩
  | succ i => exact h.at_ h2 i c hc⟩
theorem env_start {α : Type} {sa : ShA α} {cs : α → List Cell} (h : ArgC sa cs) {H : Hp} {vs : List V} {a : α} {N : List Str} {n : Nat} (ha : sa H vs a) (hn : N.length = (cs a).length + n) : Env H (L2.start N vs) (cs a ++ List.replicate n .no) := by
  have hl := h.len ha
  refine ⟨?_, fun i c hc => ?_⟩
  · unfold L2.start
    rw [List.length_append, List.length_append, List.length_map, List.length_replicate, List.length_replicate]
    omega
  · by_cases hi : i < (cs a).length
    · rw [List.getElem?_append_left hi] at hc
      unfold L2.start
      rw [List.getElem?_append_left (by rw [List.length_map, hl]; exact hi), List.getElem?_map]
      have z := h.at_ ha i c hc
      cases q : vs[i]? with
      | none =>
        rw [q] at z
        exact z
      | some v =>
        rw [q] at z
        exact z
    · rw [List.getElem?_append_right (by omega), List.getElem?_replicate] at hc
      split at hc
      · cases hc
        trivial
      · cases hc
section
variable {P : Program} {w : World} {K : PySem.W.Frag} {mg : Str → Option Value} {base : Heap} {x qual : Str} {params : Arguments} {body : List Stmt} {scope : Scope} {dvs : List V} {kws : List (Str × V)} {f : Addr} {fd : FuncData}
theorem fn_x {α ρ : Type} {sa : ShA α} {cs : α → List Cell} {pre : α → Prop} {sr : Sh ρ} {post : α → ρ → Prop} {N ps : List Str} {k n : Nat} (F : FunD K x qual params body scope [] kws f fd) (S : FnScope N ps scope) (hA : ArgC sa cs) (hl : ∀ a, (cs a).length = ps.length) (hn : ∀ a, N.length = (cs a).length + n)
    (hb : ∀ (cdv : Value) (A : Around) (outer : List PySem.Env) (s : Shared) (H : Hp) (E : XK), Room k (A.deeper (envOfC qual scope s.heap.objs.size f cdv)) → ∀ a, pre a →
      XB (cxOf CX0 P w K mg base N qual scope f cdv A outer s H E).nox body (cs a ++ List.replicate n .no) .no { sr := sr, R := post a, N := fun _ _ => ∃ r, post a r ∧ ∀ H, sr H .non r })
    (hbi : ∀ (kV doc pm : Value) (an : Option Addr) (cdv ct : Value) (us : List Value), us.length = ps.length → bindArgs (PySem.W.fnOf x qual params body scope .none kV doc pm an cdv ct) ⟨us, []⟩ = pure (ps.zip us)) : FnR P w K mg base CX0 (k + 1) f (spG sa pre sr post) := by
  refine FnR.imp (FnOk.raw (fd := fd) (ps := ps) (sp := spG sa pre sr post) ?_ (FunD.bindsN F hbi) .nil) fun vs H Q E h => by rw [List.append_nil]; exact h
  refine FunD.ok F S (fun vs H Q E ⟨a, ha, _⟩ => by rw [hA.len ha]; exact hl a) fun cdv A outer s H vs Q E hr ⟨a, ha, hp, k⟩ => ?_
  refine ⟨_, (hb cdv A outer s H E hr a hp H).nox, ⟨H, rfl, Same.refl H, env_start hA ha (hn a)⟩, fun r v H' pr sm sv => k r v H' pr sm sv, fun Γ' o' σ' B' H' ⟨r, pr, z⟩ E' => k r .non H' pr (E'.env.1.trans E'.env.2.1) (z H'), fun _ _ _ _ _ n => n.elim, fun _ _ _ _ _ n => n.elim⟩
end

/-! ### built-in functions -/
def CallOp {α β : Type} (r : List V → Hp → VK → Prop) (sa : ShA α) (u : Sh β) (pre : α → Prop) (post : α → β → Prop) : Prop := ∀ (H : Hp) (xs : List V) (a : α) (Q : VK), sa H xs a → pre a → (∀ c v H', post a c → Same H H' → u H' v c → Q v H') → r xs H Q
section
variable {X : Cx} {Γ : List Cell} {α β γ : Type} {s : Sh α} {t : Sh β} {u : Sh β} {P : α → Prop} {e e1 e2 : Expr} {es : List Expr} {pos p : Pos} {x : Str} {bid T : String} {sa : ShA α} {pre : α → Prop} {post : α → β → Prop} {r : List V → Hp → VK → Prop} {f : α → β} {a : α}
theorem x_callBG (hc : CallR X (.builtin bid) r) (o : CallOp r sa u pre post) (hm : X.mg x = none) (hv : bootBuiltins x = some (.builtin bid)) (h : XA X (e :: es) Γ sa P) (hp : ∀ a, P a → pre a) (hg : Gl X x := by rfl) (hn : x ≠ "__name__" := by decide) (hdb : (x == ("__debug__" : Str)) = false := by decide)
    (he : starEach (e :: es) X.env = (false, eval e X.env) :: starEach es X.env := by rfl) (hpl : (backTo pos (starEach es X.env)).any (·.1) = false := by rfl) : XE X (.Call (.Name x p) (e :: es) [] pos) Γ u (fun c => ∃ a, P a ∧ post a c) :=
  weakE (pe_callB hc hg hm hv h hn hdb he hpl) fun σ H Q ⟨E, k⟩ => ⟨E, fun a vs H1 pa sm sv => o H1 vs a Q sv (hp a pa) fun c v H' pc s2 su => k c v H' ⟨a, pa, pc⟩ (sm.trans s2) su⟩
theorem x_callB (hc : CallR X (.builtin bid) r) (o : CallOp r sa u pre (fun a c => c = f a)) (hm : X.mg x = none) (hv : bootBuiltins x = some (.builtin bid)) (h : XA X (e :: es) Γ sa (· = a)) (hp : pre a) (hg : Gl X x := by rfl) (hn : x ≠ "__name__" := by decide) (hdb : (x == ("__debug__" : Str)) = false := by decide)
    (he : starEach (e :: es) X.env = (false, eval e X.env) :: starEach es X.env := by rfl) (hpl : (backTo pos (starEach es X.env)).any (·.1) = false := by rfl) : XE X (.Call (.Name x p) (e :: es) [] pos) Γ u (· = f a) :=
  xe_imp (x_callBG hc o hm hv h (fun a' q => by subst q; exact hp) hg hn hdb he hpl) fun c ⟨a', q, z⟩ => by subst q; exact z
theorem x_callTG (hc : CallR X (.type T) r) (o : CallOp r sa u pre post) (hm : X.mg x = none) (hv : bootBuiltins x = some (.type T)) (h : XA X (e :: es) Γ sa P) (hp : ∀ a, P a → pre a) (hg : Gl X x := by rfl) (hn : x ≠ "__name__" := by decide) (hdb : (x == ("__debug__" : Str)) = false := by decide)
    (he : starEach (e :: es) X.env = (false, eval e X.env) :: starEach es X.env := by rfl) (hpl : (backTo pos (starEach es X.env)).any (·.1) = false := by rfl) : XE X (.Call (.Name x p) (e :: es) [] pos) Γ u (fun c => ∃ a, P a ∧ post a c) :=
  weakE (pe_callTy hc hg hm hv h hn hdb he hpl) fun σ H Q ⟨E, k⟩ => ⟨E, fun a vs H1 pa sm sv => o H1 vs a Q sv (hp a pa) fun c v H' pc s2 su => k c v H' ⟨a, pa, pc⟩ (sm.trans s2) su⟩
theorem x_callT (hc : CallR X (.type T) r) (o : CallOp r sa u pre (fun a c => c = f a)) (hm : X.mg x = none) (hv : bootBuiltins x = some (.type T)) (h : XA X (e :: es) Γ sa (· = a)) (hp : pre a) (hg : Gl X x := by rfl) (hn : x ≠ "__name__" := by decide) (hdb : (x == ("__debug__" : Str)) = false := by decide)
    (he : starEach (e :: es) X.env = (false, eval e X.env) :: starEach es X.env := by rfl) (hpl : (backTo pos (starEach es X.env)).any (·.1) = false := by rfl) : XE X (.Call (.Name x p) (e :: es) [] pos) Γ u (· = f a) :=
  xe_imp (x_callTG hc o hm hv h (fun a' q => by subst q; exact hp) hg hn hdb he hpl) fun c ⟨a', q, z⟩ => by subst q; exact z
theorem co_lenL {K : PySem.W.Frag} : CallOp (fun xs H Q => ∃ p ys, xs = [.ref p] ∧ (SqL K H p ys ∨ SqT K H p ys) ∧ Q (.int ys.length) H) (aC (sL K s) aN) sInt (fun _ => True) (fun a c => c = (a.1.length : Int)) := fun H xs a Q ⟨v, w, e, h1, h2⟩ _ k => by
  obtain ⟨p, ys, rfl, h3, h4⟩ := h1
  cases h2
  subst e
  exact ⟨p, ys, rfl, .inl (SqL.of h3), k _ _ H rfl (Same.refl H) (by show V.int _ = V.int _; rw [h4.length])⟩
theorem co_lenU {K : PySem.W.Frag} : CallOp (fun xs H Q => ∃ p ys, xs = [.ref p] ∧ (SqL K H p ys ∨ SqT K H p ys) ∧ Q (.int ys.length) H) (aC (sU K s) aN) sInt (fun _ => True) (fun a c => c = (a.1.length : Int)) := fun H xs a Q ⟨v, w, e, h1, h2⟩ _ k => by
  obtain ⟨p, ys, rfl, h3, h4⟩ := h1
  cases h2
  subst e
  exact ⟨p, ys, rfl, .inr h3, k _ _ H rfl (Same.refl H) (by show V.int _ = V.int _; rw [h4.length])⟩
theorem x_lenL {as : List α} (hm : X.mg "len" = none) (h : XE X e Γ (sL X.K s) (· = as)) [Mo s] (hg : Gl X "len" := by rfl) (he : starEach [e] X.env = (false, eval e X.env) :: starEach [] X.env := by rfl) (hpl : (backTo pos (starEach [] X.env)).any (·.1) = false := by rfl) :
    XE X (.Call (.Name "len" p) [e] [] pos) Γ sInt (· = (as.length : Int)) := x_callB (f := fun a : List α × Unit => (a.1.length : Int)) (a := (as, ())) call_len_seq co_lenL hm PySem.boot_len (xa h xa0 he) trivial hg (by decide) (by decide) he hpl
theorem x_lenU {as : List α} (hm : X.mg "len" = none) (h : XE X e Γ (sU X.K s) (· = as)) [Mo s] (hg : Gl X "len" := by rfl) (he : starEach [e] X.env = (false, eval e X.env) :: starEach [] X.env := by rfl) (hpl : (backTo pos (starEach [] X.env)).any (·.1) = false := by rfl) :
    XE X (.Call (.Name "len" p) [e] [] pos) Γ sInt (· = (as.length : Int)) := x_callB (f := fun a : List α × Unit => (a.1.length : Int)) (a := (as, ())) call_len_seq co_lenU hm PySem.boot_len (xa h xa0 he) trivial hg (by decide) (by decide) he hpl
theorem co_all {K : PySem.W.Frag} : CallOp (rAll K) (aC (sL K sBl) aN) sBl (fun _ => True) (fun a c => c = a.1.all id) := fun H xs a Q ⟨v, w, e, h1, h2⟩ _ k => by
  obtain ⟨p, ys, rfl, h3, h4⟩ := h1
  cases h2
  subst e
  have q := Paired.bl h4
  subst q
  exact ⟨p, a.1, rfl, SqL.of h3, k _ _ H rfl (Same.refl H) rfl⟩
theorem co_any {K : PySem.W.Frag} : CallOp (rAny K) (aC (sL K sBl) aN) sBl (fun _ => True) (fun a c => c = a.1.any id) := fun H xs a Q ⟨v, w, e, h1, h2⟩ _ k => by
  obtain ⟨p, ys, rfl, h3, h4⟩ := h1
  cases h2
  subst e
  have q := Paired.bl h4
  subst q
  exact ⟨p, a.1, rfl, SqL.of h3, k _ _ H rfl (Same.refl H) rfl⟩
theorem co_abs : CallOp (fun xs H Q => ∃ i, xs = [.int i] ∧ Q (.int (if i < 0 then -i else i)) H) (aC sInt aN) sInt (fun _ => True) (fun a c => c = (a.1.natAbs : Int)) := fun H xs a Q ⟨v, w, e, h1, h2⟩ _ k => by
  cases h1
  cases h2
  subst e
  refine ⟨_, rfl, k _ _ H rfl (Same.refl H) ?_⟩
  show V.int _ = V.int _
  congr 1
  split <;> omega
theorem co_max2 : CallOp (fun xs H Q => ∃ i j, xs = [.int i, .int j] ∧ Q (.int (if j > i then j else i)) H) (aC sInt (aC sInt aN)) sInt (fun _ => True) (fun a c => c = max a.1 a.2.1) := fun H xs a Q ⟨v, w, e, h1, v', w', e', h2, h3⟩ _ k => by
  cases h1
  cases h2
  cases h3
  subst e'
  subst e
  refine ⟨_, _, rfl, k _ _ H rfl (Same.refl H) ?_⟩
  show V.int _ = V.int _
  congr 1
  split <;> omega
theorem co_min2 : CallOp (fun xs H Q => ∃ i j, xs = [.int i, .int j] ∧ Q (.int (if j < i then j else i)) H) (aC sInt (aC sInt aN)) sInt (fun _ => True) (fun a c => c = min a.1 a.2.1) := fun H xs a Q ⟨v, w, e, h1, v', w', e', h2, h3⟩ _ k => by
  cases h1
  cases h2
  cases h3
  subst e'
  subst e
  refine ⟨_, _, rfl, k _ _ H rfl (Same.refl H) ?_⟩
  show V.int _ = V.int _
  congr 1
  split <;> omega
theorem co_tupL {K : PySem.W.Frag} [Mo s] : CallOp (fun xs H Q => ∃ p ys, xs = [.ref p] ∧ ((SqL K H p ys ∧ ∀ l, H l = none → Q (.ref l) (upd H l (.tup ys))) ∨ (SqT K H p ys ∧ Q (.ref p) H))) (aC (sL K s) aN) (sU K s) (fun _ => True) (fun a c => c = a.1) := fun H xs a Q ⟨v, w, e, h1, h2⟩ _ k => by
  obtain ⟨p, ys, rfl, h3, h4⟩ := h1
  cases h2
  subst e
  exact ⟨p, ys, rfl, .inl ⟨SqL.of h3, fun l hl => k _ _ _ rfl (Same.new hl) ⟨l, ys, rfl, SqT.of upd_same, paired_up (Same.new hl) h4⟩⟩⟩
/-! ### slices, sums of lists -/
theorem x_sl {sx : Sh (List α)} {rS : V → Option Int → Option Int → Hp → VK → Prop} {lo hi : Option Expr} {cut : List α → Option Int → Option Int → List α} {as : List α} {i j : Option Int} {p2 : Pos} [Mo sx] (hr : SlR X rS)
    (o : ∀ H v as lo hi Q, sx H v as → (∀ w H', Same H H' → sx H' w (cut as lo hi) → Q w H') → rS v lo hi H Q) (h : XE X e Γ sx (· = as))
    (hl : PO X lo (fun σ H Q => Env H σ Γ ∧ ∀ H', Same H H' → Q i H')) (hh : PO X hi (fun σ H Q => Env H σ Γ ∧ ∀ H', Same H H' → Q j H')) : XE X (.Subscript e (.Slice lo hi none p2) pos) Γ sx (· = cut as i j) :=
  weakE (pe_slice hr h hl hh) fun σ H Q ⟨E, k⟩ => ⟨E, fun as' v H1 pa sm sv => ⟨E.up sm, fun H2 s2 => ⟨E.up (sm.trans s2), fun H3 s3 => o H3 v as' i j Q (Mo.up (s2.trans s3) sv) fun w H' s4 sw => by
    subst pa
    exact k _ w H' rfl (((sm.trans s2).trans s3).trans s4) sw⟩⟩⟩
def cutA {α : Type} (xs : List α) (lo hi : Option Int) : List α := (xs.drop (HT.sIx xs.length 0 lo)).take (HT.sIx xs.length xs.length hi - HT.sIx xs.length 0 lo)
theorem xo_none : PO X none (fun σ H Q => Env H σ Γ ∧ ∀ H', Same H H' → Q (none : Option Int) H') := by
  have z := po_none (X := X)
  exact ⟨fun pins s σ H Q I q => z.run pins s σ H Q I (q.2 H (Same.refl H))⟩
theorem xo_some {i : Int} (h : XE X e Γ sInt (· = i)) : PO X (some e) (fun σ H Q => Env H σ Γ ∧ ∀ H', Same H H' → Q (some i) H') := by
  have z := po_some h
  exact ⟨fun pins s σ H Q I q => z.run pins s σ H Q I ⟨q.1, fun a v H' pa sm sv => by
    subst pa
    cases sv
    exact ⟨_, rfl, q.2 H' sm⟩⟩⟩
theorem cut_paired {F : V → α → Prop} {xs : List V} {as : List α} {lo hi : Option Int} (h : Paired F xs as) : Paired F (cutV xs lo hi) (cutA as lo hi) := by
  unfold cutV cutA
  rw [h.length]
  exact Paired.takeP _ (Paired.dropP _ h)
theorem so_list {K : PySem.W.Frag} [Mo s] (H : Hp) (v : V) (as : List α) (lo hi : Option Int) (Q : VK) (h : sL K s H v as) (k : ∀ w H', Same H H' → sL K s H' w (cutA as lo hi) → Q w H') : rSlL K v lo hi H Q := by
  obtain ⟨p, xs, rfl, h2, h3⟩ := h
  exact ⟨p, xs, rfl, SqL.of h2, fun q hq => k _ _ (Same.new hq) ⟨q, _, rfl, upd_same, paired_up (Same.new hq) (cut_paired h3)⟩⟩
theorem x_slL {lo hi : Option Expr} {as : List α} {i j : Option Int} {p2 : Pos} [Mo s] (h : XE X e Γ (sL X.K s) (· = as)) (hl : PO X lo (fun σ H Q => Env H σ Γ ∧ ∀ H', Same H H' → Q i H')) (hh : PO X hi (fun σ H Q => Env H σ Γ ∧ ∀ H', Same H H' → Q j H')) :
    XE X (.Subscript e (.Slice lo hi none p2) pos) Γ (sL X.K s) (· = cutA as i j) := x_sl sl_list so_list h hl hh
theorem cutA_from {as : List α} {i : Nat} : cutA as (some (i : Int)) none = as.drop i := by
  unfold cutA
  rw [HT.sIx_none, HT.sIx_nat]
  rcases Nat.le_total i as.length with h | h
  · rw [Nat.min_eq_left h, List.take_of_length_le]
    rw [List.length_drop]
    exact Nat.le_refl _
  · rw [Nat.min_eq_right h, List.drop_of_length_le (Nat.le_refl _), List.drop_of_length_le h]
    simp
end
end PL
set_option Elab.async false
set_option linter.all false
set_option maxRecDepth 100000
set_option maxHeartbeats 4000000
namespace PL
open PySem PySem.Spec
open PyProof.Rows hiding St
open L2

/-! ### the text's own operators -/
/-- the shape is one of instances of the class at C -/
def InsS (C : Addr) {α : Type} (s : Sh α) : Prop := ∀ (H : Hp) (v : V) (a : α), s H v a → ∃ p dx fs, v = .ref p ∧ H p = some (.ins C dx fs)
def rOwn (C : Addr) (sp : Sp) : R2 := fun x y H Q => ∃ a b dx fs dy gs, x = .ref a ∧ y = .ref b ∧ H a = some (.ins C dx fs) ∧ H b = some (.ins C dy gs) ∧ sp [x, y] H Q E0
/-- the class's method m -/
structure OwnM (K : PySem.W.Frag) (C : Addr) (m : Str) (f : Addr) : Prop where
  at_ : PySem.W.findIn K (.ref C) m = some (some (.ref f))
  fn : PySem.W.isFn K (.ref f) = true
section
variable {X : Cx} {pins : List (Addr × Obj)} {σ : L2.St} {H : Hp} {s : Shared} {C f : Addr} {k : Nat} {sp : Sp}
theorem inst_of {a dx : Addr} {fs : List (Str × V)} (I : Inv X pins σ H s) (h : H a = some (.ins C dx fs)) : ∃ ox od, PySem.W.InstAt s.heap a ox C (some od) ∧ ox.data = .plain ∧ ∃ mA, ObjM s.heap a dx C mA := by
  obtain ⟨mA, O, _⟩ := ins_get I.hok h
  obtain ⟨od, J, _⟩ := id O.look
  exact ⟨_, _, J, rfl, mA, O⟩
theorem cmpback {P : Value → Shared → Prop} {z : V} {v : Value} {s' : Shared} (r : RelV z v) (h : P v s') : PySem.W.CmpBack P v s' := SlX.cmpback r h
theorem op_own {op : Operator} (F : FnR X.prog X.w X.K X.mg X.base CX0 k f sp) (m : OwnM X.K C (PySem.dunder op.info.2) f) (hc : PySem.W.selfFirst X.K C = true) (hr : Room k X.A) : OpR X (binaryOp op) (rOwn C sp) := by
  intro pins s σ H x y v u Q I rx ry h
  obtain ⟨a, b, dx, fs, dy, gs, rfl, rfl, ha, hb', q⟩ := h
  cases rx
  cases ry
  obtain ⟨ox, od, J, _⟩ := inst_of I ha
  obtain ⟨oy, od', J', _⟩ := inst_of I hb'
  obtain ⟨mm, hF⟩ := I.fr
  refine PySem.W.binop_K hF I.ok.mod.kin J J'.type hc m.at_ m.fn ?_
  refine thn (wpAny_call (run_fnR (us := [.ref a, .ref b]) (vs := [.ref a, .ref b]) F hr pass0 I (.cons rfl (.cons rfl .nil)) q)) fun r s' z => ?_
  obtain ⟨v, H', I', rv, qv⟩ := z
  exact cmpback rv ⟨v, H', I', rv, qv⟩
theorem cmp_own {op : CmpOp} (hop : compareOp op = richCompare op) (F : FnR X.prog X.w X.K X.mg X.base CX0 k f sp) (m : OwnM X.K C (cmpInfo op).2.1 f) (hr : Room k X.A) : OpR X (compareOp op) (rOwn C sp) := by
  intro pins s σ H x y v u Q I rx ry h
  obtain ⟨a, b, dx, fs, dy, gs, rfl, rfl, ha, hb', q⟩ := h
  cases rx
  cases ry
  obtain ⟨ox, od, J, _⟩ := inst_of I ha
  obtain ⟨oy, od', J', _⟩ := inst_of I hb'
  obtain ⟨mm, hF⟩ := I.fr
  rw [hop]
  refine PySem.W.cmp_K (op := op) (tb := .ref C) hr.units0 hF I.ok.mod.kin J J'.type (by simp [PySem.W.notFirst]) m.at_ m.fn ?_
  refine thn (wpAny_call (run_fnR (us := [.ref a, .ref b]) (vs := [.ref a, .ref b]) F hr pass0 I (.cons rfl (.cons rfl .nil)) q)) fun r s' z => ?_
  obtain ⟨v, H', I', rv, qv⟩ := z
  exact cmpback rv ⟨v, H', I', rv, qv⟩
/-- len(o) -/
theorem len_own (F : FnR X.prog X.w X.K X.mg X.base CX0 k f sp) (m : OwnM X.K C "__len__" f) (hr : Room (k + 1) X.A) : CallR X (.builtin "len") (fun xs H Q => ∃ a dx fs, xs = [.ref a] ∧ H a = some (.ins C dx fs) ∧ sp [.ref a] H (fun v H' => ∃ n : Int, v = .int n ∧ 0 ≤ n ∧ n < 2 ^ 63 ∧ Q (.int n) H') E0) := by
  intro pins s σ H xs us Q I r h
  obtain ⟨a, dx, fs, rfl, ha, q⟩ := h
  cases r with
  | cons r1 r2 =>
    cases r2
    cases r1
    obtain ⟨ox, od, J, _⟩ := inst_of I ha
    obtain ⟨mm, hF⟩ := I.fr
    refine PySem.W.len_K hF I.ok.mod.kin J m.at_ m.fn ?_
    refine wpAny_call (codeAny_mono (F X.A.in1 X.stack s H [.ref a] [.ref a] _ E0 hr.in1 I.env0.in1 (.cons rfl .nil) q) fun r s' hq => ?_)
    cases r with
    | error e => exact hq.elim
    | ok fl =>
      cases fl with
      | ret u =>
        obtain ⟨v, H', I', rv, n, rfl, n0, n1, qn⟩ := I.after hq
        obtain ⟨t, rfl⟩ := rv
        exact ⟨⟨n0, n1⟩, .int n, H', I'.tok _, ⟨_, rfl⟩, qn⟩
      | next => exact False.elim hq
      | brk => exact False.elim hq
      | cont => exact False.elim hq
end
/-! ### != by the own == -/
section
variable {prog : Program} {w : World} {A : Around} {E : Value → Shared → Prop} {s : Shared} {K : PySem.W.Frag} {x C f : Addr} {ox : Obj} {od : Option Obj} {b tb : Value}
open PySem.W in
theorem ne_args (a b : Value) : argsOk "object.__ne__" ⟨[a, b], []⟩ := PySem.F.cmpArgs_ne a b
theorem obj_ne (hu : A.units < cLine) (X : K.In s.heap) (I : PySem.W.InstAt s.heap x ox C od) (hs : PySem.W.findIn K (.ref C) "__eq__" = some (some (.ref f))) (hf : PySem.W.isFn K (.ref f) = true) {Q : Fin → Shared → Prop}
    (hcall : wpAny (model prog w) A (call (.ref f) [.ref x, b]) (fun v s' => ∃ r, v = .bool r ∧ Q (.done (.ret (.bool (!r)))) s') E s) : wpAny (model prog w) A (Builtin.«object.__ne__» ⟨[.ref x, b], []⟩) Q E s := by
  unfold Builtin.«object.__ne__»
  repeat (first
    | with_reducible refine wpAny_cRoomFor hu ?_
    | (refine wpAny_bind (m := callSpecialIfBound? (.ref x) (Str.ofString "__eq__") [b])
        (PySem.W.ifBound_K X I hs hf (wpAny_mono hcall (fun r s' hr => by
          obtain ⟨b, rfl, hq⟩ := hr
          repeat (first | exact hq | exact wpAny_pure hq | exact wpAny_truthy_bool hq | (refine wpAny_bind (m := truthy (.bool _)) (wpAny_truthy_bool ?_)) | wp_step)) fun _ _ e => e)))
    | wp_step)
theorem chk_ne (X : K.In s.heap) (I : PySem.W.InstAt s.heap x ox C od) (hm : PySem.W.mroIn K C (.type "object") = some true) {Q : Unit → Shared → Prop} {M : Model} (h : Q () s) : wpAny M A (checkBuiltinCall "object.__ne__" ⟨[.ref x, b], []⟩) Q E s := by
  simp only [checkBuiltinCall, PySem.F.cmpKind_ne, PySem.F.cmpSplit_ne]
  refine wpAny_bind ?_
  unfold isInstance
  refine wpAny_bind (I.type.here ?_)
  refine (PySem.W.looks_mroIn X hm).here ?_
  have ha := ne_args (.ref x) b
  cases hsig : Manifest.signature? "object.__ne__" with
  | none => exact wpAny_pure h
  | some sig =>
    simp only [argsOk, hsig] at ha
    have h2 : Bind.checkArgs "object.__ne__" sig ⟨[.ref x, b], []⟩ = pure () := ha
    show wpAny M A (Bind.checkArgs "object.__ne__" sig ⟨[.ref x, b], []⟩) Q E _
    rw [h2]
    exact wpAny_pure h
theorem slot_ne : Slot "object" "__ne__" "object.__ne__" := PySem.F.cmp_object.ne
theorem ifBound_ne {M : Model} {Q : Option Value → Shared → Prop} (X : K.In s.heap) (I : PySem.W.InstAt s.heap x ox C od) (hs : PySem.W.findIn K (.ref C) "__ne__" = some (some (.builtin "object.__ne__")))
    (h : wpAny M A (call (.builtin "object.__ne__") [.ref x, b]) (fun v => Q (some v)) E s) : wpAny M A (callSpecialIfBound? (.ref x) "__ne__" [b]) Q E s := by
  simp only [callSpecialIfBound?, bindSpecialIfBound?]
  refine wpAny_holding (wpAny_bind (wpAny_bind (wpAny_bind (I.type.here ((PySem.W.looks_findIn X hs).here ?_)))))
  simp only [slot_ne.bind]
  refine wpAny_bind (wpAny_askSetting (wpAny_ite ?_))
  have fin : wpAny M A (call (.builtin "object.__ne__") ([.ref x] ++ [b]) >>= fun v => pure (some v)) Q E s := wpAny_bind (wpAny_mono h (fun v s' h' => wpAny_pure h') fun _ _ h' => h')
  split
  · exact wpAny_bind (wpAny_pure (wpAny_pure (by exact fin)))
  · exact wpAny_tryCatch (wpAny_bind (wpAny_pure (wpAny_pure (by exact fin))))
theorem rc_ne {Q : Value → Shared → Prop} (hu : A.units + 1 < cLine) (X : K.In s.heap) (I : PySem.W.InstAt s.heap x ox C od) (hb : PySem.W.Looks (model prog w) s.heap (typeOf b) tb) (hn : PySem.W.notFirst K C tb = true)
    (hs : PySem.W.findIn K (.ref C) "__eq__" = some (some (.ref f))) (hf : PySem.W.isFn K (.ref f) = true) (hne : PySem.W.findIn K (.ref C) "__ne__" = some (some (.builtin "object.__ne__"))) (hm : PySem.W.mroIn K C (.type "object") = some true)
    (h : wpAny (model prog w) A.in1 (call (.ref f) [.ref x, b]) (fun v s' => ∃ r, v = .bool r ∧ Q (.bool (!r)) s') E s) : wpAny (model prog w) A (richCompare .NotEq (.ref x) b) Q E s := by
  have one : wpAny (model prog w) A (tryCompare (.ref x) (cmpInfo .NotEq).2.1 b) (fun r s' => ∃ v, r = some v ∧ Q v s') E s := by
    show wpAny (model prog w) A (tryCompare (.ref x) "__ne__" b) (fun r s' => ∃ v, r = some v ∧ Q v s') E s
    unfold tryCompare
    refine wpAny_bind (ifBound_ne X I hne (wpAny_call (codeAny_call_builtin slot_ne.plain PySem.F.cmpEntry_ne (chk_ne X I hm (obj_ne (A := A.in1) hu X I hs hf (wpAny_mono h (fun v s' hv => ?_) fun _ _ e => e))))))
    obtain ⟨r, rfl, hq⟩ := hv
    exact ⟨r, rfl, wpAny_pure ⟨_, rfl, hq⟩⟩
  unfold richCompare
  simp only [oneThing_ref]
  refine wpAny_holding (wpAny_bind (wpAny_cRoomFor (Nat.lt_of_succ_lt hu) ?_))
  refine wpAny_bind (I.type.here (wpAny_bind (hb.here ?_)))
  split
  · rename_i q
    have e : PySem.W.subIn K tb (.ref C) = some false := by
      rcases Bool.or_eq_true_iff.mp hn with e | e
      · rw [beq_iff_eq.mp e] at q; simp at q
      · exact beq_iff_eq.mp e
    refine wpAny_bind ((PySem.W.looks_subIn X e).here ?_)
    simp only [Bool.false_eq_true, if_false]
    refine wpAny_bind (wpAny_mono one (fun r s' z => ?_) fun _ _ e => e)
    obtain ⟨v, rfl, hq⟩ := z
    exact wpAny_pure hq
  · refine wpAny_bind (wpAny_pure ?_)
    simp only [Bool.false_eq_true, if_false]
    refine wpAny_bind (wpAny_mono one (fun r s' z => ?_) fun _ _ e => e)
    obtain ⟨v, rfl, hq⟩ := z
    exact wpAny_pure hq
end
section
variable {X : Cx} {C f : Addr} {k : Nat} {sp : Sp}
theorem ne_own (F : FnR X.prog X.w X.K X.mg X.base CX0 k f sp) (m : OwnM X.K C "__eq__" f) (hne : PySem.W.findIn X.K (.ref C) "__ne__" = some (some (.builtin "object.__ne__"))) (hm : PySem.W.mroIn X.K C (.type "object") = some true) (hr : Room (k + 1) X.A) :
    OpR X (compareOp .NotEq) (fun x y H Q => ∃ a b dx fs dy gs, x = .ref a ∧ y = .ref b ∧ H a = some (.ins C dx fs) ∧ H b = some (.ins C dy gs) ∧ sp [x, y] H (fun v H' => ∃ r, v = .bl r ∧ Q (.bl (!r)) H') E0) := by
  intro pins s σ H x y v u Q I rx ry h
  obtain ⟨a, b, dx, fs, dy, gs, rfl, rfl, ha, hb', q⟩ := h
  cases rx
  cases ry
  obtain ⟨ox, od, J, _⟩ := inst_of I ha
  obtain ⟨oy, od', J', _⟩ := inst_of I hb'
  have hu : X.A.units + 1 < cLine := hu_of hr
  show wpAny (model X.prog X.w) X.A (richCompare .NotEq (.ref a) (.ref b)) (EP X pins σ Q) X.xe s
  refine rc_ne (tb := .ref C) hu I.kIn J J'.type (by simp [PySem.W.notFirst]) m.at_ m.fn hne hm ?_
  refine wpAny_call (codeAny_mono (F X.A.in1 X.stack s H [.ref a, .ref b] [.ref a, .ref b] _ E0 hr.in1 I.env0.in1 (.cons rfl (.cons rfl .nil)) q) fun r s' hq => ?_)
  cases r with
  | error e => exact hq.elim
  | ok fl =>
    cases fl with
    | ret u =>
      obtain ⟨v, H', I', rv, r, rfl, qn⟩ := I.after hq
      cases rv
      exact ⟨r, rfl, .bl (!r), H', I', rfl, qn⟩
    | next => exact False.elim hq
    | brk => exact False.elim hq
    | cont => exact False.elim hq
end
/-! ### as rules over shapes -/
section
variable {X : Cx} {C f : Addr} {k : Nat} {α β γ : Type} {s : Sh α} {t : Sh β} {u : Sh γ} {pre : α × β × Unit → Prop} {post : α × β × Unit → γ → Prop} {pre1 : α × Unit → Prop} {post1 : α × Unit → γ → Prop}
theorem o2_own (hs : InsS C s) (ht : InsS C t) : Op2 (rOwn C (spG (aC s (aC t aN)) pre u post)) s t u (fun a b => pre (a, b, ())) (fun a b c => post (a, b, ()) c) := fun H x y a b Q h1 h2 hp k => by
  obtain ⟨p, dx, fs, e1, g1⟩ := hs H x a h1
  obtain ⟨q, dy, gs, e2, g2⟩ := ht H y b h2
  exact ⟨p, q, dx, fs, dy, gs, e1, e2, g1, g2, (a, b, ()), ⟨x, [y], rfl, h1, y, [], rfl, h2, rfl⟩, hp, fun r v H' pr sm sv => k r v H' pr sm sv⟩
theorem o2_ownNe (hs : InsS C s) (ht : InsS C t) {g : α × β × Unit → Bool} : Op2 (fun x y H Q => ∃ a b dx fs dy gs, x = .ref a ∧ y = .ref b ∧ H a = some (.ins C dx fs) ∧ H b = some (.ins C dy gs) ∧ spD (aC s (aC t aN)) pre sBl g [x, y] H (fun v H' => ∃ r, v = .bl r ∧ Q (.bl (!r)) H') E0) s t sBl (fun a b => pre (a, b, ())) (fun a b c => c = !g (a, b, ())) := fun H x y a b Q h1 h2 hp k => by
  obtain ⟨p, dx, fs, e1, g1⟩ := hs H x a h1
  obtain ⟨q, dy, gs, e2, g2⟩ := ht H y b h2
  exact ⟨p, q, dx, fs, dy, gs, e1, e2, g1, g2, (a, b, ()), ⟨x, [y], rfl, h1, y, [], rfl, h2, rfl⟩, hp, fun r v H' pr sm sv => ⟨r, sv, k (!r) _ H' (by rw [pr]) sm rfl⟩⟩
end
end PL
set_option Elab.async false
set_option linter.all false
set_option maxRecDepth 100000
set_option maxHeartbeats 4000000
namespace GR
open PySem PySem.SeqAt
open AutoSeq1 (wpAny_loadPart')
open MeetsSeq MeetsSeq2 MeetsSeq3 SeqRoads2
section
variable {prog : Program} {w : World} {A : Around} {R : Result → Shared → Prop}
abbrev FinOf (prog : Program) (w : World) (A : Around) (R : Result → Shared → Prop) : Fin → Shared → Prop := fun fin s' => match fin with
  | .done f => R (.ok f) s'
  | .again c' => c'.quiet = true ∧ codeAny (model prog w) A c' R s'
/-- the two lists, item by item, equal as ds says -/
def ListI (prog : Program) (w : World) (A : Around) (E : Value → Shared → Prop) (l b : Addr) (ds : List Bool) (I : Nat → Shared → Prop) : Prop :=
  ∀ i s, I i s → ∃ (items items2 : Array Value) (n n2 : Nat), s.heap.get? l = some { cls := .type "list", data := .seq items n } ∧ s.heap.get? b = some { cls := .type "list", data := .seq items2 n2 } ∧ items.size = ds.length ∧ items2.size = ds.length ∧
    ∀ (h1 : i < items.size) (h2 : i < items2.size) (h3 : i < ds.length), wpAny (model prog w) A.in1 (eqBool items[i] items2[i]) (fun r s' => r = ds[i] ∧ I (i + 1) s') E s
theorem tuple_eq (l b : Addr) (items items2 : Array Value) (n n2 : Nat) (dd dd2 : Option Addr) (sl sl2 : Array (Option Value)) (ds : List Bool) (hds : ds.length = min items.size items2.size) (I : Nat → Shared → Prop)
    (turn : ∀ i (h1 : i < items.size) (h2 : i < items2.size) (h3 : i < ds.length) s, I i s → wpAny (model prog w) A.in1 (eqBool items[i] items2[i]) (fun r s' => r = ds[i] ∧ I (i + 1) s') (fun e s' => R (.error e) s') s)
    (finF : ∀ i s (h : i < ds.length), I (i + 1) s → ds[i] = false → R (.ok (.ret (.bool false))) s) (finT : ∀ s, I ds.length s → (∀ i (h : i < ds.length), ds[i] = true) → R (.ok (.ret (.bool (items.size == items2.size)))) s)
    {s : Shared} (hl1 : s.heap.get? l = some { cls := .type "tuple", dict := dd, data := .seq items n, slots := sl }) (hb1 : s.heap.get? b = some { cls := .type "tuple", dict := dd2, data := .seq items2 n2, slots := sl2 }) (h : I 0 s) :
    wpAny (model prog w) A.in1 (Builtin.«tuple.__eq__» ⟨[.ref l, .ref b], []⟩) (FinOf prog w A R) (fun e s' => R (.error e) s') s := by
  have f2 := AutoSeq1.sub_tuple_tuple
  have hZ : (items.toList.zip items2.toList).length = ds.length := by simp [hds]
  have h0 := h
  obtain ⟨hp, g, d, tk, os⟩ := s
  wp_walk using wpAny_loadPart' hl1, wpAny_loadPart' hb1, wpAny_forIn_list _ (fun rest b s' => (b.1 = none ∧ ∃ i, rest = (items.toList.zip items2.toList).drop i ∧ i ≤ ds.length ∧ I i s' ∧ ∀ j (h : j < ds.length), j < i → ds[j] = true)) _
  case turn =>
    rintro ⟨y, x⟩ rest b s' ⟨hb', i, hz, hi, hI, hb4⟩
    have hlt : i < (items.toList.zip items2.toList).length := by
      rcases Nat.lt_or_ge i (items.toList.zip items2.toList).length with h' | h'
      · exact h'
      · rw [List.drop_of_length_le h'] at hz; cases hz
    have h3 : i < ds.length := hZ ▸ hlt
    have h1 : i < items.size := by omega
    have h2 : i < items2.size := by omega
    rw [List.drop_eq_getElem_cons hlt] at hz
    injection hz with hyx hrest
    have hy : y = items[i] := by have := congrArg Prod.fst hyx; simpa using this
    have hx : x = items2[i] := by have := congrArg Prod.snd hyx; simpa using this
    subst hy hx
    refine wpAny_bind (wpAny_mono (turn i h1 h2 h3 s' hI) (fun r s2 q2 => ?_) fun _ _ x => x)
    obtain ⟨hr, q2⟩ := q2
    cases hd : ds[i] with
    | true =>
      rw [hd] at hr
      subst hr
      wp_walk
      exact ⟨rfl, i + 1, hrest, h3, q2, fun j hj hji => by
        by_cases e : j = i
        · subst e
          exact hd
        · exact hb4 j hj (by omega)⟩
    | false =>
      rw [hd] at hr
      subst hr
      have hR := finF i s2 h3 q2 hd
      wp_walk
      exact hR
  case fin =>
    rintro ⟨b1, b2⟩ s' ⟨hb', i, hz, hi, hI, hb4⟩
    simp only at hb'
    subst hb'
    have hge : ds.length ≤ i := by
      rcases Nat.lt_or_ge i (items.toList.zip items2.toList).length with h' | h'
      · rw [List.drop_eq_getElem_cons h'] at hz; cases hz
      · exact hZ ▸ h'
    have hi' : i = ds.length := by omega
    subst hi'
    have hR := finT s' hI fun j hj => hb4 j hj hj
    wp_walk
    simpa [Builtin.Tuple.tupleCompareSizes] using hR
  case h =>
    exact ⟨rfl, 0, rfl, Nat.zero_le _, h0, fun j _ z => absurd z (Nat.not_lt_zero _)⟩
theorem loopne (l b : Addr) (ds : List Bool) (I : Nat → Shared → Prop) (hl : ListI prog w A (fun e s' => R (.error e) s') l b ds I)
    (finF : ∀ i s (h : i < ds.length), I (i + 1) s → ds[i] = false → R (.ok (.ret (.bool true))) s) (finT : ∀ s, I ds.length s → (∀ i (h : i < ds.length), ds[i] = true) → R (.ok (.ret (.bool false))) s) (k : Nat) :
    ∀ i : Nat, ds.length - i = k → i ≤ ds.length → (∀ j (h : j < ds.length), j < i → ds[j] = true) → ∀ s, I i s →
      wpAny (model prog w) A.in1 (Builtin.«list.__eq__.loop» ⟨[.ref l, .ref b, rawInt i, rawInt 3], []⟩) (FinOf prog w A R) (fun e s' => R (.error e) s') s := by
  induction k with
  | zero =>
    intro i hk hi hb4 s h
    obtain ⟨items, items2, n, n2, hl1, hb1, hs1, hs2, _⟩ := hl _ _ h
    have hi' : i = ds.length := by omega
    have hR : R (.ok (.ret (.bool false))) s := finT s (hi' ▸ h) fun j hj => hb4 j hj (by omega)
    obtain ⟨hp, g, d, tk, os⟩ := s
    wp_walk using wpAny_loadPart' hl1, wpAny_loadPart' hb1
    have hi1 : items[((i : Nat) : Int).toNat]? = none := by simp; omega
    have hi2 : items2[((i : Nat) : Int).toNat]? = none := by simp; omega
    rw [hi1, hi2]
    wp_walk using wpAny_loadPart' hl1, wpAny_loadPart' hb1
    show R (.ok (.ret (.bool (items.size != items2.size)))) _
    rw [hs1, hs2]
    simpa using hR
  | succ k ih =>
    intro i hk hi hb4 s h
    obtain ⟨items, items2, n, n2, hl1, hb1, hs1, hs2, turn⟩ := hl _ _ h
    have hlt : i < items.size := by omega
    have hlt2 : i < items2.size := by omega
    have ht := turn hlt hlt2 (by omega)
    obtain ⟨hp, g, d, tk, os⟩ := s
    wp_walk using wpAny_loadPart' hl1, wpAny_loadPart' hb1
    have hi1 : items[((i : Nat) : Int).toNat]? = some items[i] := by simp [hlt]
    have hi2 : items2[((i : Nat) : Int).toNat]? = some items2[i] := by simp [hlt2]
    have hc : ((i : Int) + 1) = ((i + 1 : Nat) : Int) := by omega
    rw [hi1, hi2]
    refine wpAny_bind (wpAny_mono ht (fun r s2 h2 => ?_) fun _ _ x => x)
    obtain ⟨hr, h2⟩ := h2
    cases hd : ds[i]'(by omega) with
    | true =>
      rw [hd] at hr
      subst hr
      have hrec := ih (i + 1) (by omega) (by omega) (fun j hj hji => by
        by_cases e : j = i
        · subst e
          exact hd
        · exact hb4 j hj (by omega)) s2 h2
      obtain ⟨hp2, g2, d2, tk2, os2⟩ := s2
      wp_walk
      rw [hc]
      exact ⟨plainId_quiet plain_eq_loop _, codeAny_builtin entry_eq_loop (by
        rw [Around.under_plainId plain_eq_loop _]
        exact hrec)⟩
    | false =>
      rw [hd] at hr
      subst hr
      have hR := finF i s2 (by omega) h2 hd
      obtain ⟨items', items2', n', n2', hl1', hb1', hs1', hs2', _⟩ := hl _ _ h2
      obtain ⟨hp2, g2, d2, tk2, os2⟩ := s2
      wp_walk using wpAny_loadPart' hl1', wpAny_loadPart' hb1'
      have hi1' : items'[((i : Nat) : Int).toNat]? = some (items'[i]'(by omega)) := by simp [show i < items'.size by omega]
      have hi2' : items2'[((i : Nat) : Int).toNat]? = some (items2'[i]'(by omega)) := by simp [show i < items2'.size by omega]
      rw [hi1', hi2']
      wp_walk
      exact hR
theorem list_ne (l b : Addr) (ds : List Bool) (I : Nat → Shared → Prop) (hl : ListI prog w A (fun e s' => R (.error e) s') l b ds I)
    (finF : ∀ i s (h : i < ds.length), I (i + 1) s → ds[i] = false → R (.ok (.ret (.bool true))) s) (finT : ∀ s, I ds.length s → (∀ i (h : i < ds.length), ds[i] = true) → R (.ok (.ret (.bool false))) s) {s : Shared} (h : I 0 s) :
    wpAny (model prog w) A.in1 (Builtin.«list.__ne__» ⟨[.ref l, .ref b], []⟩) (FinOf prog w A R) (fun e s' => R (.error e) s') s := by
  obtain ⟨items, items2, n, n2, hl1, hb1, hs1, hs2, _⟩ := hl _ _ h
  have hrec := loopne (A := A) (R := R) l b ds I hl finF finT _ 0 rfl (Nat.zero_le _) (fun j _ z => absurd z (Nat.not_lt_zero _)) s h
  obtain ⟨hp, g, d, tk, os⟩ := s
  have f3 := AutoSeq1.sub_list_list
  have hne : ¬ (items.size != items2.size) = true := by simp [hs1, hs2]
  wp_walk using wpAny_loadPart' hl1, wpAny_loadPart' hb1
  exact ⟨plainId_quiet plain_eq_loop _, codeAny_builtin entry_eq_loop (by
    rw [Around.under_plainId plain_eq_loop _]
    exact hrec)⟩
theorem list_ne_len (l b : Addr) {items items2 : Array Value} {n n2 : Nat} {s : Shared} (hl1 : s.heap.get? l = some { cls := .type "list", data := .seq items n }) (hb1 : s.heap.get? b = some { cls := .type "list", data := .seq items2 n2 }) (hs : items.size ≠ items2.size) (hR : R (.ok (.ret (.bool true))) s) :
    wpAny (model prog w) A.in1 (Builtin.«list.__ne__» ⟨[.ref l, .ref b], []⟩) (FinOf prog w A R) (fun e s' => R (.error e) s') s := by
  obtain ⟨hp, g, d, tk, os⟩ := s
  have f3 := AutoSeq1.sub_list_list
  have hne : (items.size != items2.size) = true := by simp [hs]
  wp_walk using wpAny_loadPart' hl1, wpAny_loadPart' hb1
  exact hR
theorem tuple_ne (l b : Addr) (items items2 : Array Value) (n n2 : Nat) (dd dd2 : Option Addr) (sl sl2 : Array (Option Value)) (ds : List Bool) (hds : ds.length = min items.size items2.size) (I : Nat → Shared → Prop)
    (turn : ∀ i (h1 : i < items.size) (h2 : i < items2.size) (h3 : i < ds.length) s, I i s → wpAny (model prog w) A.in1 (eqBool items[i] items2[i]) (fun r s' => r = ds[i] ∧ I (i + 1) s') (fun e s' => R (.error e) s') s)
    (finF : ∀ i s (h : i < ds.length), I (i + 1) s → ds[i] = false → R (.ok (.ret (.bool true))) s) (finT : ∀ s, I ds.length s → (∀ i (h : i < ds.length), ds[i] = true) → R (.ok (.ret (.bool (items.size != items2.size)))) s)
    {s : Shared} (hl1 : s.heap.get? l = some { cls := .type "tuple", dict := dd, data := .seq items n, slots := sl }) (hb1 : s.heap.get? b = some { cls := .type "tuple", dict := dd2, data := .seq items2 n2, slots := sl2 }) (h : I 0 s) :
    wpAny (model prog w) A.in1 (Builtin.«tuple.__ne__» ⟨[.ref l, .ref b], []⟩) (FinOf prog w A R) (fun e s' => R (.error e) s') s := by
  have f2 := AutoSeq1.sub_tuple_tuple
  have hZ : (items.toList.zip items2.toList).length = ds.length := by simp [hds]
  have h0 := h
  obtain ⟨hp, g, d, tk, os⟩ := s
  wp_walk using wpAny_loadPart' hl1, wpAny_loadPart' hb1, wpAny_forIn_list _ (fun rest b s' => (b.1 = none ∧ ∃ i, rest = (items.toList.zip items2.toList).drop i ∧ i ≤ ds.length ∧ I i s' ∧ ∀ j (h : j < ds.length), j < i → ds[j] = true)) _
  case turn =>
    rintro ⟨y, x⟩ rest b s' ⟨hb', i, hz, hi, hI, hb4⟩
    have hlt : i < (items.toList.zip items2.toList).length := by
      rcases Nat.lt_or_ge i (items.toList.zip items2.toList).length with h' | h'
      · exact h'
      · rw [List.drop_of_length_le h'] at hz; cases hz
    have h3 : i < ds.length := hZ ▸ hlt
    have h1 : i < items.size := by omega
    have h2 : i < items2.size := by omega
    rw [List.drop_eq_getElem_cons hlt] at hz
    injection hz with hyx hrest
    have hy : y = items[i] := by have := congrArg Prod.fst hyx; simpa using this
    have hx : x = items2[i] := by have := congrArg Prod.snd hyx; simpa using this
    subst hy hx
    refine wpAny_bind (wpAny_mono (turn i h1 h2 h3 s' hI) (fun r s2 q2 => ?_) fun _ _ x => x)
    obtain ⟨hr, q2⟩ := q2
    cases hd : ds[i] with
    | true =>
      rw [hd] at hr
      subst hr
      wp_walk
      exact ⟨rfl, i + 1, hrest, h3, q2, fun j hj hji => by
        by_cases e : j = i
        · subst e
          exact hd
        · exact hb4 j hj (by omega)⟩
    | false =>
      rw [hd] at hr
      subst hr
      have hR := finF i s2 h3 q2 hd
      wp_walk
      exact hR
  case fin =>
    rintro ⟨b1, b2⟩ s' ⟨hb', i, hz, hi, hI, hb4⟩
    simp only at hb'
    subst hb'
    have hge : ds.length ≤ i := by
      rcases Nat.lt_or_ge i (items.toList.zip items2.toList).length with h' | h'
      · rw [List.drop_eq_getElem_cons h'] at hz; cases hz
      · exact hZ ▸ h'
    have hi' : i = ds.length := by omega
    subst hi'
    have hR := finT s' hI fun j hj => hb4 j hj hj
    wp_walk
    simpa [Builtin.Tuple.tupleCompareSizes] using hR
  case h =>
    exact ⟨rfl, 0, rfl, Nat.zero_le _, h0, fun j _ z => absurd z (Nat.not_lt_zero _)⟩
end
end GR
set_option Elab.async false
set_option linter.all false
set_option maxRecDepth 100000
set_option maxHeartbeats 4000000
namespace PL
open PySem PySem.Spec
open PyProof.Rows hiding St
open L2

/-! ### == of what has a shape -/
/-- == gives whether they are equal, and only makes objects -/
def EqS (X : Cx) (n : Nat) {α : Type} [DecidableEq α] (s : Sh α) : Prop :=
  ∀ (A : Around) (pins : List (Addr × Obj)) (st : Shared) (σ : L2.St) (H : Hp) (x y : V) (u v : Value) (a b : α), Sub X n A → Inv X pins σ H st → RelV x u → RelV y v → s H x a → s H y b →
    wpAny (model X.prog X.w) A (eqBool u v) (fun r s' => r = decide (a = b) ∧ ∃ H', Inv X pins σ H' s' ∧ Same H H') X.xe st
/-- richCompare: == (ne false), != (ne true) -/
def RcS (X : Cx) (n : Nat) {α : Type} [DecidableEq α] (s : Sh α) (op : CmpOp) (f : Bool → Bool) : Prop :=
  ∀ (A : Around) (pins : List (Addr × Obj)) (st : Shared) (σ : L2.St) (H : Hp) (x y : V) (u v : Value) (a b : α), Sub X n A → Inv X pins σ H st → RelV x u → RelV y v → s H x a → s H y b →
    wpAny (model X.prog X.w) A (richCompare op u v) (fun r s' => r = .bool (f (decide (a = b))) ∧ ∃ H', Inv X pins σ H' s' ∧ Same H H') X.xe st
/-- what lies at a place is one value -/
def FnS (X : Cx) {α : Type} (s : Sh α) : Prop := ∀ (pins : List (Addr × Obj)) (st : Shared) (σ : L2.St) (H : Hp) (x : V) (a b : α), Inv X pins σ H st → s H x a → s H x b → a = b
def RefS {α : Type} (s : Sh α) : Prop := ∀ (H : Hp) (x : V) (a : α), s H x a → ∃ p, x = .ref p
section
variable {X : Cx} {n m : Nat} {α β : Type} [DecidableEq α] [DecidableEq β] {s : Sh α} {t : Sh β}
theorem EqS.mono (h : EqS X n s) (hn : n ≤ m) : EqS X m s := fun A pins st σ H x y u v a b sb => h A pins st σ H x y u v a b (sb.mono hn)
theorem RcS.eqS (h : RcS X n s .Eq id) (hr : RefS s) (hf : FnS X s) : EqS X n s := by
  intro A pins st σ H x y u v a b sb I rx ry ha hb
  obtain ⟨p, rfl⟩ := hr H x a ha
  obtain ⟨q, rfl⟩ := hr H y b hb
  cases rx
  cases ry
  by_cases hpq : p = q
  · subst hpq
    have e : a = b := hf pins st σ H _ a b I ha hb
    exact SeqAt.EqAt.same (A := A) (s := st) (.ref p) X.prog X.w X.xe _ ⟨(decide_eq_true e).symm, H, I, Same.refl _⟩
  · refine GQ.eqBool_refG hpq (wpAny_mono (h A pins st σ H (.ref p) (.ref q) _ _ a b sb I rfl rfl ha hb) (fun r s' z => ?_) fun _ _ x => x)
    obtain ⟨hr', q⟩ := z
    exact ⟨_, hr', rfl, q⟩
theorem fnS_frac {s : Sh α} (h : ∀ H x a b, s H x a → s H x b → a = b) : FnS X s := fun _ _ _ H x a b _ => h H x a b
theorem paired_ix {F : V → α → Prop} {xs : List V} {us : List Value} {as : List α} (r : Vals xs us) (p : Paired F xs as) (i : Nat) (h1 : i < us.length) (h2 : i < as.length) : ∃ x, RelV x us[i] ∧ F x as[i] := by
  obtain ⟨x, h3, h4⟩ := Paired.at p (List.getElem?_eq_getElem h2)
  obtain ⟨u, h5, h6⟩ := Vals.get r h3
  rw [List.getElem?_eq_getElem h1] at h5
  cases h5
  exact ⟨x, h6, h4⟩
/-- the items' answers -/
def eqDs (as bs : List α) : List Bool := (as.zip bs).map fun p => decide (p.1 = p.2)
theorem eqDs_len {as bs : List α} : (eqDs as bs).length = min as.length bs.length := by
  unfold eqDs
  rw [List.length_map, List.length_zip]
theorem eqDs_at {as bs : List α} {i : Nat} (h : i < (eqDs as bs).length) (h1 : i < as.length) (h2 : i < bs.length) : (eqDs as bs)[i] = decide (as[i] = bs[i]) := by
  have z : (eqDs as bs)[i]? = some (decide (as[i] = bs[i])) := by
    unfold eqDs
    rw [List.getElem?_map, zip_at (List.getElem?_eq_getElem h1) (List.getElem?_eq_getElem h2)] <;> rfl
  rw [List.getElem?_eq_getElem h] at z
  exact Option.some.inj z
theorem eqDs_all {as bs : List α} (hl : as.length = bs.length) (h : ∀ i (hi : i < (eqDs as bs).length), (eqDs as bs)[i] = true) : as = bs := by
  refine List.ext_getElem hl fun i h1 h2 => ?_
  have hi : i < (eqDs as bs).length := by
    rw [eqDs_len]
    omega
  have z := h i hi
  rw [eqDs_at hi h1 h2] at z
  exact of_decide_eq_true z
theorem eqDs_no {as bs : List α} {i : Nat} (hi : i < (eqDs as bs).length) (h : (eqDs as bs)[i] = false) : as ≠ bs := fun e => by
  have h1 : i < as.length := by
    have z := eqDs_len (as := as) (bs := bs)
    omega
  have h2 : i < bs.length := by
    have z := eqDs_len (as := as) (bs := bs)
    omega
  rw [eqDs_at hi h1 h2] at h
  refine absurd ?_ (of_decide_eq_false h)
  subst e
  rfl
theorem obj_list {pins : List (Addr × Obj)} {st : Shared} {σ : L2.St} {H : Hp} {p : Addr} {xs : List V} (I : Inv X pins σ H st) (h : H p = some (.lst xs)) : ∃ (its : List Value) (k : Nat), Vals xs its ∧ st.heap.get? p = some { cls := .type "list", data := .seq its.toArray k } := by
  obtain ⟨_, its, k, r, e⟩ : xs.length ≤ sizeLine ∧ ∃ (its : List Value) (n : Nat), Vals xs its ∧ st.heap.get? p = some { cls := .type "list", data := .seq its.toArray n } := I.hok p _ h
  exact ⟨its, k, r, e⟩
theorem rcS_listne [Mo s] (h : EqS X n s) : RcS X (n + 1) (sL X.K s) .NotEq not := by
  intro A pins st σ H x y u v as bs sb I rx ry ⟨p, xs, e1, h1, h2⟩ ⟨q, ys, e2, h3, h4⟩
  subst e1 e2
  cases rx
  cases ry
  obtain ⟨its, k1, r1, o1⟩ := obj_list I h1
  obtain ⟨its2, k2, r2, o2⟩ := obj_list I h3
  refine wpAny_richCompare_same_room (op := .NotEq) ⟨_, o1, rfl⟩ ⟨_, o2, rfl⟩ F.slot_list_ne (GQ.call_here F.slot_list_ne ⟨_, o1, rfl⟩ F.entry_list_ne (F.args_list_ne_2 _ _) ?_) sb.room.units0
  by_cases hl : as.length = bs.length
  · refine GR.list_ne (R := wants (fun v s' => v ≠ .notImplemented ∧ (v = .bool (not (decide (as = bs))) ∧ ∃ H', Inv X pins σ H' s' ∧ Same H H')) X.xe) p q (eqDs as bs) (fun _ s' => ∃ H', Inv X pins σ H' s' ∧ Same H H') ?_ ?_ ?_ ⟨H, I, Same.refl _⟩
    · rintro i s' ⟨H', I', e'⟩
      obtain ⟨its, k1, r1, o1⟩ := obj_list I' (e' _ _ h1)
      obtain ⟨its2, k2, r2, o2⟩ := obj_list I' (e' _ _ h3)
      have l1 : its.length = as.length := by rw [← r1.length, h2.length]
      have l2 : its2.length = bs.length := by rw [← r2.length, h4.length]
      refine ⟨its.toArray, its2.toArray, k1, k2, o1, o2, by rw [eqDs_len, List.size_toArray]; omega, by rw [eqDs_len, List.size_toArray]; omega, fun g1 g2 g3 => ?_⟩
      have g1' : i < its.length := by simpa using g1
      have g2' : i < its2.length := by simpa using g2
      obtain ⟨x, rx, sx⟩ := paired_ix r1 (paired_up e' h2) i g1' (by omega)
      obtain ⟨y, ry, sy⟩ := paired_ix r2 (paired_up e' h4) i g2' (by omega)
      have z := h A.in1 pins s' σ H' x y _ _ _ _ sb.in1 I' rx ry sx sy
      have ea : its.toArray[i] = its[i] := by simp
      have eb : its2.toArray[i] = its2[i] := by simp
      rw [ea, eb]
      refine wpAny_mono z (fun r s2 ⟨hr, H2, I2, e2⟩ => ⟨by rw [hr, eqDs_at g3 (by omega) (by omega)], H2, I2, e'.trans e2⟩) fun _ _ x => x
    · rintro i s' hi hI hd
      refine ⟨(fun z => nomatch z), ?_, hI⟩
      rw [decide_eq_false (eqDs_no hi hd)]
      rfl
    · rintro s' hI hall
      refine ⟨(fun z => nomatch z), ?_, hI⟩
      rw [decide_eq_true (eqDs_all hl hall)]
      rfl
  · refine GR.list_ne_len (R := wants (fun v s' => v ≠ .notImplemented ∧ (v = .bool (not (decide (as = bs))) ∧ ∃ H', Inv X pins σ H' s' ∧ Same H H')) X.xe) p q o1 o2 ?_ ⟨(fun z => nomatch z), ?_, H, I, Same.refl _⟩
    · rw [List.size_toArray, List.size_toArray, ← r1.length, ← r2.length, h2.length, h4.length]
      exact hl
    · rw [decide_eq_false fun e => hl (by rw [e])]
      rfl
theorem rcS_tupeq [Mo s] (h : EqS X n s) : RcS X (n + 1) (sU X.K s) .Eq id := by
  intro A pins st σ H x y u v as bs sb I rx ry ⟨p, xs, e1, h1, h2⟩ ⟨q, ys, e2, h3, h4⟩
  subst e1 e2
  cases rx
  cases ry
  obtain ⟨its, r1, ⟨⟨cls, dd, data, sl⟩, o1, c1, n1, d1⟩, z1⟩ := I.tuple h1
  obtain ⟨its2, r2, ⟨⟨cls2, dd2, data2, sl2⟩, o2, c2, n2, d2⟩, z2⟩ := I.tuple h3
  simp only at c1 d1 c2 d2
  subst c1 d1 c2 d2
  have l1 : its.length = as.length := by rw [← r1.length, h2.length]
  have l2 : its2.length = bs.length := by rw [← r2.length, h4.length]
  refine wpAny_richCompare_same_room (op := .Eq) ⟨_, o1, rfl⟩ ⟨_, o2, rfl⟩ F.slot_tuple_eq (GQ.call_here F.slot_tuple_eq ⟨_, o1, rfl⟩ F.entry_tuple_eq (F.args_tuple_eq_2 _ _) ?_) sb.room.units0
  refine GR.tuple_eq (R := wants (fun v s' => v ≠ .notImplemented ∧ (v = .bool (id (decide (as = bs))) ∧ ∃ H', Inv X pins σ H' s' ∧ Same H H')) X.xe) p q its.toArray its2.toArray n1 n2 dd dd2 sl sl2 (eqDs as bs) (by rw [eqDs_len, List.size_toArray, List.size_toArray, l1, l2]) (fun _ s' => ∃ H', Inv X pins σ H' s' ∧ Same H H') ?_ ?_ ?_ o1 o2 ⟨H, I, Same.refl _⟩
  · rintro i g1 g2 g3 s' ⟨H', I', e'⟩
    have g1' : i < its.length := by simpa using g1
    have g2' : i < its2.length := by simpa using g2
    obtain ⟨x, rx, sx⟩ := paired_ix r1 (paired_up e' h2) i g1' (by omega)
    obtain ⟨y, ry, sy⟩ := paired_ix r2 (paired_up e' h4) i g2' (by omega)
    have z := h A.in1 pins s' σ H' x y _ _ _ _ sb.in1 I' rx ry sx sy
    have ea : its.toArray[i] = its[i] := by simp
    have eb : its2.toArray[i] = its2[i] := by simp
    rw [ea, eb]
    refine wpAny_mono z (fun r s2 ⟨hr, H2, I2, e2⟩ => ⟨by rw [hr, eqDs_at g3 (by omega) (by omega)], H2, I2, e'.trans e2⟩) fun _ _ x => x
  · rintro i s' hi hI hd
    refine ⟨(fun z => nomatch z), ?_, hI⟩
    rw [decide_eq_false (eqDs_no hi hd)]
    rfl
  · rintro s' hI hall
    refine ⟨(fun z => nomatch z), ?_, hI⟩
    rw [List.size_toArray, List.size_toArray, l1, l2]
    by_cases hl : as.length = bs.length
    · rw [decide_eq_true (eqDs_all hl hall), hl]
      simp
    · rw [decide_eq_false fun e => hl (by rw [e])]
      simp [hl]
end
end PL
set_option Elab.async false
set_option linter.all false
set_option maxRecDepth 100000
set_option maxHeartbeats 4000000
namespace PL
open PySem PySem.Spec
open PyProof.Rows hiding St
open L2
section
variable {X : Cx} {n m : Nat} {α β : Type} [DecidableEq α] [DecidableEq β] {s : Sh α} {t : Sh β}
theorem rcS_pair {op : CmpOp} {f : Bool → Bool} (ho : (op = .Eq ∧ f = id) ∨ (op = .NotEq ∧ f = not)) [Mo s] [Mo t] (h : EqS X n s) (g : EqS X n t) : RcS X (n + 1) (sP X.K s t) op f := by
  intro A pins st σ H x y u v a b sb I rx ry ⟨p, x1, y1, e1, h1, h2, h3⟩ ⟨q, x2, y2, e2, h4, h5, h6⟩
  subst e1 e2
  cases rx
  cases ry
  obtain ⟨its, r1, ⟨⟨cls, dd, data, sl⟩, o1, c1, n1, d1⟩, z1⟩ := I.tuple h1
  obtain ⟨its2, r2, ⟨⟨cls2, dd2, data2, sl2⟩, o2, c2, n2, d2⟩, z2⟩ := I.tuple h4
  simp only at c1 d1 c2 d2
  subst c1 d1 c2 d2
  cases r1 with
  | @cons _ u1 _ _ w1 r1 =>
  cases r1 with
  | @cons _ u2 _ _ w2 r1 =>
  cases r1
  cases r2 with
  | @cons _ u3 _ _ w3 r2 =>
  cases r2 with
  | @cons _ u4 _ _ w4 r2 =>
  cases r2
  have turn : ∀ i (h1 : i < ([u1, u2].toArray).size) (h2 : i < ([u3, u4].toArray).size) (h3 : i < [decide (a.1 = b.1), decide (a.2 = b.2)].length) (s' : Shared), (∃ H', Inv X pins σ H' s' ∧ Same H H') →
      wpAny (model X.prog X.w) A.in1 (eqBool [u1, u2].toArray[i] [u3, u4].toArray[i]) (fun r s2 => r = [decide (a.1 = b.1), decide (a.2 = b.2)][i] ∧ ∃ H', Inv X pins σ H' s2 ∧ Same H H') X.xe s' := by
    rintro i g1 g2 g3 s' ⟨H', I', e'⟩
    match i, g1, g2, g3 with
    | 0, _, _, _ =>
      exact wpAny_mono (h A.in1 pins s' σ H' x1 x2 u1 u3 a.1 b.1 sb.in1 I' w1 w3 (Mo.up e' h2) (Mo.up e' h5)) (fun r s2 ⟨hr, H2, I2, e2⟩ => ⟨hr, H2, I2, e'.trans e2⟩) fun _ _ x => x
    | 1, _, _, _ =>
      exact wpAny_mono (g A.in1 pins s' σ H' y1 y2 u2 u4 a.2 b.2 sb.in1 I' w2 w4 (Mo.up e' h3) (Mo.up e' h6)) (fun r s2 ⟨hr, H2, I2, e2⟩ => ⟨hr, H2, I2, e'.trans e2⟩) fun _ _ x => x
  have no : ∀ i (hi : i < [decide (a.1 = b.1), decide (a.2 = b.2)].length), [decide (a.1 = b.1), decide (a.2 = b.2)][i] = false → a ≠ b := by
    intro i hi hd e
    subst e
    match i, hi with
    | 0, _ => simp at hd
    | 1, _ => simp at hd
  have yes : (∀ i (hi : i < [decide (a.1 = b.1), decide (a.2 = b.2)].length), [decide (a.1 = b.1), decide (a.2 = b.2)][i] = true) → a = b := fun hh => by
    have z0 := hh 0 (by simp)
    have z1 := hh 1 (by simp)
    exact Prod.ext (of_decide_eq_true z0) (of_decide_eq_true z1)
  rcases ho with ⟨ho, hf⟩ | ⟨ho, hf⟩
  · subst ho hf
    refine wpAny_richCompare_same_room (op := .Eq) ⟨_, o1, rfl⟩ ⟨_, o2, rfl⟩ F.slot_tuple_eq (GQ.call_here F.slot_tuple_eq ⟨_, o1, rfl⟩ F.entry_tuple_eq (F.args_tuple_eq_2 _ _) ?_) sb.room.units0
    refine GR.tuple_eq (R := wants (fun v s' => v ≠ .notImplemented ∧ (v = .bool (id (decide (a = b))) ∧ ∃ H', Inv X pins σ H' s' ∧ Same H H')) X.xe) p q _ _ n1 n2 dd dd2 sl sl2 [decide (a.1 = b.1), decide (a.2 = b.2)] rfl (fun _ s' => ∃ H', Inv X pins σ H' s' ∧ Same H H') turn ?_ ?_ o1 o2 ⟨H, I, Same.refl _⟩
    · rintro i s' hi hI hd
      refine ⟨(fun z => nomatch z), ?_, hI⟩
      rw [decide_eq_false (no i hi hd)]
      rfl
    · rintro s' hI hall
      refine ⟨(fun z => nomatch z), ?_, hI⟩
      rw [decide_eq_true (yes hall)]
      rfl
  · subst ho hf
    refine wpAny_richCompare_same_room (op := .NotEq) ⟨_, o1, rfl⟩ ⟨_, o2, rfl⟩ F.slot_tuple_ne (GQ.call_here F.slot_tuple_ne ⟨_, o1, rfl⟩ F.entry_tuple_ne (F.args_tuple_ne_2 _ _) ?_) sb.room.units0
    refine GR.tuple_ne (R := wants (fun v s' => v ≠ .notImplemented ∧ (v = .bool (not (decide (a = b))) ∧ ∃ H', Inv X pins σ H' s' ∧ Same H H')) X.xe) p q _ _ n1 n2 dd dd2 sl sl2 [decide (a.1 = b.1), decide (a.2 = b.2)] rfl (fun _ s' => ∃ H', Inv X pins σ H' s' ∧ Same H H') turn ?_ ?_ o1 o2 ⟨H, I, Same.refl _⟩
    · rintro i s' hi hI hd
      refine ⟨(fun z => nomatch z), ?_, hI⟩
      rw [decide_eq_false (no i hi hd)]
      rfl
    · rintro s' hI hall
      refine ⟨(fun z => nomatch z), ?_, hI⟩
      rw [decide_eq_true (yes hall)]
      rfl
theorem eqS_flat (hfl : ∀ H x a, s H x a → flatV x = true) (he : ∀ H x y a b, s H x a → s H y b → eqV x y = decide (a = b)) : EqS X 0 s := by
  intro A pins st σ H x y u v a b sb I rx ry ha hb
  have q := eqAt_V (A := A) (s := st) rx ry (hfl H x a ha) (hfl H y b hb)
  rw [he H x y a b ha hb] at q
  exact q X.prog X.w X.xe _ ⟨rfl, H, I, Same.refl _⟩
theorem eqS_int : EqS X 0 sInt := eqS_flat (fun H x a e => by rw [e] <;> rfl) fun H x y a b e1 e2 => by
  rw [e1, e2]
  show _ = decide (a = b)
  by_cases h : a = b <;> simp [eqV, h]
theorem eqS_str : EqS X 0 sStr := eqS_flat (fun H x a e => by rw [e] <;> rfl) fun H x y a b e1 e2 => by
  rw [e1, e2]
  show _ = decide (a = b)
  by_cases h : a = b <;> simp [eqV, h]
/-- == and != as operators -/
def rcR (s : Sh α) (f : Bool → Bool) : R2 := fun x y H Q => ∃ a b, s H x a ∧ s H y b ∧ ∀ H', Same H H' → Q (.bl (f (decide (a = b)))) H'
theorem op_rc {op : CmpOp} {f : Bool → Bool} (h : RcS X n s op f) (hop : compareOp op = richCompare op) (hr : Room n X.A) : OpR X (compareOp op) (rcR s f) := by
  intro pins st σ H x y v u Q I rx ry ⟨a, b, ha, hb, k⟩
  rw [hop]
  refine thn (h X.A pins st σ H x y v u a b ⟨hr, rfl⟩ I rx ry ha hb) fun r s' ⟨hr', H', I', e⟩ => ?_
  subst hr'
  exact ⟨.bl _, H', I', rfl, k H' e⟩
theorem o2_rc {f : Bool → Bool} : Op2 (rcR s f) s s sBl (fun _ _ => True) (fun a b c => c = f (decide (a = b))) := fun H x y a b Q h1 h2 _ k => ⟨a, b, h1, h2, fun H' e => k _ _ H' rfl e rfl⟩
end
/-! ### o.f = .. as a target -/
theorem pg_fld {X : Cx} {o : Expr} {to : TE} {f : Str} {p : Pos} (ho : PE X o to) : PG X (.Attribute o f p) (fun v σ H Q => to σ H fun x H1 => ∃ a C dx fs, x = .ref a ∧ H1 a = some (.ins C dx fs) ∧ Cls X.K C ∧ NoAttr X.K C f ∧ fs.length < 1000 ∧ Q σ (upd H1 a (.ins C dx (putF f v fs)))) := ⟨fun pins s σ H v u Q I r h => by
  refine PySem.W.kas_attr (thn (ho.run pins s σ H _ I h) fun ov s2 ⟨x, H2, I2, rx, a, C, dx, fs, ex, ea, c, n, l, q2⟩ => ?_)
  subst ex
  obtain rfl : ov = Value.ref a := rx
  exact setattr_ok I2 ea c n l r fun s3 I3 => ⟨σ, _, I3, q2⟩⟩

/-! ### C.m(e), m a staticmethod; C.m(), m a classmethod -/
structure SMet (K : PySem.W.Frag) (C : Addr) (mc : Value) (m : Str) (p g : Addr) : Prop where
  at_ : PySem.W.findCls K (.ref C) mc m = some (.get (.builtin "staticmethod.__get__") (.ref p) .none (.ref C))
  rc : ∃ rest, PySem.W.recIn K p "staticmethod" = some (.ref g :: rest)
  kp : PySem.W.keepIn K (.ref g) = true
section
variable {X : Cx} {k : Nat} {C p g : Addr} {mc : Value} {sp : Sp} {o e : Expr} {es : List Expr} {m : Str} {pos apos : Pos} {ta : TE} {t : TA} {pl : Sem Bool}
theorem getmethsm_ok {pins : List (Addr × Obj)} {σ : L2.St} {H : Hp} {s : Shared} {pl : Sem Bool} {A : Around} {E : Value → Shared → Prop} {Q : Value × List Value → Shared → Prop} (I : Inv X pins σ H s) (r : ClX.CRead X.K C mc) (k : SMet X.K C mc m p g)
    (h : ∀ s', Inv X pins σ H s' → Q (.ref g, []) s') : wpAny (model X.prog X.w) A (getMethod (.ref C) m pl) Q E s := by
  obtain ⟨rest, hp⟩ := k.rc
  refine PySem.W.method_cls I.kIn r.ga (PySem.W.cls_bind I.kIn r.rd k.at_ ?_)
  refine wpAny_call (PySem.W.sm_get (s := { s with toks := s.toks + 1 }) I.kIn hp (PySem.W.handed_on rfl ?_))
  exact h _ (I.tok _)
theorem pe_smeth (he : PE X o ta) (r : ClX.CRead X.K C mc) (c : SMet X.K C mc m p g) (F : FnR X.prog X.w X.K X.mg X.base CX0 k g sp) (hr : Room k X.A) (ha : PA X (e :: es) t)
    (hst : starEach (e :: es) X.env = (false, eval e X.env) :: starEach es X.env := by rfl) (hpl : (backTo pos (starEach es X.env)).any (·.1) = false := by rfl)
    (ht : eval (.Call (.Attribute o m apos) (e :: es) [] pos) X.env = (do
      let ov ← eval o X.env
      standAt apos.atName
      let (f, first) ← holding [ov] (getMethod ov m pl)
      callWith pos f first (backTo pos (starEach (e :: es) X.env)) (backToKw pos (keywordEach [] X.env))) := by rfl) :
    PE X (.Call (.Attribute o m apos) (e :: es) [] pos) (fun σ H Q => ta σ H fun x H1 => x = .ref C ∧ t σ H1 fun vs H2 => sp vs H2 Q E0) := by
  refine ⟨fun pins s σ H Q I h => ?_⟩
  refine PySem.W.methodCall_KW (pl := pl) (thn (he.run pins s σ H _ I h) fun u s1 ⟨x, H1, I1, rx, ex, q⟩ => ?_) ht
  subst ex
  obtain rfl : u = Value.ref C := rx
  refine getmethsm_ok I1 r c fun s2 I2 => ?_
  refine PySem.W.callWith_K (first := []) (h₀ := X.base) I.ok.mod.kin c.kp (thn (ha.run pos pins s2 σ H1 _ I2 q) fun us s3 ⟨vs, H3, I3, r3, q3⟩ => ⟨I3.kIn, ?_⟩) hst hpl
  exact wpAny_call (run_fnR F hr pass0 I3 r3 q3)
end
end PL
set_option Elab.async false
set_option linter.all false
set_option maxRecDepth 100000
set_option maxHeartbeats 4000000
namespace PL
open PySem PySem.Spec
open PyProof.Rows hiding St
open L2
/-! ### facts of the text, as tests -/
structure ClsX (K : Fg) (C : Addr) : Prop where
  cl : Cls K C
  sf : PySem.W.selfFirst K C = true
  ca : PySem.W.findIn K (.ref C) "__class__" = some (some (.builtin "object.__class__"))
  cn : PySem.W.specialIn K (.builtin "object.__class__") "__get__" = some (some (.builtin "getset_descriptor.__get__"))
  ct : PySem.W.takesIn K (.builtin "object.__class__") = some true
  cm : PySem.W.mroIn K C (.type "object") = some true
  ii : PySem.W.kitOne K (.ref C) (.ref C) = some true
  mkr : Mk K C (He.ma K C "__init__")
  rd : ClX.CRead K C (.type "type")
theorem clsX_ok {K : Fg} {x : Str} (h : bClsX x K = true) : ClsX K (He.ga K x) := by
  obtain ⟨h1, h⟩ := He.ba h
  obtain ⟨h2, h⟩ := He.ba h
  obtain ⟨h3, h⟩ := He.ba h
  obtain ⟨h4, h⟩ := He.ba h
  obtain ⟨h5, h⟩ := He.ba h
  obtain ⟨h6, h⟩ := He.ba h
  obtain ⟨h7, h⟩ := He.ba h
  obtain ⟨h8, h⟩ := He.ba h
  obtain ⟨h9, h10⟩ := He.ba h
  exact ⟨He.cls_ok h1, h3, of_decide_eq_true h4, of_decide_eq_true h5, of_decide_eq_true h6, of_decide_eq_true h7, of_decide_eq_true h8, He.mkr_ok h2, ⟨h9, of_decide_eq_true h10⟩⟩
theorem met_ok {K : Fg} {x m : Str} (h : bMet x m K = true) : Meth K (He.ga K x) m (aMet x m K) := He.meth_ok h
theorem met_own {K : Fg} {x m : Str} (h : bMet x m K = true) : OwnM K (He.ga K x) m (aMet x m K) := ⟨(met_ok h).at_, (met_ok h).fn⟩
theorem no_ok {K : Fg} {x f : Str} (h : bNo x f K = true) : NoAttr K (He.ga K x) f := He.noat_ok h
theorem ne_ok {K : Fg} {x : Str} (h : bNe x K = true) : PySem.W.findIn K (.ref (He.ga K x)) "__ne__" = some (some (.builtin "object.__ne__")) := of_decide_eq_true h
theorem rec_ok {K : Fg} {p : Addr} {T : String} (h : (match PySem.W.recIn K p T with
    | some (.ref _ :: _) => true
    | _ => false) = true) : ∃ rest, PySem.W.recIn K p T = some (.ref (recHead K p T) :: rest) := by
  unfold recHead
  cases q : PySem.W.recIn K p T with
  | none =>
    rw [q] at h
    cases h
  | some l =>
    rw [q] at h
    cases l with
    | nil => cases h
    | cons v r => cases v <;> first | exact ⟨_, rfl⟩ | cases h
theorem prop_ok {K : Fg} {x f : Str} (h : bProp x f K = true) : PropOf K (He.ga K x) f (He.ma K (He.ga K x) f) (aRec x f "property" K) := by
  obtain ⟨h1, h⟩ := He.ba h
  obtain ⟨h2, h⟩ := He.ba h
  obtain ⟨h3, h4⟩ := He.ba h
  exact ⟨of_decide_eq_true h1, of_decide_eq_true h2, of_decide_eq_true h3, rec_ok h4⟩
theorem isGetS_ok {o : Option PySem.W.CFound} {C p : Addr} {id : String} (h : isGetS o C p id = true) : o = some (.get (.builtin id) (.ref p) .none (.ref C)) := by
  unfold isGetS at h
  split at h
  · obtain ⟨h1, h⟩ := He.ba h
    obtain ⟨h2, h3⟩ := He.ba h
    rw [of_decide_eq_true h1, of_decide_eq_true h2, of_decide_eq_true h3]
  · cases h
theorem sta_ok {K : Fg} {x m : Str} (h : bSta x m K = true) : SMet K (He.ga K x) (.type "type") m (He.ma K (He.ga K x) m) (aRec x m "staticmethod" K) := by
  obtain ⟨h1, h⟩ := He.ba h
  obtain ⟨h2, h3⟩ := He.ba h
  exact ⟨isGetS_ok h1, rec_ok h2, h3⟩
theorem clm_ok {K : Fg} {x m : Str} (h : bClm x m K = true) : ClX.CMet K (He.ga K x) (.type "type") m (He.ma K (He.ga K x) m) (aRec x m "classmethod" K) := by
  obtain ⟨h1, h⟩ := He.ba h
  obtain ⟨h2, h3⟩ := He.ba h
  exact ⟨isGetS_ok h1, rec_ok h2, h3⟩
theorem callO_ok {K : Fg} {x : Str} (h : bCallO x K = true) : StX.CallO K (He.ga K x) (aMet x "__call__" K) := by
  obtain ⟨h1, h⟩ := He.ba h
  obtain ⟨h2, h3⟩ := He.ba h
  exact ⟨of_decide_eq_true h1, h2, h3⟩
/-- what the walk leans on -/
structure Tx (ex : List (Fg → Bool)) (fn : List DefP) (K : Fg) (mg : Str → Option Value) : Prop where
  says : SaysP ex fn K
  glo : ∀ x, bGlo x K = true → mg x = some (.ref (He.ga K x))
  free : ∀ x, bFree x K = true → mg x = none
  int : ∀ x i, bInt x i K = true → ∃ t, mg x = some (.int i t)
  str : ∀ x z, bStr x z K = true → ∃ t, mg x = some (.str z t)
end PL
set_option Elab.async false
set_option linter.all false
set_option maxRecDepth 100000
set_option maxHeartbeats 4000000
namespace PL
open PySem PySem.Spec
open PyProof.Rows hiding St
open L2
/-! ### a property, by a positional promise of its getter -/
section
variable {X : Cx} {k : Nat} {C p g : Addr} {sp : Sp} {e : Expr} {f : Str} {pos : Pos} {ta : TE}
theorem getprop_R {pins : List (Addr × Obj)} {σ : L2.St} {H : Hp} {s : Shared} {Q : VK} {b : Bool} {E' : Value → Shared → Prop} {a dx : Addr} {fs : List (Str × V)} (I : Inv X pins σ H s) (ea : H a = some (.ins C dx fs)) (c : Cls X.K C) (hp : PropOf X.K C f p g)
    (F : FnR X.prog X.w X.K X.mg X.base CX0 k g sp) (hr : Room (k + 1) X.A) (h : sp [.ref a] H Q E0) : wpAny (model X.prog X.w) X.A (getAttr (.ref a) f b) (EP X pins σ Q) E' s := by
  obtain ⟨mA, O, _, _, _, _⟩ := ins_get I.hok ea
  obtain ⟨od, J, _⟩ := O.look
  obtain ⟨rest, hrec⟩ := hp.rec_
  have I1 := I.tok (s.toks + 1)
  have hc : (PySem.W.clsIn X.K C).isSome = true := by
    obtain ⟨cd, hc, _⟩ := PySem.W.any_some c.hd
    rw [hc]
    rfl
  refine PySem.W.get_bind I.kIn J (PySem.W.plainGet_of (c.get f)).1 (PySem.W.findObj_data hc hp.at_ hp.get hp.tak) (PySem.W.plainGet_of (c.get f)).2 (wpAny_call (PySem.W.prop_get (s := { s with toks := s.toks + 1 }) I.kIn hrec ?_))
  refine codeAny_mono (F X.A.in1 X.stack { s with toks := s.toks + 1 } H [.ref a] [.ref a] Q E0 hr.in1 I1.env0.in1 (.cons rfl .nil) h) fun r s' hq => ?_
  cases r with
  | error er => exact hq.elim
  | ok fl =>
    cases fl with
    | ret u =>
      obtain ⟨v, H', I3, rv, q3⟩ := I1.after hq
      show wpAny _ _ (handedOut u) _ _ _
      rw [PySem.W.handedOut_of (handed_of rv)]
      exact wpAny_pure ⟨v, H', I3, rv, q3⟩
    | next => exact False.elim hq
    | brk => exact False.elim hq
    | cont => exact False.elim hq
theorem pe_propR (he : PE X e ta) (c : Cls X.K C) (hp : PropOf X.K C f p g) (F : FnR X.prog X.w X.K X.mg X.base CX0 k g sp) (hr : Room (k + 1) X.A) (hab : attributeBase e f X.env (eval e X.env) = eval e X.env) :
    PE X (.Attribute e f pos) (fun σ H Q => ta σ H fun x H1 => ∃ a dx fs, x = .ref a ∧ H1 a = some (.ins C dx fs) ∧ sp [.ref a] H1 Q E0) := by
  refine ⟨fun pins s σ H Q I h => ?_⟩
  refine attr_of hab (thn (he.run pins s σ H _ I h) fun u s1 ⟨x, H1, I1, rx, a, dx, fs, ex, ea, q⟩ => ?_)
  subst ex
  obtain rfl : u = Value.ref a := rx
  exact getprop_R I1 ea c hp F hr q
end
section
variable {X : Cx} {Γ : List Cell} {α β γ δ : Type} {s : Sh α} {t : Sh β} {u : Sh γ} {P : α → Prop} {R : β → Prop} {e e1 e2 : Expr} {es : List Expr} {pos p : Pos} {a : α} {b : β} {C : Addr} {k : Nat}
theorem x_prop {f : Str} {pp g : Addr} {pre : α × Unit → Prop} {F1 : α × Unit → β} [Mo s] (hi : InsS C s) (c : Cls X.K C) (hp : PropOf X.K C f pp g) (F : FnR X.prog X.w X.K X.mg X.base CX0 k g (spD (aC s aN) pre t F1)) (hr : Room (k + 1) X.A) (h : XE X e Γ s (· = a)) (ha : pre (a, ()))
    (hab : attributeBase e f X.env (eval e X.env) = eval e X.env := by rfl) : XE X (.Attribute e f pos) Γ t (· = F1 (a, ())) :=
  weakE (pe_propR h c hp F hr hab) fun σ H Q ⟨E, q⟩ => ⟨E, fun a' v H1 pa sm sv => by
    subst pa
    obtain ⟨p', dx, fs, rfl, hh⟩ := hi _ _ _ sv
    exact ⟨p', dx, fs, rfl, hh, (a', ()), ⟨_, _, rfl, sv, rfl⟩, ha, fun r v H' pr s2 sr => q r v H' pr (sm.trans s2) sr⟩⟩
/-! ### or, by truth, of whole numbers -/
theorem x_orI {i j : Int} {rest : List Expr} (h1 : XE X e1 Γ sInt (· = i)) (h2 : i = 0 → XE X (.BoolOp .Or (e2 :: rest) pos) Γ sInt (· = j)) : XE X (.BoolOp .Or (e1 :: e2 :: rest) pos) Γ sInt (· = if i = 0 then j else i) :=
  weakE (pe_orT h1 (condE h2)) fun σ H Q ⟨E, q⟩ => ⟨E, fun a v H1 pa sm sv => by
    subst pa
    cases sv
    refine ⟨a != 0, rfl, ?_⟩
    by_cases z : a = 0
    · subst z
      rw [if_neg (by decide)]
      exact ⟨rfl, E.up sm, fun c w H2 pc s2 sc => q c w H2 (by rw [if_pos rfl]; exact pc) (sm.trans s2) sc⟩
    · rw [if_pos (by simpa using z)]
      exact q a _ H1 (by rw [if_neg z]) sm rfl⟩
/-! ### isinstance -/
def TyS (K : Fg) {α : Type} (s : Sh α) (t : Value) : Prop := ∀ (H : Hp) (v : V) (a : α), s H v a → TyX K H v t
theorem tyS_int {K : Fg} : TyS K sInt (.type "int") := fun H v a h => by cases h; exact .base (.int _)
theorem tyS_str {K : Fg} : TyS K sStr (.type "str") := fun H v a h => by cases h; exact .base (.str _)
theorem tyS_ins {K : Fg} {C : Addr} (c : ClsX K C) (hi : InsS C s) : TyS K s (.ref C) := fun H v a h => by
  obtain ⟨p, dx, fs, rfl, hh⟩ := hi H v a h
  exact .base (.ins hh c.cl c.ca c.cn c.ct c.cm)
def sTy (T : String) : Sh Unit := fun _ v _ => v = .ty T
def sCl (C : Addr) : Sh Unit := fun _ v _ => v = .ref C
instance {T : String} : Mo (sTy T) := ⟨fun _ h => h⟩
instance {C : Addr} : Mo (sCl C) := ⟨fun _ h => h⟩
theorem x_ty {x : Str} {T : String} (hm : X.mg x = none) (hv : bootBuiltins x = some (.type T) := by rfl) (hg : Gl X x := by rfl) (hn : x ≠ "__name__" := by decide) (hd : (x == ("__debug__" : Str)) = false := by decide) : XE X (.Name x pos) Γ (sTy T) (· = ()) :=
  weakE (pe_bltn (v := .ty T) hg hm hv rfl hn hd) fun σ H Q ⟨E, q⟩ => q () _ H rfl (Same.refl H) rfl
theorem x_cl {x : Str} {C : Addr} (hm : X.mg x = some (.ref C)) (hg : Gl X x := by rfl) (hd : (x == ("__debug__" : Str)) = false := by decide) : XE X (.Name x pos) Γ (sCl C) (· = ()) :=
  weakE (pe_glob (v := .ref C) hg hm rfl hd) fun σ H Q ⟨E, q⟩ => q () _ H rfl (Same.refl H) rfl
theorem x_gint {x : Str} {i : Int} {t : Tok} (hm : X.mg x = some (.int i t)) (hg : Gl X x := by rfl) (hd : (x == ("__debug__" : Str)) = false := by decide) : XE X (.Name x pos) Γ sInt (· = i) :=
  weakE (pe_glob (v := .int i) hg hm ⟨t, rfl⟩ hd) fun σ H Q ⟨E, q⟩ => q _ _ H rfl (Same.refl H) rfl
theorem co_isiT {K : Fg} {T : String} {w : Value} {r : Bool} (ht : TyS K s w) (hk : PySem.W.kitOne K w (.type T) = some r) : CallOp (rIsi K) (aC s (aC (sTy T) aN)) sBl (fun _ => True) (fun _ c => c = r) := fun H xs a Q ⟨v, w1, e, h1, v2, w2, e2, h2, h3⟩ _ q => by
  cases h3
  cases h2
  subst e e2
  exact ⟨v, _, w, _, r, rfl, .ty T, ht _ _ _ h1, hk, q _ _ H rfl (Same.refl H) rfl⟩
theorem co_isiC {K : Fg} {C : Addr} {w : Value} {r : Bool} (ht : TyS K s w) (hk : PySem.W.kitOne K w (.ref C) = some r) : CallOp (rIsi K) (aC s (aC (sCl C) aN)) sBl (fun _ => True) (fun _ c => c = r) := fun H xs a Q ⟨v, w1, e, h1, v2, w2, e2, h2, h3⟩ _ q => by
  cases h3
  cases h2
  subst e e2
  exact ⟨v, _, w, _, r, rfl, .own C, ht _ _ _ h1, hk, q _ _ H rfl (Same.refl H) rfl⟩
/-! ### making an instance -/
def AwayFrom (x dx : Addr) (H H' : Hp) : Prop := ∀ y o, y ≠ x → y ≠ dx → H y = some o → H' y = some o
/-- a promise of __init__: what it lays -/
def spI (C : Addr) {α ρ : Type} (sa : ShA α) (pre : α → Prop) (sr : Sh ρ) (post : α → ρ → Prop) : Sp := fun vs H Q _ => ∃ x dx ws a, vs = V.ref x :: ws ∧ H x = some (.ins C dx []) ∧ H dx = some (.own x) ∧ dx ≠ x ∧ sa (hide (hide H x) dx) ws a ∧ pre a ∧
  ∀ r H', post a r → AwayFrom x dx H H' → sr H' (.ref x) r → Q .non H'
theorem make_sp {C : Addr} {sa : ShA β} [MoA sa] {pre : β → Prop} {sr : Sh γ} {post : β → γ → Prop} {vs : List V} {H : Hp} {Q : VK} {b : β} (sv : sa H vs b) (hp : pre b) (q : ∀ r v H', post b r → Same H H' → sr H' v r → Q v H') (x dx : Addr) (h1 : H x = none) (h2 : H dx = none) (h3 : dx ≠ x) :
    spI C sa pre sr post (V.ref x :: vs) (upd (upd H dx (.own x)) x (.ins C dx [])) (fun v H2 => v = .non ∧ Q (.ref x) H2) E0 := by
  have away : ∀ y o, H y = some o → y ≠ x ∧ y ≠ dx := fun y o hy => ⟨fun z => (by rw [z, h1] at hy; cases hy), fun z => (by rw [z, h2] at hy; cases hy)⟩
  have hs : Same H (hide (hide (upd (upd H dx (.own x)) x (.ins C dx [])) x) dx) := fun y o hy => by
    obtain ⟨n1, n2⟩ := away y o hy
    rw [hide_ne n2, hide_ne n1, upd_ne n1, upd_ne n2]
    exact hy
  refine ⟨x, dx, vs, b, rfl, upd_same, by rw [upd_ne h3, upd_same], h3, MoA.up hs sv, hp, fun r H' pr aw sr => ⟨rfl, q r _ H' pr (fun y o hy => ?_) sr⟩⟩
  obtain ⟨n1, n2⟩ := away y o hy
  exact aw y o n1 n2 (by rw [upd_ne n1, upd_ne n2]; exact hy)
theorem x_makeG {sa : ShA β} [MoA sa] {pre : β → Prop} {sr : Sh γ} {post : β → γ → Prop} {f : Addr} {x : Str} {Pa : β → Prop} (M : Mk X.K C f) (F : FnR X.prog X.w X.K X.mg X.base CX0 k f (spI C sa pre sr post)) (hr : Room (k + 1) X.A) (hm : X.mg x = some (.ref C)) (h : XA X (e :: es) Γ sa Pa) (hp : ∀ a, Pa a → pre a)
    (hg : Gl X x := by rfl) (hdb : (x == ("__debug__" : Str)) = false := by decide) (he : starEach (e :: es) X.env = (false, eval e X.env) :: starEach es X.env := by rfl) (hpl : (backTo pos (starEach es X.env)).any (·.1) = false := by rfl) :
    XE X (.Call (.Name x p) (e :: es) [] pos) Γ sr (fun r => ∃ a, Pa a ∧ post a r) :=
  weakE (StX.pe_makeR M F hr hg hm (fun _ _ _ _ _ _ _ z => z.elim) h hdb he hpl) fun σ H Q ⟨E, q⟩ => ⟨E, fun a vs H1 pa sm sv x dx h1 h2 h3 => make_sp sv (hp a pa) (fun r v H' pr s2 sr => q r v H' ⟨a, pa, pr⟩ (sm.trans s2) sr) x dx h1 h2 h3⟩
theorem x_make {sa : ShA β} [MoA sa] {pre : β → Prop} {sr : Sh γ} {F1 : β → γ} {f : Addr} {x : Str} (M : Mk X.K C f) (F : FnR X.prog X.w X.K X.mg X.base CX0 k f (spI C sa pre sr (fun a r => r = F1 a))) (hr : Room (k + 1) X.A) (hm : X.mg x = some (.ref C)) (h : XA X (e :: es) Γ sa (· = b)) (hp : pre b)
    (hg : Gl X x := by rfl) (hdb : (x == ("__debug__" : Str)) = false := by decide) (he : starEach (e :: es) X.env = (false, eval e X.env) :: starEach es X.env := by rfl) (hpl : (backTo pos (starEach es X.env)).any (·.1) = false := by rfl) :
    XE X (.Call (.Name x p) (e :: es) [] pos) Γ sr (· = F1 b) := xe_imp (x_makeG M F hr hm h (fun a z => by subst z; exact hp) hg hdb he hpl) fun r ⟨a, z, q⟩ => by subst z; exact q
/-- C(*xs), xs a list or a tuple -/
theorem pe_makeS {f : Addr} {sp : Sp} {x : Str} {te : TE} {sp_ : Pos} (M : Mk X.K C f) (F : FnR X.prog X.w X.K X.mg X.base CX0 k f sp) (hr : Room (k + 1) X.A) (hg : Gl X x) (hm : X.mg x = some (.ref C)) (he : PE X e te) (hd : (x == ("__debug__" : Str)) = false := by decide)
    (hst : starEach [.Starred e sp_] X.env = [(true, eval e X.env)] := by rfl) :
    PE X (.Call (.Name x p) [.Starred e sp_] [] pos) (fun σ H Q => te σ H fun y H1 => ∃ a xs, y = V.ref a ∧ (SqT X.K H1 a xs ∨ SqL X.K H1 a xs) ∧ ∀ x dx, H1 x = Option.none → H1 dx = Option.none → dx ≠ x →
      sp (V.ref x :: xs) (upd (upd H1 dx (.own x)) x (.ins C dx [])) (fun v H2 => v = .non ∧ Q (.ref x) H2) E0) := by
  refine ⟨fun pins s σ H Q I h => ?_⟩
  refine wpAny_Call_Name_kw (ld_glob I hg hm ?_ hd)
  refine PySem.W.callWith_S (h₀ := X.base) I.ok.mod.kin M.kp (thn (he.run pins s σ H _ I h) fun v s1 ⟨y, H1, I1, ry, a, xs, ey, hxs, q⟩ => ?_) hst
  subst ey
  obtain rfl : v = Value.ref a := ry
  exact StX.star_any I1 hxs fun us s2 I2 rv => ⟨I2.kIn, StX.run_makeR M F hr (fun _ _ _ _ _ _ _ z => z.elim) I2 rv q⟩
theorem x_makeSU {pre : List α → Prop} {sr : Sh γ} {post : List α → γ → Prop} {f : Addr} {x : Str} {Pa : List α → Prop} {sp_ : Pos} [Mo s] (M : Mk X.K C f) (F : FnR X.prog X.w X.K X.mg X.base CX0 k f (spI C (aS s) pre sr post)) (hr : Room (k + 1) X.A) (hm : X.mg x = some (.ref C)) (h : XE X e Γ (sU X.K s) Pa) (hp : ∀ a, Pa a → pre a)
    (hg : Gl X x := by rfl) (hdb : (x == ("__debug__" : Str)) = false := by decide) (hst : starEach [.Starred e sp_] X.env = [(true, eval e X.env)] := by rfl) :
    XE X (.Call (.Name x p) [.Starred e sp_] [] pos) Γ sr (fun r => ∃ a, Pa a ∧ post a r) :=
  weakE (pe_makeS M F hr hg hm h hdb hst) fun σ H Q ⟨E, q⟩ => ⟨E, fun a v H1 pa sm ⟨p, xs, e1, h1, h2⟩ => ⟨p, xs, e1, .inl h1, fun x dx g1 g2 g3 => make_sp (sa := aS s) h2 (hp a pa) (fun r v H' pr s2 sr => q r v H' ⟨a, pa, pr⟩ (sm.trans s2) sr) x dx g1 g2 g3⟩⟩
/-! ### calling an instance -/
theorem x_callO {g : Addr} {sa : ShA β} {pre : α × β → Prop} {sr : Sh γ} {F1 : α × β → γ} [Mo s] (hi : InsS C s) (c : StX.CallO X.K C g) (F : FnR X.prog X.w X.K X.mg X.base CX0 k g (spD (aC s sa) pre sr F1)) (hr : Room k X.A) (hf : XE X e1 Γ s (· = a)) (h : XA X (e :: es) Γ sa (· = b)) (hp : pre (a, b))
    (ht : eval (.Call e1 (e :: es) [] pos) X.env = (do callWith pos (← eval e1 X.env) [] (backTo pos (starEach (e :: es) X.env)) (backToKw pos (keywordEach [] X.env))) := by rfl)
    (he : starEach (e :: es) X.env = (false, eval e X.env) :: starEach es X.env := by rfl) (hpl : (backTo pos (starEach es X.env)).any (·.1) = false := by rfl) : XE X (.Call e1 (e :: es) [] pos) Γ sr (· = F1 (a, b)) :=
  weakE (StX.pe_callO (E := E0) hf c F hr (fun _ _ _ _ _ _ _ z => z.elim) h ht he hpl) fun σ H Q ⟨E, q⟩ => ⟨E, fun a' v H1 pa sm sv => by
    obtain rfl : a' = a := pa
    obtain ⟨p', dx, fs, rfl, hh⟩ := hi _ _ _ sv
    refine ⟨p', rfl, E.up sm, fun b' vs H2 pb s2 sb => ?_⟩
    obtain rfl : b' = b := pb
    exact ⟨.inr ⟨dx, fs, s2 _ _ hh⟩, (a', b'), ⟨_, _, rfl, Mo.up s2 sv, sb⟩, hp, fun r v H' pr s3 sr => q r v H' pr ((sm.trans s2).trans s3) sr⟩⟩
/-! ### methods -/
theorem x_smeth {m : Str} {pp g : Addr} {mc : Value} {apos : Pos} {pl : Sem Bool} {x : Str} {sa : ShA β} {pre : β → Prop} {sr : Sh γ} {F1 : β → γ} (r : ClX.CRead X.K C mc) (c : SMet X.K C mc m pp g) (F : FnR X.prog X.w X.K X.mg X.base CX0 k g (spD sa pre sr F1)) (hr : Room k X.A) (hm : X.mg x = some (.ref C)) (h : XA X (e :: es) Γ sa (· = b)) (hp : pre b)
    (hg : Gl X x := by rfl) (hdb : (x == ("__debug__" : Str)) = false := by decide)
    (hst : starEach (e :: es) X.env = (false, eval e X.env) :: starEach es X.env := by rfl) (hpl : (backTo pos (starEach es X.env)).any (·.1) = false := by rfl)
    (ht : eval (.Call (.Attribute (.Name x p) m apos) (e :: es) [] pos) X.env = (do
      let ov ← eval (.Name x p) X.env
      standAt apos.atName
      let (f, first) ← holding [ov] (getMethod ov m pl)
      callWith pos f first (backTo pos (starEach (e :: es) X.env)) (backToKw pos (keywordEach [] X.env))) := by rfl) :
    XE X (.Call (.Attribute (.Name x p) m apos) (e :: es) [] pos) Γ sr (· = F1 b) :=
  weakE (pe_smeth (x_cl (Γ := Γ) hm hg hdb) r c F hr h hst hpl ht) fun σ H Q ⟨E, q⟩ => ⟨E, fun _ v H1 _ sm sv => ⟨sv, E.up sm, fun b' vs H2 pb s2 sb => by
    subst pb
    exact ⟨_, sb, hp, fun r v H' pr s3 sr => q r v H' pr ((sm.trans s2).trans s3) sr⟩⟩⟩
end
end PL
set_option Elab.async false
set_option linter.all false
set_option maxRecDepth 100000
set_option maxHeartbeats 4000000
namespace PL
open PySem PySem.Spec
open PyProof.Rows hiding St
open L2
/-! ### more facts of the text: constants of classes, tuples and texts of the module, methods of a class above -/
theorem strsB_ok : ∀ (vs : List Value) (zs : List Str), strsB vs zs = true → Vals (zs.map V.str) vs := by
  intro vs
  induction vs with
  | nil =>
    intro zs h
    cases zs with
    | nil => exact .nil
    | cons z zs => cases h
  | cons v vs ih =>
    intro zs h
    cases zs with
    | nil => cases v <;> cases h
    | cons z zs =>
      cases v with
      | str y t =>
        obtain ⟨h1, h2⟩ := He.ba (show (decide (y = z) && strsB vs zs) = true from h)
        have e := of_decide_eq_true h1
        subst e
        exact .cons ⟨t, rfl⟩ (ih zs h2)
      | _ => cases h
theorem paired_strs {H : Hp} : ∀ (zs : List Str), Paired (sStr H) (zs.map V.str) zs
  | [] => .nil
  | _ :: zs => .cons rfl (paired_strs zs)
structure GTup (K : Fg) (x : Str) (zs : List Str) : Prop where
  glo : bGlo x K = true
  at_ : ∀ H : Hp, SqT K H (He.ga K x) (zs.map V.str)
theorem gtup_ok {K : Fg} {x : Str} {zs : List Str} (h : bTup x zs K = true) : GTup K x zs := by
  obtain ⟨h1, h2⟩ := He.ba h
  refine ⟨h1, fun H => ?_⟩
  cases q : K.lookup (He.ga K x) with
  | none =>
    rw [q] at h2
    cases h2
  | some o =>
    obtain ⟨c, d, dt, sl⟩ := o
    rw [q] at h2
    cases dt with
    | seq its n =>
      obtain ⟨g1, g2⟩ := He.ba (show (decide (c = .type "tuple") && (decide (its.size ≤ 1000) && strsB its.toList zs)) = true from h2)
      obtain ⟨g3, g4⟩ := He.ba g2
      exact .inr ⟨_, its, n, q, of_decide_eq_true g1, rfl, Nat.le_trans (of_decide_eq_true g3) (by decide), strsB_ok _ _ g4⟩
    | _ => cases h2
theorem con_ok {K : Fg} {C f z : Str} (h : bCon C f z K = true) : ∃ u, Con K (He.ga K C) f (.str z) u := by
  unfold bCon at h
  split at h
  · rename_i y t e
    obtain ⟨h1, h2⟩ := He.ba h
    obtain ⟨h3, h4⟩ := He.ba h2
    have e1 := of_decide_eq_true h1
    subst e1
    exact ⟨_, e, ⟨t, rfl⟩, of_decide_eq_true h3, by simpa using h4⟩
  · cases h
section
variable {X : Cx} {Γ : List Cell} {pos : Pos} {x : Str}
theorem x_gtup {zs : List Str} (hm : X.mg x = some (.ref (He.ga X.K x))) (h : GTup X.K x zs) (hg : Gl X x := by rfl) (hd : (x == ("__debug__" : Str)) = false := by decide) : XE X (.Name x pos) Γ (sU X.K sStr) (· = zs) := by
  exact weakE (t := fun σ H Q => Q (.ref (He.ga X.K x)) H) ⟨fun pins s σ H Q I q => ld_glob I hg hm ⟨.ref _, H, I, rfl, q⟩ hd⟩ fun σ H Q ⟨E, q⟩ => q zs _ H rfl (Same.refl H) ⟨_, _, rfl, h.at_ H, paired_strs zs⟩
theorem x_gstr {z : Str} {t : Tok} (hm : X.mg x = some (.str z t)) (hg : Gl X x := by rfl) (hd : (x == ("__debug__" : Str)) = false := by decide) : XE X (.Name x pos) Γ sStr (· = z) :=
  weakE (t := fun σ H Q => Q (.str z) H) ⟨fun pins s σ H Q I q => ld_glob I hg hm ⟨.str z, H, I, ⟨t, rfl⟩, q⟩ hd⟩ fun σ H Q ⟨E, q⟩ => q z _ H rfl (Same.refl H) rfl
end
end PL
set_option Elab.async false
set_option linter.all false
set_option maxRecDepth 100000
set_option maxHeartbeats 4000000
namespace PL
open PySem PySem.Spec
open PyProof.Rows hiding St
open L2
end PL
set_option Elab.async false
set_option linter.all false
set_option maxRecDepth 100000
set_option maxHeartbeats 4000000
namespace PL
open PySem PySem.Spec
open PyProof.Rows hiding St
open L2
/-! ### enumerate(tuple) -/
theorem meets_enum1 {v : Value} {o : Obj} {H : Heap → Prop} (B : Begins v o H) :
    Meets (Builtin.«enumerate.__new__» ⟨[.type "enumerate", v], []⟩) (fun _ R s => H s.heap ∧
      R (.ok (.ret (.ref (s.heap.push o).objs.size))) { s with heap := (s.heap.push o).push { cls := .type "enumerate", data := .fields #[.none, .bool false, .ref s.heap.objs.size, rawInt 0, .none, .none] } }) :=
  .of_wp fun prog w A R s h => by
    obtain ⟨hp, g, d, tk, os⟩ := s
    obtain ⟨h1, h⟩ := h
    have hsub := sub_enumerate
    have q1 : ∀ {A' : Around} {E : Value → Shared → Prop} {Q : Value → Shared → Prop}, Q (.ref hp.objs.size) ⟨hp.push o, g, d, tk, os⟩ → wpAny (model prog w) A' (pyIter v) Q E ⟨hp, g, d, tk, os⟩ :=
      fun q => B.iter prog w _ _ ⟨hp, g, d, tk, os⟩ _ h1 q
    wp_walk using q1
    refine wpAny_stack_any fun st => wpAny_pure ?_
    split
    · rename_i c _ _ _ _ _
      cases (c == Value.type "enumerate")
      · wp_walk using q1
        exact ⟨_, rfl, h⟩
      · wp_walk using q1
        exact ⟨_, rfl, h⟩
    · wp_walk using q1
      exact ⟨_, rfl, h⟩
section
variable {prog : Program} {w : World} {A : Around} {E : Value → Shared → Prop} {s : Shared}
theorem call_enum1 {v : Value} {o : Obj} {H : Heap → Prop} {Q : Value → Shared → Prop} (B : Begins v o H) (h1 : H s.heap)
    (h : ∀ h', IsEnum h' (s.heap.objs.size + 1) s.heap.objs.size 0 .none → h'.get? s.heap.objs.size = some o → h'.objs.size = s.heap.objs.size + 2 →
      (∀ b o, s.heap.get? b = some o → h'.get? b = some o) → Q (.ref (s.heap.objs.size + 1)) { s with heap := h' }) :
    wpAny (model prog w) A (call (.type "enumerate") [v]) Q E s := by
  refine callType_new F.called_enumerate (by decide) (F.typeCall_enumerate_1 _) (F.newCall_enumerate_1 _) (fun obj => F.args_object_init_2 obj _) F.entry_enumerate_new (meets_enum1 B) ⟨h1, ?_⟩
  have hz : (s.heap.push o).objs.size = s.heap.objs.size + 1 := Heap.size_push ..
  show _ ∧ _
  rw [hz]
  have he : IsEnum ((s.heap.push o).push { cls := .type "enumerate", data := .fields #[.none, .bool false, .ref s.heap.objs.size, rawInt 0, .none, .none] }) (s.heap.objs.size + 1) s.heap.objs.size 0 .none := by
    have := Heap.get?_push_size (s.heap.push o) (o := { cls := .type "enumerate", data := .fields #[.none, .bool false, .ref s.heap.objs.size, rawInt 0, .none, .none] }) rfl
    rw [hz] at this
    exact this
  exact ⟨⟨_, he, rfl⟩, h _ he (Heap.get?_push_of_some _ (Heap.get?_push_size _ B.free)) (by rw [Heap.size_push, hz]) fun b o x => Heap.get?_push_of_some _ (Heap.get?_push_of_some _ x)⟩
end
def IteT (K : PySem.W.Frag) (a : Addr) : It :=
  ⟨fun i H => ∃ (xs : List V) (x : V), SqT K H a xs ∧ xs[i]? = some x, fun i H v H' => ∃ T x, v = .ref T ∧ H T = none ∧ H' = upd H T (.tup [.int (i : Nat), x]) ∧ ∀ xs, SqT K H a xs → xs[i]? = some x, fun i H => ∃ xs : List V, SqT K H a xs ∧ xs.length ≤ i⟩
theorem turn_enumT {P : Program} {w : World} {K : PySem.W.Frag} {elts : List Expr} {kk : Nat} {tpos : Pos} (a e it : Addr) (hai : a ≠ it) (hae : a ≠ e) :
    Turn P w K (.Tuple elts kk tpos) (IteT K a) [e, it] e (fun i h => (∃ old, IsEnum h e it ((i : Nat) : Int) old) ∧ h.IsTupleIter it a i ∧ e ≠ it) where
  mem := by simp
  obj := fun i h st b hb => by
    obtain ⟨⟨old, he⟩, ⟨o, ho, hc, hd⟩, _⟩ := st
    have e' : b = e ∨ b = it := by simpa using hb
    rcases e' with z | z
    · rw [z]; exact ⟨_, he, fun v q => nomatch q⟩
    · rw [z]; exact ⟨o, ho, fun v q => by rw [hd] at q; cases q⟩
  keep := fun i h h' st k => let ⟨⟨old, he⟩, hi, hne⟩ := st; ⟨⟨old, k e (by simp) _ he⟩, hi.at fun o q => k it (by simp) o q, hne⟩
  item := by
    intro X hP hw hK hc i pins s σ H E I hf st hg
    subst hP hw hK
    obtain ⟨⟨old, he⟩, hit, hne⟩ := st
    obtain ⟨xs, x, hq, hx⟩ := hg
    obtain ⟨its, rv, p, hz⟩ := I.tuple hq
    obtain ⟨u, hu, ru⟩ := rv.get hx
    have hel : e < s.heap.objs.size := Heap.lt_size he
    have hil : it < s.heap.objs.size := by obtain ⟨_, q, _⟩ := hit; exact Heap.lt_size q
    have hlt : i < its.toArray.size := by
      obtain ⟨h1, _⟩ := List.getElem?_eq_some_iff.mp hu
      simpa using h1
    refine wpAny_pyNext_enum_itemD (A := _) (Draws.tuple (w := X.w) (prog := X.prog) (show X.A.in1.handled = none from I.ok.hd hc) it a hai its.toArray) he ⟨hit, p⟩ hlt hne (by simp [hne, Ne.symm hae]) fun y h' tk hy ho hst' hT hsz hk => ?_
    have hyu : y = u := by
      have e1 : its.toArray[i]? = some u := by simpa using hu
      exact Option.some.inj (hy.symm.trans e1)
    subst hyu
    refine ⟨_, rfl, wpAny_letOwnedTupleGo_enum (s := { s with heap := h', toks := tk + 1 }) ho fun h'' he' sb => ?_⟩
    have hT2 : h''.get? s.heap.objs.size = some { cls := .type "tuple", data := .seq #[.int i tk, y] } := (sb.2 _ (Nat.ne_of_gt hel)).trans hT
    have new : ObjOk X.prog X.w (upd H s.heap.objs.size (.tup [.int (i : Nat), x])) h'' s.heap.objs.size (.tup [.int (i : Nat), x]) :=
      ⟨by show 2 ≤ sizeLine; decide, [.int i tk, y], .cons ⟨_, rfl⟩ (.cons ru .nil), ⟨_, hT2, rfl, _, rfl⟩⟩
    have I1 : Inv X pins σ (upd H s.heap.objs.size (.tup [.int (i : Nat), x])) { s with heap := h'', toks := tk + 1 } :=
      I.turnedNew (ch := [e, it]) (fun b ob hb q => (sb.2 b (fun z => hb (by simp [z]))).trans (hk b ob (fun z => hb (by simp [z])) (fun z => hb (by simp [z])) q)) hf (Nat.le_refl _) new
    refine ⟨.ref s.heap.objs.size, _, I1, rfl, ⟨_, x, rfl, I.hok.fresh (Nat.le_refl _), rfl, fun ys hy => by rw [I.tuple_inj hy hq]; exact hx⟩, ⟨⟨y, ?_⟩, hst'.1.at fun o q => (sb.2 it (Ne.symm hne)).trans q, hne⟩, fun b hb => ?_⟩
    · have e1 : ((i + 1 : Nat) : Int) = (i : Int) + 1 := by omega
      rw [e1]; exact he'
    · have hb' : b < s.heap.objs.size := by
        have e' : b = e ∨ b = it := by simpa using hb
        rcases e' with z | z
        · rw [z]; exact hel
        · rw [z]; exact hil
      rw [upd_ne (Nat.ne_of_lt hb')]
      exact (hf b hb).1
  done := by
    intro X hP hw hK hc i pins s σ H E I hf st hg
    subst hP hw hK
    obtain ⟨⟨old, he⟩, hit, hne⟩ := st
    obtain ⟨xs, hq, hx⟩ := hg
    obtain ⟨its, rv, p, hz⟩ := I.tuple hq
    obtain ⟨f0, f1, f2, f3, f4, f5⟩ := hf it (by simp)
    have hl := rv.length
    have hT : s.TypeIs (.ref e) "enumerate" := ⟨_, he, rfl⟩
    unfold pyNext
    refine wpAny_bind (wpAny_attempt (wpAny_callSpecial?_slot (name := Str.ofString "__next__") hT F.slot_enumerate_next
      (wpAny_call_entry F.slot_enumerate_next hT F.entry_enumerate_next ?_ (F.args_enumerate_next_1 _))))
    show wpAny _ _ (field (.ref e) 2 >>= _) _ _ _
    refine wpAny_bind (wpAny_field he rfl (x := .ref it) rfl ?_)
    refine wpAny_bind (wpAny_nextOf_tuple_end (show X.A.in1.handled = none from I.ok.hd hc) hit p (by simp; omega) fun h' x he' hx' => ?_)
    obtain ⟨o, ho, hcx⟩ := hx'
    refine wpAny_bind (wpAny_isInstance (T := "StopIteration") (b := true) ⟨o, ho, hcx⟩ isSubtype_stop ?_)
    exact wpAny_pure ⟨rfl, I.turned (t' := s.toks) (fun b o hb q => he' b o hb q) f0 f1 f3 f4 f5⟩
  self := fun A i s Q E st h => let ⟨⟨_, he⟩, _⟩ := st; wpAny_pyIter_enum he h
def iEnumT (K : PySem.W.Frag) (ta : TA) : TI := fun σ H R => ta σ H fun vs H1 => ∃ a xs, vs = [.ref a] ∧ SqT K H1 a xs ∧ R (IteT K a) H1
theorem pi_enumT {X : Cx} {e : Expr} {ta : TA} {p pos tpos : Pos} {elts : List Expr} {kk : Nat} (hg : Gl X "enumerate") (hm : X.mg "enumerate" = none) (ha : PA X [e] ta) (hs : starEach [e] X.env = [(false, eval e X.env)] := by rfl) :
    PI X (.Tuple elts kk tpos) (.Call (.Name "enumerate" p) [e] [] pos) (iEnumT X.K ta) := by
  refine ⟨fun pins s σ H R I h => ?_⟩
  refine Call_ (ld_blt I hg hm boot_enumerate (PyProof.Rows.callWith_type1 (thn (ha.run pos pins s σ H _ I h) fun us s1 ⟨vs, H1, I1, r1, q1⟩ => ?_) hs rfl))
  obtain ⟨a, xs, ex, hq, q⟩ := q1
  subst ex
  cases r1 with
  | cons r rr =>
    cases rr
    cases r
    obtain ⟨its, rv, p', hz⟩ := I1.tuple hq
    have hal : a < s1.heap.objs.size := by obtain ⟨_, q, _⟩ := p'; exact Heap.lt_size q
    refine call_enum1 (begins_tuple a its.toArray) p' fun h' he hit hsz hk => wpAny_pyIter_enum he ?_
    have I2 : Inv X pins σ H1 { s1 with heap := h' } := I1.kept (t' := s1.toks) hk
    refine ⟨s1.heap.objs.size + 1, [s1.heap.objs.size + 1, s1.heap.objs.size], _, _, H1, rfl, I2, turn_enumT a (s1.heap.objs.size + 1) s1.heap.objs.size (Nat.ne_of_lt hal) (Nat.ne_of_lt (Nat.lt_succ_of_lt hal)), ⟨⟨.none, he⟩, ⟨_, hit, rfl, rfl⟩, Nat.succ_ne_self _⟩, fun b hb => ?_, q⟩
    have e' : b = s1.heap.objs.size + 1 ∨ b = s1.heap.objs.size := by simpa using hb
    have hle : s1.heap.objs.size ≤ b := by
      rcases e' with z | z
      · rw [z]; exact Nat.le_add_right _ _
      · rw [z]; exact Nat.le_refl _
    exact I1.fpOk hle (I1.hok.fresh hle)
theorem enumL_at {α : Type} {as : List α} {i : Nat} {a : α} (h : as[i]? = some a) : (enumL as)[i]? = some ((i : Int), a) := by
  have hl : i < as.length := (List.getElem?_eq_some_iff.mp h).1
  unfold enumL
  refine zip_at ?_ h
  rw [List.getElem?_map, List.getElem?_range hl]
  rfl
theorem enumL_len {α : Type} {as : List α} : (enumL as).length = as.length := by
  unfold enumL
  rw [List.length_zip, List.length_map, List.length_range, Nat.min_self]
theorem walk_enumT {K : PySem.W.Frag} {a : Addr} {xs : List V} {n : Nat} (hn : n = xs.length) : Walk (IteT K a) n (fun H => SqT K H a xs) (YPair (fun i => some (.int (i : Nat))) (fun i => xs[i]?)) := by
  subst hn
  refine ⟨fun i _ hi q => ⟨xs, xs[i], q, by simp [hi]⟩, fun _ q => ⟨xs, q, Nat.le_refl _⟩, fun i H v H' _ q y => ?_⟩
  obtain ⟨T, x, h1, h2, h3, h4⟩ := y
  exact ⟨T, _, x, h1, h2, h3, rfl, h4 xs q⟩
section
variable {X : Cx} {Γ : List Cell} {α : Type} {s : Sh α} {P : List α → Prop} {e : Expr} {pos p : Pos} [Mo s] {elts : List Expr} {kk : Nat} {tpos : Pos}
theorem itok_enumT {K : PySem.W.Frag} {a : Addr} {xs : List V} {as : List α} {H : Hp} (h1 : SqT K H a xs) (p1 : Paired (s H) xs as) : ItOk (IteT K a) (sP K sInt s) (enumL as) H :=
  ⟨_, _, walk_enumT (xs := xs) (by rw [enumL_len, p1.length]), fun H' e => Same.sqt e h1, fun i H2 v H' e ⟨T, x, y, h3, h4, h5, h6, h7⟩ => by
    subst h3 h5
    cases h6
    have h7 : xs[i]? = some y := h7
    have l1 : i < as.length := by rw [← p1.length]; exact (List.getElem?_eq_some_iff.mp h7).1
    obtain ⟨x', q1, q2⟩ := Paired.at p1 (List.getElem?_eq_getElem l1)
    rw [h7] at q1
    cases q1
    have e2 := Same.new (o := HO.tup [.int (i : Nat), y]) h4
    exact ⟨e2, ((i : Int), as[i]), enumL_at (List.getElem?_eq_getElem l1), ⟨T, _, y, rfl, SqT.of upd_same, rfl, Mo.up (e.trans e2) q2⟩, fun D hD hn => by
      have hTD : T ≠ D := fun z => hn (by rw [← z]; exact h4)
      exact ⟨T, _, y, rfl, SqT.of (by rw [hide_ne hTD, upd_same]), rfl, Mo.up (same_to_hide (e.trans e2) hD) q2⟩⟩⟩
theorem xi_enumT (hm : X.mg "enumerate" = none) (h : XE X e Γ (sU X.K s) P) (hg : Gl X "enumerate" := by rfl) (hs : starEach [e] X.env = (false, eval e X.env) :: starEach [] X.env := by rfl) :
    XI X (.Tuple elts kk tpos) (.Call (.Name "enumerate" p) [e] [] pos) Γ (sP X.K sInt s) (fun zs => ∃ xs, P xs ∧ zs = enumL xs) := weakI (pi_enumT hg hm (pa_cons h pa_nil hs) hs) fun σ H Q ⟨E, q⟩ => ⟨E, fun as v H1 pa sm sv => by
  obtain ⟨a, xs, rfl, g2, g3⟩ := sv
  exact ⟨a, xs, rfl, g2, q _ H1 _ ⟨as, pa, rfl⟩ sm (itok_enumT g2 g3)⟩⟩
end
end PL
set_option Elab.async false
set_option linter.all false
set_option maxRecDepth 100000
set_option maxHeartbeats 4000000
namespace PL
open PySem PySem.Spec
open PyProof.Rows hiding St
open L2
/-! ### bodies of __init__: the new object at x, its fields so far as cells -/
inductive FsOk (B : Hp) : List (Str × V) → List (Str × Cell) → Prop where
  | nil : FsOk B [] []
  | cons {f : Str} {v : V} {c : Cell} {fs : List (Str × V)} {Φ : List (Str × Cell)} (h : CellOk B (some v) c) (t : FsOk B fs Φ) : FsOk B ((f, v) :: fs) ((f, c) :: Φ)
theorem FsOk.up {B B' : Hp} (e : Same B B') : ∀ {fs : List (Str × V)} {Φ : List (Str × Cell)}, FsOk B fs Φ → FsOk B' fs Φ
  | _, _, .nil => .nil
  | _, _, .cons h t => .cons (CellOk.up e h) (FsOk.up e t)
theorem FsOk.look {B : Hp} {f : Str} {c : Cell} : ∀ {fs : List (Str × V)} {Φ : List (Str × Cell)}, FsOk B fs Φ → Φ.lookup f = some c → ∃ v, fs.lookup f = some v ∧ CellOk B (some v) c
  | _, _, .nil, h => by cases h
  | _, _, @FsOk.cons _ g v c' _ _ r t, h => by
    rw [List.lookup_cons] at h ⊢
    split at h
    · cases h
      exact ⟨v, rfl, r⟩
    · exact FsOk.look t h
theorem FsOk.put {B : Hp} {f : Str} {v : V} {c : Cell} (hv : CellOk B (some v) c) : ∀ {fs : List (Str × V)} {Φ : List (Str × Cell)}, FsOk B fs Φ → Φ.lookup f = none → FsOk B (putF f v fs) (Φ ++ [(f, c)])
  | _, _, .nil, _ => .cons hv .nil
  | _, _, @FsOk.cons _ g w c' _ _ r t, h => by
    rw [List.lookup_cons] at h
    split at h
    · cases h
    · rename_i q
      have q : (f == g) = false := q
      have hne : ¬ g = f := fun z => by
        rw [z, beq_self_eq_true] at q
        cases q
      unfold putF
      rw [if_neg hne]
      exact .cons r (FsOk.put hv t h)
theorem FsOk.len {B : Hp} : ∀ {fs : List (Str × V)} {Φ : List (Str × Cell)}, FsOk B fs Φ → fs.length = Φ.length
  | _, _, .nil => rfl
  | _, _, .cons _ t => congrArg (· + 1) (FsOk.len t)
/-- the object while it is being made -/
def sPart (x C dx : Addr) (Φ : List (Str × Cell)) : Sh Unit := fun H v _ => v = .ref x ∧ dx ≠ x ∧ ∃ fs, H x = some (.ins C dx fs) ∧ FsOk H fs Φ
instance {x C dx : Addr} {Φ : List (Str × Cell)} : Mo (sPart x C dx Φ) := ⟨fun e ⟨h1, h2, fs, h3, h4⟩ => ⟨h1, h2, fs, e _ _ h3, FsOk.up e h4⟩⟩
/-- shapes in which no instance of C stands -/
def NcS (C : Addr) {α : Type} (t : Sh α) : Prop := ∀ (H : Hp) (x dx : Addr) (fs : List (Str × V)) (v : V) (a : α), H x = some (.ins C dx fs) → H dx = some (.own x) → t H v a → t (hide (hide H x) dx) v a
theorem ncs_int {C : Addr} : NcS C sInt := fun _ _ _ _ _ _ _ _ h => h
theorem ncs_sqt {K : Fg} {C : Addr} {H : Hp} {x dx p : Addr} {fs : List (Str × V)} {xs : List V} (h1 : H x = some (.ins C dx fs)) (h2 : H dx = some (.own x)) (h : SqT K H p xs) : SqT K (hide (hide H x) dx) p xs := by
  rcases h with h | h
  · refine .inl ?_
    have ne : ∀ u, H p = some u → (∀ C dx fs, u ≠ .ins C dx fs) → (∀ y, u ≠ .own y) → hide (hide H x) dx p = some u := fun u hu n1 n2 => by
      rw [hide_ne fun z => n2 x (by rw [z] at hu; exact Option.some.inj (hu.symm.trans h2)), hide_ne fun z => n1 C dx fs (by rw [z] at hu; exact Option.some.inj (hu.symm.trans h1))]
      exact hu
    rcases h with h | ⟨o, h⟩
    · exact .inl (ne _ h (fun _ _ _ z => nomatch z) fun _ z => nomatch z)
    · exact .inr ⟨o, ne _ h (fun _ _ _ z => nomatch z) fun _ z => nomatch z⟩
  · exact .inr h
theorem ncs_tup {K : Fg} {C : Addr} {α : Type} {s : Sh α} (hs : NcS C s) : NcS C (sU K s) := fun H x dx fs v a h1 h2 ⟨p, xs, e, q, g⟩ => ⟨p, xs, e, ncs_sqt h1 h2 q, Paired.mapP g fun _ _ => hs _ _ _ _ _ _ h1 h2⟩
structure IV (H0 : Hp) (x C dx : Addr) (Γ : List Cell) (Φ : List (Str × Cell)) (H : Hp) (σ : L2.St) : Prop where
  ne : dx ≠ x
  at_ : H dx = some (.own x)
  ex : ∃ fs, H x = some (.ins C dx fs) ∧ FsOk (hide (hide H x) dx) fs Φ
  base : Same H0 (hide (hide H x) dx)
  env : Env (hide (hide H x) dx) σ Γ
  self : σ[0]? = some (some (.ref x))
theorem hide2_same {H : Hp} {x dx : Addr} : Same (hide (hide H x) dx) H := hide_same.trans hide_same
theorem IV.full {H0 : Hp} {x C dx : Addr} {Γ : List Cell} {Φ : List (Str × Cell)} {H : Hp} {σ : L2.St} (I : IV H0 x C dx Γ Φ H σ) : Env H σ (Γ.set 0 (Ce (sPart x C dx Φ) ())) := by
  obtain ⟨fs, h1, h2⟩ := I.ex
  have e := (I.env.up hide2_same).set (i := 0) (s := sPart x C dx Φ) (a := ()) (m := inferInstance) (v := .ref x) ⟨rfl, I.ne, fs, h1, FsOk.up hide2_same h2⟩
  have e2 : σ.set 0 (some (.ref x)) = σ := by
    have hl : 0 < σ.length := (List.getElem?_eq_some_iff.mp I.self).1
    apply List.ext_getElem? 
    intro i
    by_cases z : 0 = i
    · subst z
      rw [List.getElem?_set_self hl, I.self]
    · rw [List.getElem?_set_ne z]
  rw [e2] at e
  exact e
theorem same_hide2 {H H1 : Hp} {x dx : Addr} (e : Same H H1) : Same (hide (hide H x) dx) (hide (hide H1 x) dx) := same_hide (same_hide e)
theorem IV.up {H0 : Hp} {x C dx : Addr} {Γ : List Cell} {Φ : List (Str × Cell)} {H H1 : Hp} {σ : L2.St} (I : IV H0 x C dx Γ Φ H σ) (e : Same H H1) : IV H0 x C dx Γ Φ H1 σ := by
  obtain ⟨fs, h1, h2⟩ := I.ex
  exact ⟨I.ne, e _ _ I.at_, ⟨fs, e _ _ h1, FsOk.up (same_hide2 e) h2⟩, I.base.trans (same_hide2 e), I.env.up (same_hide2 e), I.self⟩
theorem hide2_upd {H : Hp} {x dx : Addr} {o : HO} : hide (hide (upd H x o) x) dx = hide (hide H x) dx := by rw [hide_upd']
theorem IV.put {H0 : Hp} {x C dx : Addr} {Γ : List Cell} {Φ : List (Str × Cell)} {H : Hp} {σ : L2.St} {fs : List (Str × V)} {f : Str} {v : V} {c : Cell} (I : IV H0 x C dx Γ Φ H σ) (h : H x = some (.ins C dx fs)) (hv : CellOk (hide (hide H x) dx) (some v) c) (hn : Φ.lookup f = none) :
    IV H0 x C dx Γ (Φ ++ [(f, c)]) (upd H x (.ins C dx (putF f v fs))) σ := by
  obtain ⟨fs', h1, h2⟩ := I.ex
  rw [h] at h1
  cases h1
  refine ⟨I.ne, by rw [upd_ne I.ne]; exact I.at_, ⟨_, upd_same, ?_⟩, ?_, ?_, I.self⟩
  · rw [hide2_upd]
    exact h2.put hv hn
  · rw [hide2_upd]
    exact I.base
  · rw [hide2_upd]
    exact I.env
abbrev XN (X : Cx) (body : List Stmt) (x C dx : Addr) (Γ : List Cell) (Φ : List (Str × Cell)) (Fin : List (Str × Cell) → Prop) : Prop :=
  ∀ H0, PSs X body (fun D σ H => IV H0 x C dx Γ Φ H σ ∧ ∀ σ' H' Γ' Φ', Fin Φ' → IV H0 x C dx Γ' Φ' H' σ' → D.nx σ' H')
section
variable {X : Cx} {x C dx : Addr} {Γ : List Cell} {Φ : List (Str × Cell)} {Fin : List (Str × Cell) → Prop} {rest body orelse : List Stmt} {α β : Type} {s : Sh α} {t : Sh β} {P : α → Prop} {e : Expr} {pos p p1 p2 p3 p4 : Pos} {y f g : Str}
theorem xn_nil (h : Fin Φ) : XN X [] x C dx Γ Φ Fin := fun H0 => weakB pss_nil fun D σ H ⟨I, k⟩ => k σ H Γ Φ h I
theorem xn_skip {c : Expr} (hc : XT X c (Γ.set 0 (Ce (sPart x C dx Φ) ())) (· = false)) (h : XN X rest x C dx Γ Φ Fin) : XN X (.If c body [] pos :: rest) x C dx Γ Φ Fin := fun H0 =>
  weakB (pss_cons (ps_if hc pss_never pss_nil) (h H0)) fun D σ H ⟨I, k⟩ => ⟨I.full, fun b H1 pb e1 => by
    subst pb
    exact ⟨I.up e1, k⟩⟩
theorem xn_set [m : Mo s] (he : XE X e (Γ.set 0 (Ce (sPart x C dx Φ) ())) s P) (hn : NcS C s) (h : ∀ a, P a → XN X rest x C dx Γ (Φ ++ [(f, .is s m a)]) Fin) (c : Cls X.K C) (na : NoAttr X.K C f) (hl : Φ.length < 1000 := by decide) (hq : Φ.lookup f = none := by rfl)
    (hN : X.N[0]? = some y := by rfl) (hv : Vis X.env.scope y := by first | exact Or.inl rfl | exact Or.inr (Or.inl rfl) | exact Or.inr (Or.inr rfl)) (hd : (y == ("__debug__" : Str)) = false := by decide) (hcd : (y == ("__classdict__" : Str)) = false := by decide)
    (hs : swapsWithSole [.Attribute (.Name y p1) f p2] e pos.line X.env = pure false := by rfl) (hw : swappedStores [.Attribute (.Name y p1) f p2] e X.env = pure none := by rfl)
    (h1 : (assignEach [.Attribute (.Name y p1) f p2] X.env).map (·.2) = [assign (.Attribute (.Name y p1) f p2) X.env] := by rfl) : XN X (.Assign [.Attribute (.Name y p1) f p2] e pos :: rest) x C dx Γ Φ Fin := fun H0 =>
  weakB (pss_cons (ps_asg he (pg_fld (pe_var hN hv hd hcd)) hs hw h1) (exB (ι := { a : α // P a }) fun a => h a.1 a.2 H0)) fun D σ H ⟨I, k⟩ => ⟨I.full, fun a v H1 pa e1 sv => by
    have I1 := I.up e1
    obtain ⟨fs, g1, g2⟩ := I1.ex
    exact ⟨.ref x, I1.self, x, C, dx, fs, rfl, g1, c, na, by rw [g2.len]; exact hl, ⟨a, pa⟩, I1.put g1 ⟨v, rfl, hn _ _ _ _ _ _ g1 I1.at_ sv⟩ hq, k⟩⟩
theorem lookup_snoc {Φ : List (Str × Cell)} {f g : Str} {c : Cell} (h : Φ.lookup g = none) (hfg : (g == f) = false) : (Φ ++ [(f, c)]).lookup g = none := by
  induction Φ with
  | nil =>
    show List.lookup g [(f, c)] = none
    rw [List.lookup_cons, hfg]
    rfl
  | cons q r ih =>
    rw [List.cons_append]
    rw [List.lookup_cons] at h ⊢
    split at h
    · cases h
    · exact ih h
/-- self.f, self.g = e, e a pair of flat things -/
theorem xn_set2 {k1 : Nat} [m : Mo s] [n : Mo t] {Pp : α × β → Prop} (hc : X.calm = true) (he : XE X e (Γ.set 0 (Ce (sPart x C dx Φ) ())) (sP X.K s t) Pp) (hn : NcS C s) (hn2 : NcS C t) (h : ∀ a b, Pp (a, b) → XN X rest x C dx Γ (Φ ++ [(f, .is s m a)] ++ [(g, .is t n b)]) Fin) (c : Cls X.K C) (na : NoAttr X.K C f) (nb : NoAttr X.K C g)
    (hl : Φ.length < 999 := by decide) (hq : Φ.lookup f = none := by rfl) (hq2 : Φ.lookup g = none := by rfl) (hfg : (g == f) = false := by decide)
    (hN : X.N[0]? = some y := by rfl) (hv : Vis X.env.scope y := by first | exact Or.inl rfl | exact Or.inr (Or.inl rfl) | exact Or.inr (Or.inr rfl)) (hd : (y == ("__debug__" : Str)) = false := by decide) (hcd : (y == ("__classdict__" : Str)) = false := by decide)
    (hln : (assignEach [.Attribute (.Name y p1) f p2, .Attribute (.Name y p3) g p4] X.env).length = 2 := by rfl) (hst : (assignEach [.Attribute (.Name y p1) f p2, .Attribute (.Name y p3) g p4] X.env).findIdx? (·.1) = none := by rfl)
    (hae : (assignEach [.Attribute (.Name y p1) f p2, .Attribute (.Name y p3) g p4] X.env) = (false, assign (.Attribute (.Name y p1) f p2) X.env) :: assignEach [.Attribute (.Name y p3) g p4] X.env := by rfl) (hae2 : (assignEach [.Attribute (.Name y p3) g p4] X.env) = (false, assign (.Attribute (.Name y p3) g p4) X.env) :: assignEach [] X.env := by rfl)
    (hs : swapsWithSole [.Tuple [.Attribute (.Name y p1) f p2, .Attribute (.Name y p3) g p4] k1 p] e pos.line X.env = pure false := by rfl) (hw : swappedStores [.Tuple [.Attribute (.Name y p1) f p2, .Attribute (.Name y p3) g p4] k1 p] e X.env = pure none := by rfl)
    (h1 : (assignEach [.Tuple [.Attribute (.Name y p1) f p2, .Attribute (.Name y p3) g p4] k1 p] X.env).map (·.2) = [assign (.Tuple [.Attribute (.Name y p1) f p2, .Attribute (.Name y p3) g p4] k1 p) X.env] := by rfl) :
    XN X (.Assign [.Tuple [.Attribute (.Name y p1) f p2, .Attribute (.Name y p3) g p4] k1 p] e pos :: rest) x C dx Γ Φ Fin := fun H0 =>
  weakB (pss_cons (ps_asg he (pg_tup hc (pgs_cons (pg_fld (pe_var hN hv hd hcd)) (pgs_cons (pg_fld (pe_var hN hv hd hcd)) pgs_nil)) hln hst) hs hw h1) (exB (ι := { a : α × β // Pp a }) fun a => h a.1.1 a.1.2 a.2 H0)) fun D σ H ⟨I, k⟩ => ⟨I.full, fun a v H1 pa e1 sv => by
    obtain ⟨q, va, vb, rfl, sq, sa, sb⟩ := sv
    have I1 := I.up e1
    obtain ⟨fs, g1, g2⟩ := I1.ex
    have J1 := I1.put (f := f) (c := .is s m a.1) (v := va) g1 ⟨va, rfl, hn _ _ _ _ _ _ g1 I1.at_ sa⟩ hq
    have J2 := J1.put (f := g) (c := .is t n a.2) (v := vb) upd_same ⟨vb, rfl, by rw [hide2_upd]; exact hn2 _ _ _ _ _ _ g1 I1.at_ sb⟩ (lookup_snoc hq2 hfg)
    obtain ⟨fs2, g3, g4⟩ := J1.ex
    rw [upd_same] at g3
    cases g3
    refine ⟨q, [va, vb], rfl, sq, rfl, va, [vb], rfl, .ref x, I1.self, x, C, dx, fs, rfl, g1, c, na, by rw [g2.len]; omega, vb, [], rfl, .ref x, I1.self, x, C, dx, _, rfl, upd_same, c, nb, ?_, rfl, ⟨a, pa⟩, J2, k⟩
    rw [g4.len, List.length_append]
    show Φ.length + 1 < 1000
    omega⟩
end
section
variable {P : Program} {w : World} {K : PySem.W.Frag} {mg : Str → Option Value} {base : Heap} {xn qual : Str} {params : Arguments} {body : List Stmt} {scope : Scope} {dvs : List V} {kws : List (Str × V)} {f C : Addr} {fd : FuncData}
/-- the body of __init__ keeps a promise: the full arguments -/
def spIF (C : Addr) {α ρ : Type} (sa : ShA α) (pre : α → Prop) (sr : Sh ρ) (post : α → ρ → Prop) : Sp := spI C sa pre sr post
theorem fn_init {α ρ : Type} {sa : ShA α} {cs : α → List Cell} {pre : α → Prop} {sr : Sh ρ} {post : α → ρ → Prop} {N ps : List Str} {k n : Nat} {Fin : α → List (Str × Cell) → Prop} (F : FunD K xn qual params body scope dvs kws f fd) (S : FnScope N ps scope) (hA : ArgC sa cs) (hl : ∀ a, (cs a).length + 1 = ps.length) (hn : ∀ a, N.length = (cs a).length + 1 + n)
    (hb : ∀ (cdv : Value) (A : Around) (outer : List PySem.Env) (s : Shared) (H : Hp) (E : XK), Room k (A.deeper (envOfC qual scope s.heap.objs.size f cdv)) → ∀ a, pre a → ∀ x dx,
      XN (cxOf CX0 P w K mg base N qual scope f cdv A outer s H E).nox body x C dx (Cell.no :: (cs a ++ List.replicate n .no)) [] (Fin a))
    (hfin : ∀ a H x dx fs Φ, Fin a Φ → H x = some (.ins C dx fs) → FsOk H fs Φ → ∃ r, post a r ∧ sr H (.ref x) r) : FnOk P w K mg base CX0 (k + 1) f fd ps (spI C sa pre sr post) := by
  refine FunD.ok F S (fun vs H Q E ⟨x, dx, ws, a, e, _, _, _, ha, _⟩ => ?_) fun cdv A outer s H vs Q E hr ⟨x, dx, ws, a, e, h1, h2, h3, ha, hp, q⟩ => ?_
  · subst e
    rw [List.length_cons, hA.len ha]
    exact hl a
  · subst e
    refine ⟨_, (hb cdv A outer s H E hr a hp x dx (hide (hide H x) dx)).nox, ?_, fun σ' H' Γ' Φ' fin I => ?_⟩
    · have hA2 : ArgC (aC (sCl x) sa) (fun a => Ce (sCl x) a.1 :: cs a.2) := argC_cons hA
      have E1 := env_start (N := N) (n := n) (vs := V.ref x :: ws) (a := ((), a)) hA2 (H := hide (hide H x) dx) ⟨_, _, rfl, rfl, ha⟩ (by show _ = (cs a).length + 1 + n; exact hn a)
      have E2 : Env (hide (hide H x) dx) (L2.start N (V.ref x :: ws)) (Cell.no :: (cs a ++ List.replicate n .no)) := by
        refine ⟨E1.len, fun i c hc => ?_⟩
        cases i with
        | zero =>
          cases hc
          trivial
        | succ i => exact E1.at_ (i + 1) c hc
      exact ⟨h3, h2, ⟨[], h1, .nil⟩, Same.refl _, E2, rfl⟩
    · obtain ⟨fs, g1, g2⟩ := I.ex
      obtain ⟨r, pr, sr'⟩ := hfin a H' x dx fs Φ' fin g1 (FsOk.up hide2_same g2)
      refine q r H' pr (fun y o n1 n2 hy => ?_) sr'
      exact hide2_same _ _ (I.base _ _ (by rw [hide_ne n2, hide_ne n1]; exact hy))
/-- no defaults -/
theorem fn_initN {α ρ : Type} {sa : ShA α} {cs : α → List Cell} {pre : α → Prop} {sr : Sh ρ} {post : α → ρ → Prop} {N ps : List Str} {k n : Nat} {Fin : α → List (Str × Cell) → Prop} (F : FunD K xn qual params body scope [] kws f fd) (S : FnScope N ps scope) (hA : ArgC sa cs) (hl : ∀ a, (cs a).length + 1 = ps.length) (hn : ∀ a, N.length = (cs a).length + 1 + n)
    (hb : ∀ (cdv : Value) (A : Around) (outer : List PySem.Env) (s : Shared) (H : Hp) (E : XK), Room k (A.deeper (envOfC qual scope s.heap.objs.size f cdv)) → ∀ a, pre a → ∀ x dx,
      XN (cxOf CX0 P w K mg base N qual scope f cdv A outer s H E).nox body x C dx (Cell.no :: (cs a ++ List.replicate n .no)) [] (Fin a))
    (hfin : ∀ a H x dx fs Φ, Fin a Φ → H x = some (.ins C dx fs) → FsOk H fs Φ → ∃ r, post a r ∧ sr H (.ref x) r)
    (hbi : ∀ (kV doc pm : Value) (an : Option Addr) (cdv ct : Value) (us : List Value), us.length = ps.length → bindArgs (PySem.W.fnOf xn qual params body scope .none kV doc pm an cdv ct) ⟨us, []⟩ = pure (ps.zip us)) : FnR P w K mg base CX0 (k + 1) f (spI C sa pre sr post) := by
  refine FnR.imp (FnOk.raw (fn_init F S hA hl hn hb hfin) (FunD.bindsN F hbi) .nil) fun vs H Q E h => by rw [List.append_nil]; exact h
end
end PL
namespace PL
open PySem PySem.Spec
open PyProof.Rows hiding St
open L2
/-! ### chains, unary operators -/
section
variable {X : Cx} {Γ : List Cell} {α β γ : Type} {s : Sh α} {t : Sh β} {u : Sh γ} {a : α} {b : β} {c : γ} {e1 e2 e3 e : Expr} {pos : Pos} {C : Addr} {k : Nat} {f : Addr}
def Op1 (r : V → Hp → VK → Prop) (s : Sh α) (t : Sh β) (pre : α → Prop) (g : α → β) : Prop := ∀ (H : Hp) (x : V) (a : α) (Q : VK), s H x a → pre a → (∀ v H', Same H H' → t H' v (g a) → Q v H') → r x H Q
theorem x_un {op : UnaryOp} {r : V → Hp → VK → Prop} {pre : α → Prop} {g : α → β} (ho : UnR X (unaryOp op) r) (o : Op1 r s t pre g) (h : XE X e Γ s (· = a)) (hp : pre a) : XE X (.UnaryOp op e pos) Γ t (· = g a) :=
  weakE (pe_un ho h) fun σ H Q ⟨E, q⟩ => ⟨E, fun a' v H1 pa sm sv => by
    subst pa
    exact o H1 v a' Q sv hp fun v' H' s2 st => q _ v' H' rfl (sm.trans s2) st⟩
theorem o1_neg : Op1 (rU fun i => .int (-i)) sInt sInt (fun _ => True) (fun i => -i) := fun H x a Q h _ k => by
  cases h
  exact ⟨a, rfl, k _ H (Same.refl H) rfl⟩
/-- a op b op' c -/
theorem x_chain {op op' : CmpOp} {r r' : R2} {f1 : α → β → Bool} {f2 : β → γ → Bool} {pre : α → β → Prop} {pre' : β → γ → Prop} [Mo s] [Mo t] (ho : OpR X (compareOp op) r) (ho' : OpR X (compareOp op') r') (o : Op2 r s t sBl pre (fun a b c => c = f1 a b)) (o' : Op2 r' t u sBl pre' (fun a b c => c = f2 a b))
    (h1 : XE X e1 Γ s (· = a)) (h2 : XE X e2 Γ t (· = b)) (h3 : f1 a b = true → XE X e3 Γ u (· = c)) (hp : pre a b) (hp' : f1 a b = true → pre' b c) (hm : lastMarks [op, op'] [e2, e3] = false := by with_unfolding_all rfl) : XE X (.Compare e1 [op, op'] [e2, e3] pos) Γ sBl (· = (f1 a b && f2 b c)) :=
  weakE (pe_chain ho ho' h1 h2 (condE h3) hm) fun σ H Q ⟨E, q⟩ => ⟨E, fun i' v1 H1 p1 sm1 s1 => ⟨E.up sm1, fun j' v2 H2 p2 sm2 s2 => by
    subst p1 p2
    refine o H2 v1 v2 _ _ _ (Mo.up sm2 s1) s2 hp fun d z H3 pd sm3 sz => ⟨d, sz, ?_⟩
    subst pd
    have sm := (sm1.trans sm2).trans sm3
    by_cases hd : f1 i' j' = true
    · rw [if_pos hd]
      refine ⟨hd, E.up sm, fun l' v3 H4 p3 sm4 s3 => ?_⟩
      subst p3
      refine o' H4 v2 v3 _ _ _ (Mo.up (sm3.trans sm4) s2) s3 (hp' hd) fun d2 z2 H5 pd2 sm5 sz2 => q _ z2 H5 (by rw [pd2, hd, Bool.true_and]) ((sm.trans sm4).trans sm5) sz2
    · rw [if_neg hd]
      exact q _ _ H3 (by rw [Bool.eq_false_iff.mpr hd, Bool.false_and]) sm rfl⟩⟩
end
end PL
set_option Elab.async false
set_option linter.all false
set_option maxRecDepth 100000
set_option maxHeartbeats 4000000
namespace PL
open PySem PySem.Spec
open PyProof.Rows hiding St
open L2
section
variable {X : Cx} {n : Nat} {C f : Addr} {α : Type} [DecidableEq α] {s : Sh α}
theorem rcS_own {pre : α × α × Unit → Prop} (F : FnR X.prog X.w X.K X.mg X.base CX0 n f (spD (aC s (aC s aN)) pre sBl (fun a => decide (a.1 = a.2.1)))) (hp : ∀ a, pre a) (hi : InsS C s) (m : OwnM X.K C "__eq__" f) : RcS X n s .Eq id := by
  intro A pins st σ H x y u v a b sb I rx ry ha hb
  obtain ⟨p, dx, fs, rfl, h1⟩ := hi H x a ha
  obtain ⟨q, dy, gs, rfl, h2⟩ := hi H y b hb
  cases rx
  cases ry
  obtain ⟨mA, J, _⟩ := ins_get I.hok h1
  obtain ⟨mB, J', _⟩ := ins_get I.hok h2
  obtain ⟨od, J, _⟩ := J.look
  obtain ⟨od', J', _⟩ := J'.look
  obtain ⟨mm, hF⟩ := I.fr
  refine PySem.W.cmp_K (op := .Eq) (tb := .ref C) sb.room.units0 hF I.ok.mod.kin J J'.type (by simp [PySem.W.notFirst]) m.at_ m.fn ?_
  have hsp : spD (aC s (aC s aN)) pre sBl (fun a => decide (a.1 = a.2.1)) [.ref p, .ref q] H (fun v H' => v = .bl (decide (a = b)) ∧ Same H H') E0 := ⟨(a, b, ()), ⟨_, _, rfl, ha, _, _, rfl, hb, rfl⟩, hp _, fun r v H' pr sm sv => by
    subst pr
    exact ⟨sv, sm⟩⟩
  have e0 : Env0 X.prog X.w X.K X.mg X.base A X.stack st H := by
    have e := I.env0
    exact ⟨by rw [sb.fr]; exact e.frames, e.mod, e.bs, e.bsz, e.funs, e.frf, e.hok, e.bare⟩
  have r2 : Vals [V.ref p, V.ref q] [Value.ref p, Value.ref q] := .cons rfl (.cons rfl .nil)
  refine wpAny_call (codeAny_mono (F A X.stack st H [.ref p, .ref q] [.ref p, .ref q] _ E0 sb.room e0 r2 hsp) fun r s' hq => ?_)
  cases r with
  | error e => exact hq.elim
  | ok fl =>
    cases fl with
    | ret w =>
      obtain ⟨z, H', I', rz, ez, ex⟩ := I.after hq
      subst ez
      cases rz
      exact ⟨rfl, H', I', ex⟩
    | next => exact False.elim hq
    | brk => exact False.elim hq
    | cont => exact False.elim hq
theorem refS_ins (hi : InsS C s) : RefS s := fun H x a h => let ⟨p, _, _, e, _⟩ := hi H x a h; ⟨p, e⟩
theorem eqS_own {pre : α × α × Unit → Prop} (F : FnR X.prog X.w X.K X.mg X.base CX0 n f (spD (aC s (aC s aN)) pre sBl (fun a => decide (a.1 = a.2.1)))) (hp : ∀ a, pre a) (hi : InsS C s) (m : OwnM X.K C "__eq__" f) (hf : FnS X s) : EqS X n s := (rcS_own F hp hi m).eqS (refS_ins hi) hf
end
end PL
set_option Elab.async false
set_option linter.all false
set_option maxRecDepth 100000
set_option maxHeartbeats 4000000
namespace PL
open PySem PySem.Spec
open PyProof.Rows hiding St
open L2
/-! ### t[::-1], t a tuple -/
section
open HT
variable {prog : Program} {w : World} {A : Around} {E : Value → Shared → Prop} {s : Shared}
end
section
variable {X : Cx} {Γ : List Cell} {α β : Type} {s : Sh α} {e e1 e2 : Expr} {as bs : List α} {k : Nat} {p1 p2 p3 pos : Pos}
/-- xs + ys of lists -/
theorem o2_cat {K : Fg} [Mo s] : Op2 rCat (sL K s) (sL K s) (sL K s) (fun a b => a.length + b.length ≤ 16777216) (fun a b c => c = a ++ b) := fun H x y a b Q ⟨p, xs, e1, h1, h2⟩ ⟨p', ys, e2, h3, h4⟩ hp q => by
  refine ⟨p, p', xs, ys, e1, e2, h1, h3, by rw [Paired.length h2, Paired.length h4]; exact hp, fun r hr => ?_⟩
  have e := Same.new (o := HO.lst (xs ++ ys)) hr
  exact q _ _ _ rfl e ⟨r, _, rfl, upd_same, Paired.app (paired_up e h2) (paired_up e h4)⟩
theorem o2_catU {K : Fg} [Mo s] : Op2 (rCatA K) (sU K s) (sU K s) (sU K s) (fun a b => a.length + b.length ≤ 16777216) (fun a b c => c = a ++ b) := fun H x y a b Q ⟨p, xs, e1, h1, h2⟩ ⟨p', ys, e2, h3, h4⟩ hp q => by
  subst e1 e2
  refine ⟨p, p', xs, ys, rfl, rfl, h1, h3, by rw [Paired.length h2, Paired.length h4]; exact hp, fun e => ?_, fun n e => ?_, fun n1 n2 r hr => ?_⟩
  · subst e
    cases h2
    exact q _ _ H rfl (Same.refl H) ⟨p', ys, rfl, h3, h4⟩
  · subst e
    cases h4
    exact q _ _ H (List.append_nil _).symm (Same.refl H) ⟨p, xs, rfl, h1, h2⟩
  · have e := Same.new (o := HO.tup (xs ++ ys)) hr
    exact q _ _ _ rfl e ⟨r, _, rfl, SqT.of upd_same, Paired.app (paired_up e h2) (paired_up e h4)⟩
end
end PL
set_option Elab.async false
set_option linter.all false
set_option maxRecDepth 100000
set_option maxHeartbeats 4000000
namespace PL
open PySem PySem.Spec
open PyProof.Rows hiding St
open L2
/-! ### comprehensions that map -/
section
variable {X : Cx} {Γ : List Cell} {α β γ : Type} {sx : Sh α} {st : Sh γ} {s : Sh β} {elt iter : Expr} {scope : Scope} {pos p p1 p2 : Pos} {x y : Str} {k1 : Nat} [Mo s] [m : Mo sx] [n : Mo st]
theorem x_mapN (i : Nat) {xs : List α} {f : α → β} (hN : X.N.Nodup) (hi : XI X (.Name x p) iter Γ sx (· = xs)) (ok : BlkOk X.N X.env.scope scope [(x, i)])
    (he : ∀ a ∈ xs, ∀ (s' : Shared) (H : Hp) (C : Addr) (cl : List (Str × Addr)) (fp : List Addr), XE (X.blk s' H scope (compEnvC scope cl C X.env) fp) elt ((Γ.set i .no).set i (.is sx m a)) s (· = f a)) (hl : xs.length ≤ 16000000)
    (hg : ∀ (s : Shared) (H : Hp) (C : Addr) (cl : List (Str × Addr)) (fp : List Addr), PG (X.blk s H scope (compEnvC scope cl C X.env) fp) (.Name x p) (gName i)) (hc : X.calm = true := by rfl) (hs : ∀ x, foldedSetIterable iter X.env x = pure x := by intro _; rfl) :
    XE X (.ListComp elt [⟨.Name x p, iter, [], 0⟩] scope pos) Γ (sL X.K s) (· = xs.map f) :=
  xe_imp (x_lcG [(x, i)] hc hN hi ok hg (tgt_name i) (fun _ e => by rw [e]; exact hl) (fun a ⟨as, e, ha⟩ => he a (e ▸ ha)) hs) fun ys ⟨as, e, l⟩ => by
    subst e
    exact LcR.map (f := f) (fun _ _ z => by cases z) l
theorem x_filtN (i : Nat) {c : Expr} {xs : List α} {f : α → β} {q : α → Bool} (hN : X.N.Nodup) (hi : XI X (.Name x p) iter Γ sx (· = xs)) (ok : BlkOk X.N X.env.scope scope [(x, i)])
    (hcc : ∀ a ∈ xs, ∀ (s' : Shared) (H : Hp) (C : Addr) (cl : List (Str × Addr)) (fp : List Addr), XT (X.blk s' H scope (compEnvC scope cl C X.env) fp) c ((Γ.set i .no).set i (.is sx m a)) (· = q a))
    (he : ∀ a ∈ xs, ∀ (s' : Shared) (H : Hp) (C : Addr) (cl : List (Str × Addr)) (fp : List Addr), XE (X.blk s' H scope (compEnvC scope cl C X.env) fp) elt ((Γ.set i .no).set i (.is sx m a)) s (· = f a)) (hl : xs.length ≤ 16000000)
    (hg : ∀ (s : Shared) (H : Hp) (C : Addr) (cl : List (Str × Addr)) (fp : List Addr), PG (X.blk s H scope (compEnvC scope cl C X.env) fp) (.Name x p) (gName i)) (hc : X.calm = true := by rfl) (hs : ∀ x, foldedSetIterable iter X.env x = pure x := by intro _; rfl) :
    XE X (.ListComp elt [⟨.Name x p, iter, [c], 0⟩] scope pos) Γ (sL X.K s) (· = (xs.filter q).map f) :=
  xe_imp (x_lcC [(x, i)] hc hN hi ok hg (tgt_name i) (fun _ e => by rw [e]; exact hl) (fun a ⟨as, e, ha⟩ => hcc a (e ▸ ha)) (fun a ⟨as, e, ha⟩ => he a (e ▸ ha)) hs) fun ys ⟨as, e, l⟩ => by
    subst e
    exact LcR.filter (p := q) (f := f) l
end
/-! ### x op= e -/
theorem EnvF.more {H0 B H H' : Hp} {σ : L2.St} {Γ : List Cell} {o : Own} (h : EnvF H0 B H σ Γ o) (e : Same H H') : ∃ B', EnvF H0 B' H' σ Γ o ∧ Same B B' ∧ ∀ {α : Type} {s : Sh α} [Lf s] (v : V) (a : α), s H' v a → s B' v a := by
  cases o with
  | no =>
    obtain ⟨e1, h2, h3⟩ := h
    subst e1
    exact ⟨H', ⟨rfl, h2.trans e, h3.up e⟩, e, fun v a h => h⟩
  | at_ i s m as =>
    obtain ⟨D, vs, h1, h2, h3, h4, h5, h6⟩ := h
    subst h3
    have e2 : Same (hide H D) (hide H' D) := same_hide e
    exact ⟨hide H' D, ⟨D, vs, h1, e _ _ h2, rfl, h4.trans e2, h5.up e2, paired_up e2 h6⟩, e2, fun v a h => Lf.lf (e _ _ h2) h⟩
section
variable {X : Cx} {Γ : List Cell} {o : Own} {α β γ ρ : Type} {s : Sh α} {t : Sh β} {u : Sh γ} {e : Expr} {G : Goal ρ} {rest : List Stmt} {pos p1 : Pos} {x : Str} {a : α} {b : β}
end
end PL
set_option Elab.async false
set_option linter.all false
set_option maxRecDepth 100000
set_option maxHeartbeats 4000000
namespace PL
open PySem PySem.Spec
open PyProof.Rows hiding St
open L2
/-! ### name = comprehension (the list is handed over to the name as it grows) -/
section
variable {X : Cx} {Γ : List Cell} {α β γ ρ : Type} {sx : Sh α} {st : Sh γ} {s : Sh β} {Pl : List α → Prop} {elt tg iter : Expr} {scope : Scope} {pos spos p p1 p2 py : Pos} {g : TG} {up : α → List Cell → List Cell} {x y z : Str} {k1 : Nat} {G : Goal ρ} {rest : List Stmt} [Mo s]
theorem xb_setLcG {Pe : α → β → Prop} (i : Nat) (own : List (Str × Nat)) (hN : X.N.Nodup) (hi : XI X tg iter Γ sx Pl) (ok : BlkOk X.N X.env.scope scope own) (hg : ∀ (s : Shared) (H : Hp) (C : Addr) (cl : List (Str × Addr)) (fp : List Addr), PG (X.blk s H scope (compEnvC scope cl C X.env) fp) tg g)
    (ht : Tgt g (own.map (·.2)) sx up) (hl : ∀ xs, Pl xs → xs.length ≤ 16000000)
    (he : ∀ x, (∃ xs, Pl xs ∧ x ∈ xs) → ∀ (s' : Shared) (H : Hp) (C : Addr) (cl : List (Str × Addr)) (fp : List Addr), XE (X.blk s' H scope (compEnvC scope cl C X.env) fp) elt (up x (wipeC Γ (own.map (·.2)))) s (Pe x)) (h : ∀ ys xs, Pl xs → LcR (fun _ b => b = true) Pe xs ys → XB X rest (Γ.set i (Ce (sL X.K s) ys)) .no G) (hc : X.calm = true := by rfl) (hs : ∀ x, foldedSetIterable iter X.env x = pure x := by intro _; rfl)
    (hy : X.N[i]? = some y := by rfl) (hyl : X.env.scope.names.lookup y = some .local := by rfl) (hsw : swapsWith (.ListComp elt [⟨tg, iter, [], 0⟩] scope pos) (some (.Name y py)) spos.line X.env = pure true := by rfl) : XB X (.Assign [.Name y py] (.ListComp elt [⟨tg, iter, [], 0⟩] scope pos) spos :: rest) Γ .no G :=
  xb_consP (ι := ULift (List β)) (A := fun ys => ∃ xs, Pl xs ∧ LcR (fun _ b => b = true) Pe xs ys.down) (Γ' := fun ys => Γ.set i (Ce (sL X.K s) ys.down)) (o' := fun _ => .no) (fun H0 => ps_setLc hc hN hy hyl hsw hi ok hg (fun _ _ _ _ _ => pts_nil) (fun s' H C cl fp => teB_pe fun x hx => he x hx s' H C cl fp) hs) (fun ys ⟨xs, pl, l⟩ => h ys.down xs pl l)
    fun H0 D σ H ⟨⟨B, e1, h2, h3⟩, gk⟩ => lc_read (tg := tg) (iter := iter) ht hl ⟨h3, fun ys v H' pa sm sv => ⟨⟨ys⟩, pa, ⟨H', rfl, h2.trans sm, (h3.up sm).set sv⟩, gk⟩⟩
variable [m : Mo sx] [n : Mo st]
theorem xb_setMapP (i j k : Nat) {xs : List (α × γ)} {f : α × γ → β} (hN : X.N.Nodup) (hi : XI X (.Tuple [.Name x p1, .Name z p2] k1 p) iter Γ (sP X.K sx st) (· = xs)) (ok : BlkOk X.N X.env.scope scope [(x, j), (z, k)])
    (he : ∀ a ∈ xs, ∀ (s' : Shared) (H : Hp) (C : Addr) (cl : List (Str × Addr)) (fp : List Addr), XE (X.blk s' H scope (compEnvC scope cl C X.env) fp) elt ((((Γ.set k .no).set j .no).set j (.is sx m a.1)).set k (.is st n a.2)) s (· = f a)) (hl : xs.length ≤ 16000000)
    (hg : ∀ (s : Shared) (H : Hp) (C : Addr) (cl : List (Str × Addr)) (fp : List Addr), PG (X.blk s H scope (compEnvC scope cl C X.env) fp) (.Tuple [.Name x p1, .Name z p2] k1 p) (gTup X.K 2 (gCons (gName j) (gCons (gName k) gNil)))) (h : XB X rest (Γ.set i (Ce (sL X.K s) (xs.map f))) .no G) (hc : X.calm = true := by rfl) (hs : ∀ x, foldedSetIterable iter X.env x = pure x := by intro _; rfl)
    (hy : X.N[i]? = some y := by rfl) (hyl : X.env.scope.names.lookup y = some .local := by rfl) (hsw : swapsWith (.ListComp elt [⟨.Tuple [.Name x p1, .Name z p2] k1 p, iter, [], 0⟩] scope pos) (some (.Name y py)) spos.line X.env = pure true := by rfl) : XB X (.Assign [.Name y py] (.ListComp elt [⟨.Tuple [.Name x p1, .Name z p2] k1 p, iter, [], 0⟩] scope pos) spos :: rest) Γ .no G :=
  xb_setLcG i [(x, j), (z, k)] hN hi ok hg (tgt_pair j k) (fun _ e => by rw [e]; exact hl) (fun a ⟨as, e, ha⟩ => he a (e ▸ ha)) (fun ys as e l => by
    subst e
    rw [LcR.map (f := f) (fun _ _ z => by cases z) l]
    exact h) hc hs hy hyl hsw
end
end PL
set_option Elab.async false
set_option linter.all false
set_option maxRecDepth 100000
set_option maxHeartbeats 4000000
namespace PL
open PySem PySem.Spec
open PyProof.Rows hiding St
open L2
section
variable {P : Program} {w : World} {K : PySem.W.Frag} {mg : Str → Option Value} {base : Heap} {xn qual : Str} {params : Arguments} {body : List Stmt} {scope : Scope} {dvs : List V} {kws : List (Str × V)} {f C : Addr} {fd : FuncData}
/-- __init__(self, *v): the arguments of one shape -/
theorem fn_initStar {α ρ : Type} {s : Sh α} [Mo s] {pre : List α → Prop} {sr : Sh ρ} {post : List α → ρ → Prop} {N : List Str} {pv sv : Str} {k n : Nat} {Fin : List α → List (Str × Cell) → Prop} (F : FunD K xn qual params body scope [] kws f fd) (S : FnScope N ([sv] ++ [pv]) scope) (hn : N.length = 2 + n)
    (hb : ∀ (cdv : Value) (A : Around) (outer : List PySem.Env) (s' : Shared) (H : Hp) (E : XK), Room k (A.deeper (envOfC qual scope s'.heap.objs.size f cdv)) → ∀ a, pre a → ∀ x dx,
      XN (cxOf CX0 P w K mg base N qual scope f cdv A outer s' H E).nox body x C dx (Cell.no :: (Ce (sU K s) a :: List.replicate n .no)) [] (Fin a))
    (hfin : ∀ a H x dx fs Φ, Fin a Φ → H x = some (.ins C dx fs) → FsOk H fs Φ → ∃ r, post a r ∧ sr H (.ref x) r) (hlen : ∀ a, pre a → a.length ≤ sizeLine)
    (h0 : ∀ (kV doc pm : Value) (an : Option Addr) (cdv ct : Value) a, bindArgs (PySem.W.fnOf xn qual params body scope .none kV doc pm an cdv ct) ⟨[a], []⟩ = (newTuple [] >>= fun t => pure [(sv, a), (pv, t)]))
    (h1 : ∀ (kV doc pm : Value) (an : Option Addr) (cdv ct : Value) a r rs, bindArgs (PySem.W.fnOf xn qual params body scope .none kV doc pm an cdv ct) ⟨a :: r :: rs, []⟩ = (newTuple (r :: rs) >>= fun t => pure [(sv, a), (pv, t)])) : FnR P w K mg base CX0 (k + 1) f (spI C (aS s) pre sr post) := by
  obtain ⟨oc, od, dV, kV, doc, pm, an, cdv, ct, osl, rfl, lk, hcd, hD, hK⟩ := F.ex
  rcases hD with ⟨_, rfl⟩ | ⟨e, _⟩
  · refine FnR.imp (StX.fn_star (ps := [sv]) (pv := pv) (sp := spI C (aC (sU K s) aN) (fun a => pre a.1) sr (fun a => post a.1)) lk hcd S StX.cxUp_none (StX.bind_star1 (B := fun us => bindArgs (PySem.W.fnOf xn qual params body scope .none kV doc pm an cdv ct) ⟨us, []⟩) (h0 kV doc pm an cdv ct) (h1 kV doc pm an cdv ct)) fun A outer s' H vs Q E hr ⟨x, dx, ws, a, e, g1, g2, g3, ha, hp, q⟩ => ?_) fun vs H Q E ⟨x, dx, ws, a, e, g1, g2, g3, ha, hp, q⟩ => ?_
    · subst e
      refine ⟨_, (hb cdv A outer s' H E hr a.1 hp x dx (hide (hide H x) dx)).nox, ?_, fun σ' H' Γ' Φ' fin I => ?_⟩
      · have hA2 : ArgC (aC (sCl x) (aC (sU K s) aN)) (fun a => Ce (sCl x) a.1 :: Ce (sU K s) a.2.1 :: []) := argC_cons (argC_cons argC_nil)
        have E1 := env_start (N := N) (n := n) (vs := V.ref x :: ws) (a := ((), a)) hA2 (H := hide (hide H x) dx) ⟨_, _, rfl, rfl, ha⟩ (by show _ = 2 + n; exact hn)
        have E2 : Env (hide (hide H x) dx) (L2.start N (V.ref x :: ws)) (Cell.no :: (Ce (sU K s) a.1 :: List.replicate n .no)) := by
          refine ⟨E1.len, fun i c hc => ?_⟩
          cases i with
          | zero =>
            cases hc
            trivial
          | succ i => exact E1.at_ (i + 1) c hc
        exact ⟨g3, g2, ⟨[], g1, .nil⟩, Same.refl _, E2, rfl⟩
      · obtain ⟨fs, g1, g2⟩ := I.ex
        obtain ⟨r, pr, sr'⟩ := hfin a.1 H' x dx fs Φ' fin g1 (FsOk.up hide2_same g2)
        refine q r H' pr (fun y o n1 n2 hy => ?_) sr'
        exact hide2_same _ _ (I.base _ _ (by rw [hide_ne n2, hide_ne n1]; exact hy))
    · subst e
      have ha' : Paired (s (hide (hide H x) dx)) ws a := ha
      refine ⟨[V.ref x], ws, rfl, rfl, by rw [Paired.length ha']; exact hlen a hp, fun p hpn => ?_⟩
      have nx : p ≠ x := fun z => by rw [z, g1] at hpn; cases hpn
      have nd : p ≠ dx := fun z => by rw [z, g2] at hpn; cases hpn
      have sm : Same (hide (hide H x) dx) (hide (hide (upd H p (.tup ws)) x) dx) := same_hide2 (Same.new hpn)
      refine ⟨x, dx, [V.ref p], (a, ()), rfl, by rw [upd_ne (Ne.symm nx)]; exact g1, by rw [upd_ne (Ne.symm nd)]; exact g2, g3, ⟨V.ref p, [], rfl, ⟨p, ws, rfl, SqT.of (by rw [hide_ne nd, hide_ne nx, upd_same]), paired_up sm ha'⟩, rfl⟩, hp, fun r H' pr aw sr' => q r H' pr (fun y o n1 n2 hy => aw y o n1 n2 ?_) sr'⟩
      exact Same.new hpn _ _ hy
  · exact absurd rfl e
end
end PL
set_option Elab.async false
set_option linter.all false
set_option maxRecDepth 100000
set_option maxHeartbeats 4000000
namespace PL
open PySem PySem.Spec
open PyProof.Rows hiding St
open L2
/-! ### defs that change a list of whole numbers that they were given (slot 0) -/
def EnvD (D : Addr) (H0 H : Hp) (σ : L2.St) (Γ : List Cell) (as : List Int) : Prop := σ[0]? = some (some (.ref D)) ∧ H D = some (.lst (as.map V.int)) ∧ Same H0 (hide H D) ∧ Env (hide H D) σ Γ
theorem EnvD.to {D : Addr} {H0 H : Hp} {σ : L2.St} {Γ : List Cell} {as : List Int} (h : EnvD D H0 H σ Γ as) : EnvF H0 (hide H D) H σ Γ (.at_ 0 sInt inferInstance as) := ⟨D, _, h.1, h.2.1, rfl, h.2.2.1, h.2.2.2, Paired.ints⟩
theorem EnvD.of {D : Addr} {H0 B H : Hp} {σ : L2.St} {Γ : List Cell} {as : List Int} (h0 : σ[0]? = some (some (.ref D))) (h : EnvF H0 B H σ Γ (.at_ 0 sInt inferInstance as)) : EnvD D H0 H σ Γ as ∧ B = hide H D := by
  obtain ⟨D', vs, h1, h2, h3, h4, h5, h6⟩ := h
  rw [h0] at h1
  cases h1
  subst h3
  have := Paired.int h6
  subst this
  exact ⟨⟨h0, h2, h4, h5⟩, rfl⟩
abbrev XD (X : Cx) (body : List Stmt) (D : Addr) (Γ : List Cell) (as : List Int) (Post : Int → List Int → Prop) : Prop :=
  ∀ H0, PSs X body (fun E σ H => EnvD D H0 H σ Γ as ∧ ∀ r as' H', Post r as' → H' D = some (.lst (as'.map V.int)) → Same H0 (hide H' D) → E.rt (.int r) H')
abbrev Oi (as : List Int) : Own := .at_ 0 sInt inferInstance as
section
variable {X : Cx} {D : Addr} {Γ : List Cell} {as : List Int} {Post : Int → List Int → Prop} {e : Expr} {rest body : List Stmt} {pos p p1 p2 p3 p4 : Pos} {x y : Str} {v u r : Int}
theorem xd_ret (he : EF X e Γ (Oi as) sInt (· = r)) (h : Post r as) : XD X (.Return (some e) pos :: rest) D Γ as Post := fun H0 =>
  weakB (pss_cons (ps_ret (he H0)) (t := tRet _) (u := fun _ _ _ => False) ⟨fun _ _ _ _ _ _ h => h.elim⟩) fun E σ H ⟨I, k⟩ => ⟨_, I.to, fun a w B' H' pa E' sv => by
    subst pa
    obtain ⟨I', _⟩ := EnvD.of I.1 E'
    cases sv
    exact k _ as H' h I'.2.1 I'.2.2.1⟩
theorem EnvD.set {H0 H : Hp} {σ : L2.St} {i : Nat} {α : Type} {s : Sh α} {m : Mo s} {a : α} {w : V} (I : EnvD D H0 H σ Γ as) (sv : s (hide H D) w a) (h0 : 0 ≠ i) : EnvD D H0 H (σ.set i (some w)) (Γ.set i (.is s m a)) as :=
  ⟨by rw [List.getElem?_set_ne (Ne.symm h0)]; exact I.1, I.2.1, I.2.2.1, I.2.2.2.set sv⟩
theorem xd_set (i : Nat) (hN : X.N.Nodup) (he : EF X e Γ (Oi as) sInt (· = v)) (h : XD X rest D (Γ.set i (Ce sInt v)) as Post) (h0 : 0 ≠ i := by decide) (hi : X.N[i]? = some x := by rfl) (hx : Loc X.env.scope x := by first | exact Or.inl rfl | exact Or.inr rfl)
    (hs : swapsWith e (some (.Name x p1)) pos.line X.env = pure false := by rfl) (hf : X.fn x = true ∨ X.env.scope.names.lookup x = some .local := by first | exact .inl rfl | exact .inr rfl | assumption) : XD X (.Assign [.Name x p1] e pos :: rest) D Γ as Post := fun H0 =>
  weakB (pss_cons (ps_set hN hi hx (he H0) hs hf) (h H0)) fun E σ H ⟨I, k⟩ => ⟨_, I.to, fun a w B' H' pa E' sv => by
    subst pa
    obtain ⟨I', e1⟩ := EnvD.of I.1 E'
    subst e1
    exact ⟨I'.set sv h0, k⟩⟩
theorem upd_hidden {H : Hp} {o : HO} : hide (upd H D o) D = hide H D := hide_upd'
theorem EnvD.put {H0 H : Hp} {σ : L2.St} (I : EnvD D H0 H σ Γ as) (c : Nat) : EnvD D H0 (upd H D (.lst ((as.map V.int).set c (.int v)))) σ Γ (as.set c v) :=
  ⟨I.1, by rw [upd_same, List.map_set], by rw [upd_hidden]; exact I.2.2.1, by rw [upd_hidden]; exact I.2.2.2⟩
theorem ixN_nat {n c : Nat} (h : c < n) : ixN n (c : Int) = some c := by
  unfold ixN
  rw [if_pos (by omega), if_pos (by omega)]
  rfl
theorem xd_put (c : Nat) {j : Nat} (he : EF X e Γ (Oi as) sInt (· = v)) (hc : c < as.length) (h : XD X rest D Γ (as.set c v) Post) (hi : X.N[0]? = some x := by rfl) (hv : Vis X.env.scope x := by first | exact Or.inl rfl | exact Or.inr (Or.inl rfl) | exact Or.inr (Or.inr rfl)) (hd : (x == ("__debug__" : Str)) = false := by decide) (hcd : (x == ("__classdict__" : Str)) = false := by decide)
    (ha : ∀ v, assign (.Subscript (.Name x p1) (.Constant (.int (c : Int)) j p2) p3) X.env v = (do
      let ov ← holding [v] (eval (.Name x p1) X.env)
      let iv ← holding [v, ov] (eval (.Constant (.int (c : Int)) j p2) X.env)
      standAt p3
      holding [v, ov, iv] (setItem ov iv v)
      release [v, ov, iv] []) := by intro _; rfl)
    (hs : swapsWithSole [.Subscript (.Name x p1) (.Constant (.int (c : Int)) j p2) p3] e pos.line X.env = pure false := by rfl) (hw : swappedStores [.Subscript (.Name x p1) (.Constant (.int (c : Int)) j p2) p3] e X.env = pure none := by rfl)
    (h1 : (assignEach [.Subscript (.Name x p1) (.Constant (.int (c : Int)) j p2) p3] X.env).map (·.2) = [assign (.Subscript (.Name x p1) (.Constant (.int (c : Int)) j p2) p3) X.env] := by rfl) : XD X (.Assign [.Subscript (.Name x p1) (.Constant (.int (c : Int)) j p2) p3] e pos :: rest) D Γ as Post := fun H0 =>
  weakB (pss_cons (ps_asg (he H0) (pg_sub (pe_var hi hv hd hcd) pe_int set_list ha) hs hw h1) (h H0)) fun E σ H ⟨I, k⟩ => ⟨_, I.to, fun a w B' H' pa E' sv => by
    subst pa
    obtain ⟨I', e1⟩ := EnvD.of I.1 E'
    cases sv
    exact ⟨.ref D, I'.1, D, _, _, c, rfl, rfl, I'.2.1, ixN_nat (by rw [List.length_map]; exact hc), I'.put c, k⟩⟩
theorem xd_if {c : Expr} {b : Bool} (hc : ET X c Γ (Oi as) (· = b)) (h1 : b = true → XD X body D Γ as Post) (h2 : b = false → XD X rest D Γ as Post) : XD X (.If c body [] pos :: rest) D Γ as Post := fun H0 =>
  weakB (pss_cons (ps_if (hc H0) (condB fun h => h1 h H0) pss_nil) (condB fun h => h2 h H0)) fun E σ H ⟨I, k⟩ => ⟨_, I.to, fun b' B' H' pb E' => by
    subst pb
    obtain ⟨I', e1⟩ := EnvD.of I.1 E'
    cases b' with
    | true => exact ⟨rfl, I', k⟩
    | false => exact ⟨rfl, I', k⟩⟩
/-- xs[c], y = e -/
theorem xd_unp (c i : Nat) {j k1 : Nat} (hcm : X.calm = true) (hN : X.N.Nodup) (he : EF X e Γ (Oi as) (sP X.K sInt sInt) (· = (v, u))) (hc : c < as.length) (h : XD X rest D (Γ.set i (Ce sInt u)) (as.set c v) Post) (h0 : 0 ≠ i := by decide) (hi : X.N[0]? = some x := by rfl) (hv : Vis X.env.scope x := by first | exact Or.inl rfl | exact Or.inr (Or.inl rfl) | exact Or.inr (Or.inr rfl)) (hd : (x == ("__debug__" : Str)) = false := by decide) (hcd : (x == ("__classdict__" : Str)) = false := by decide)
    (hj : X.N[i]? = some y := by rfl) (hy : Loc X.env.scope y := by first | exact Or.inl rfl | exact Or.inr rfl)
    (hf : X.fn y = true ∨ X.env.scope.names.lookup y = some .local := by first | exact .inl rfl | exact .inr rfl | assumption)
    (ha : ∀ v, assign (.Subscript (.Name x p1) (.Constant (.int (c : Int)) j p2) p3) X.env v = (do
      let ov ← holding [v] (eval (.Name x p1) X.env)
      let iv ← holding [v, ov] (eval (.Constant (.int (c : Int)) j p2) X.env)
      standAt p3
      holding [v, ov, iv] (setItem ov iv v)
      release [v, ov, iv] []) := by intro _; rfl)
    (hln : (assignEach [.Subscript (.Name x p1) (.Constant (.int (c : Int)) j p2) p3, .Name y p4] X.env).length = 2 := by rfl) (hst : (assignEach [.Subscript (.Name x p1) (.Constant (.int (c : Int)) j p2) p3, .Name y p4] X.env).findIdx? (·.1) = none := by rfl)
    (hs : swapsWithSole [.Tuple [.Subscript (.Name x p1) (.Constant (.int (c : Int)) j p2) p3, .Name y p4] k1 p] e pos.line X.env = pure false := by rfl) (hw : swappedStores [.Tuple [.Subscript (.Name x p1) (.Constant (.int (c : Int)) j p2) p3, .Name y p4] k1 p] e X.env = pure none := by rfl)
    (h1 : (assignEach [.Tuple [.Subscript (.Name x p1) (.Constant (.int (c : Int)) j p2) p3, .Name y p4] k1 p] X.env).map (·.2) = [assign (.Tuple [.Subscript (.Name x p1) (.Constant (.int (c : Int)) j p2) p3, .Name y p4] k1 p) X.env] := by rfl) : XD X (.Assign [.Tuple [.Subscript (.Name x p1) (.Constant (.int (c : Int)) j p2) p3, .Name y p4] k1 p] e pos :: rest) D Γ as Post := fun H0 =>
  weakB (pss_cons (ps_asg (he H0) (pg_tup hcm (pgs_cons (pg_sub (pe_var hi hv hd hcd) pe_int set_list ha) (pgs_cons (pg_name hN hj hy hf) pgs_nil)) hln hst) hs hw h1) (h H0)) fun E σ H ⟨I, k⟩ => ⟨_, I.to, fun a w B' H' pa E' sv => by
    obtain ⟨q, va, vb, rfl, sq, sa, sb⟩ := sv
    subst pa
    obtain ⟨I', e1⟩ := EnvD.of I.1 E'
    subst e1
    cases sa
    cases sb
    have hq : SqT X.K H' q [V.int v, V.int u] := by
      rcases sq with sq | sq
      · refine .inl ?_
        rcases sq with sq | ⟨o, sq⟩
        · exact .inl (hide_same _ _ sq)
        · exact .inr ⟨o, hide_same _ _ sq⟩
      · exact .inr sq
    exact ⟨q, _, rfl, hq, rfl, _, _, rfl, .ref D, I'.1, D, _, _, c, rfl, rfl, I'.2.1, ixN_nat (by rw [List.length_map]; exact hc), _, _, rfl, rfl, (I'.put c).set (s := sInt) rfl h0, k⟩⟩
end
/-! ### the list behind a predicate: calls that change it leave it as it is -/
def boxO (p : Addr) (ok : List Int → Prop) : HO := .ext fun h => ∃ (as : List Int) (its : List Value) (n : Nat), ok as ∧ as.length ≤ sizeLine ∧ Vals (as.map V.int) its ∧ h.get? p = some { cls := .type "list", data := .seq its.toArray n }
def sBox (ok : List Int → Prop) : Sh Unit := fun H v _ => ∃ p, v = .ref p ∧ H p = some (boxO p ok)
instance {ok : List Int → Prop} : Mo (sBox ok) := ⟨fun e ⟨p, h1, h2⟩ => ⟨p, h1, e _ _ h2⟩⟩
instance {ok : List Int → Prop} : Lf (sBox ok) := ⟨fun {H D xs v a} hD ⟨p, h1, h2⟩ => ⟨p, h1, by rw [hide_ne fun z => (by rw [z, hD] at h2; cases h2)]; exact h2⟩⟩
theorem box_of {P : Program} {w : World} {H : Hp} {h : Heap} {p : Addr} {ok : List Int → Prop} {as : List Int} (hs : ok as) (x : ObjOk P w H h p (.lst (as.map V.int))) : ObjOk P w (upd H p (boxO p ok)) h p (boxO p ok) := by
  obtain ⟨hz, its, n, r, e⟩ := x
  refine ⟨⟨as, its, n, hs, by rw [List.length_map] at hz; exact hz, r, e⟩, ⟨_, e⟩, fun h1 h2 ⟨as, its, n, q1, q2, q3, q4⟩ k => ⟨as, its, n, q1, q2, q3, k _ q4⟩⟩
section
variable {P : Program} {w : World} {K : PySem.W.Frag} {mg : Str → Option Value} {base : Heap} {f : Addr} {k : Nat}
theorem fnR_box {α : Type} {ok : List Int → Prop} {sa : ShA α} {pre : α → Prop} {post : α → Int → Prop}
    (F : FnR P w K mg base CX0 k f (fun vs H Q _ => ∃ D as ws a, vs = V.ref D :: ws ∧ H D = some (.lst (as.map V.int)) ∧ ok as ∧ sa (hide H D) ws a ∧ pre a ∧ ∀ r as' H', post a r → ok as' → H' D = some (.lst (as'.map V.int)) → Same (hide H D) (hide H' D) → Q (.int r) H'))
    (hsa : ∀ (H : Hp) (D : Addr) ws a, H D = some (boxO D ok) → sa H ws a → sa (hide H D) ws a) : FnR P w K mg base CX0 k f (spG (aC (sBox ok) sa) (fun a => pre a.2) sInt (fun a r => post a.2 r)) := by
  intro A outer s H us vs Q E hr e0 r ⟨a, ⟨v, ws, e, ⟨p, ev, hp⟩, h2⟩, hpre, q⟩
  subst e ev
  obtain ⟨⟨as, its, n, hok, hz, hv, hget⟩, _, _⟩ := e0.hok p _ hp
  have hlst : ObjOk P w (upd H p (.lst (as.map V.int))) s.heap p (.lst (as.map V.int)) := ⟨by rw [List.length_map]; exact hz, its, n, hv, hget⟩
  have e1 : Env0 P w K mg base A outer s (upd H p (.lst (as.map V.int))) := by
    refine ⟨e0.frames, e0.mod, fun b o hb => ⟨(e0.bs b o hb).1, ?_⟩, e0.bsz, e0.funs, fun b hb => ?_, ?_, e0.bare⟩
    · have hn := (e0.bs b o hb).2
      rw [upd_ne fun z => by rw [z, hp] at hn; cases hn]
      exact hn
    · have hn := e0.frf b hb
      rw [upd_ne fun z => by rw [z, hp] at hn; cases hn]
      exact hn
    · exact HOk.write e0.hok (by rw [hp]; trivial) (.inl rfl) (fun b u _ h => h) ⟨_, hget⟩ hlst
  have key : hide (upd H p (.lst (as.map V.int))) p = hide H p := hide_upd'
  refine codeAny_mono (F A outer s _ us _ (fun v H2 => Q v (upd H2 p (boxO p ok)) ∧ ∃ as', ok as' ∧ H2 p = some (.lst (as'.map V.int))) E hr e1 r ⟨p, as, ws, a.2, rfl, upd_same, hok, by rw [key]; exact hsa H p ws a.2 hp h2, hpre, fun r' as' H' pr hok' hl sm => ⟨q r' _ _ pr ?_ rfl, as', hok', hl⟩⟩) fun rr s' hq => ?_
  · rw [key] at sm
    intro b o hb
    by_cases hbp : b = p
    · subst hbp
      rw [hp] at hb
      cases hb
      exact upd_same
    · rw [upd_ne hbp]
      have := sm b o (by rw [hide_ne hbp]; exact hb)
      rw [hide_ne hbp] at this
      exact this
  · cases rr with
    | error er => exact hq
    | ok fl =>
      cases fl with
      | ret u =>
        obtain ⟨v', H2, ho, hb, un, hk, rv, hQ, as', hok', hl⟩ := hq
        have hx := hk p _ hl
        refine ⟨v', upd H2 p (boxO p ok), ho, hb, ⟨fun b o h1 h2 => ?_, fun b o h1 h2 => ?_, fun b o h1 h2 h3 => ?_, un.there, fun b xs h1 => ?_, fun b o u h1 => ?_, fun b ps h1 => ?_⟩, ?_, rv, hQ⟩
        · exact un.keep b o h1 (by rw [upd_ne fun z => by rw [z, hp] at h2; cases h2]; exact h2)
        · exact un.slot b o h1 (by rw [upd_ne fun z => by rw [z, hp] at h2; cases h2]; exact h2)
        · have nb : b ≠ p := fun z => by rw [z, hp] at h2; cases h2
          rw [upd_ne nb]
          exact un.free b o h1 (by rw [upd_ne nb]; exact h2) h3
        · have nb : b ≠ p := fun z => by rw [z, hp] at h1; cases h1
          rw [upd_ne nb]
          exact un.tups b xs (by rw [upd_ne nb]; exact h1)
        · have nb : b ≠ p := fun z => by rw [z, hp] at h1; cases h1
          rw [upd_ne nb]
          exact un.frzs b o u (by rw [upd_ne nb]; exact h1)
        · have nb : b ≠ p := fun z => by rw [z, hp] at h1; cases h1
          obtain ⟨more, hm⟩ := un.tbls b ps (by rw [upd_ne nb]; exact h1)
          exact ⟨more, by rw [upd_ne nb]; exact hm⟩
        · obtain ⟨hz2, its2, n2, hv2, hget2⟩ := id hx
          exact HOk.write hk (by rw [hl]; trivial) (.inl rfl) (fun b u _ h => h) ⟨_, hget2⟩ (box_of hok' hx)
      | next => exact hq
      | brk => exact hq
      | cont => exact hq
theorem fnR_newbox {α : Type} {ok : List Int → Prop} {sa : ShA α} {pre : α → Prop}
    (F : FnR P w K mg base CX0 k f (fun vs H Q _ => ∃ a, sa H vs a ∧ pre a ∧ ∀ D as H', ok as → Same H H' → H' D = none → Q (.ref D) (upd H' D (.lst (as.map V.int))))) : FnR P w K mg base CX0 k f (spG sa pre (sBox ok) (fun _ _ => True)) := by
  intro A outer s H us vs Q E hr e0 r ⟨a, h2, hpre, q⟩
  refine codeAny_mono (F A outer s H us vs (fun v H2 => ∃ D as, v = .ref D ∧ ok as ∧ H2 D = some (.lst (as.map V.int)) ∧ Q v (upd H2 D (boxO D ok))) E hr e0 r ⟨a, h2, hpre, fun D as H' hok sm hn => ⟨D, as, rfl, hok, upd_same, ?_⟩⟩) fun rr s' hq => ?_
  · rw [upd_upd]
    exact q () _ _ trivial (same_upd sm (by
      cases z : H D with
      | none => rfl
      | some o => rw [sm _ _ z] at hn; cases hn)) ⟨D, rfl, upd_same⟩
  · cases rr with
    | error er => exact hq
    | ok fl =>
      cases fl with
      | ret u =>
        obtain ⟨v', H2, ho, hb, un, hk, rv, D, as, ev, hok, hl, hQ⟩ := hq
        have hx := hk D _ hl
        refine ⟨v', upd H2 D (boxO D ok), ho, hb, ⟨un.keep, un.slot, fun b o h1 h2 h3 => ?_, un.there, fun b xs h1 => ?_, fun b o u h1 => ?_, fun b ps h1 => ?_⟩, ?_, rv, hQ⟩
        · have z := un.free b o h1 h2 h3
          rw [upd_ne fun e => by rw [e, hl] at z; cases z]
          exact z
        · have z := un.tups b xs h1
          rw [upd_ne fun e => by rw [e, hl] at z; cases z]
          exact z
        · have z := un.frzs b o u h1
          rw [upd_ne fun e => by rw [e, hl] at z; cases z]
          exact z
        · obtain ⟨more, z⟩ := un.tbls b ps h1
          refine ⟨more, ?_⟩
          rw [upd_ne fun e => by rw [e, hl] at z; cases z]
          exact z
        · obtain ⟨hz2, its2, n2, hv2, hget2⟩ := id hx
          exact HOk.write hk (by rw [hl]; trivial) (.inl rfl) (fun b u _ h => h) ⟨_, hget2⟩ (box_of hok hx)
      | next => exact hq
      | brk => exact hq
      | cont => exact hq
/-- a def whose body is of the kind XD -/
theorem fn_xd {x qual : Str} {params : Arguments} {body : List Stmt} {scope : Scope} {kws : List (Str × V)} {fd : FuncData} {α : Type} {sa : ShA α} {cs : α → List Cell} {pre : α → Prop} {post : α → Int → Prop} {ok : List Int → Prop} {N ps : List Str} {n : Nat} (F : FunD K x qual params body scope [] kws f fd) (S : FnScope N ps scope) (hA : ArgC sa cs) (hl : ∀ a, (cs a).length + 1 = ps.length) (hn : ∀ a, N.length = (cs a).length + 1 + n)
    (hsa : ∀ (H : Hp) (D : Addr) ws a, H D = some (boxO D ok) → sa H ws a → sa (hide H D) ws a)
    (hb : ∀ (cdv : Value) (A : Around) (outer : List PySem.Env) (s : Shared) (H : Hp) (E : XK), Room k (A.deeper (envOfC qual scope s.heap.objs.size f cdv)) → ∀ a, pre a → ∀ as, ok as → ∀ D,
      XD (cxOf CX0 P w K mg base N qual scope f cdv A outer s H E).nox body D (Cell.no :: (cs a ++ List.replicate n .no)) as (fun r as' => post a r ∧ ok as'))
    (hbi : ∀ (kV doc pm : Value) (an : Option Addr) (cdv ct : Value) (us : List Value), us.length = ps.length → bindArgs (PySem.W.fnOf x qual params body scope .none kV doc pm an cdv ct) ⟨us, []⟩ = pure (ps.zip us)) : FnR P w K mg base CX0 (k + 1) f (spG (aC (sBox ok) sa) (fun a => pre a.2) sInt (fun a r => post a.2 r)) := by
  refine fnR_box (FnR.imp (FnOk.raw (fd := fd) (ps := ps) (sp := fun vs H Q _ => ∃ D as ws a, vs = V.ref D :: ws ∧ H D = some (.lst (as.map V.int)) ∧ ok as ∧ sa (hide H D) ws a ∧ pre a ∧ ∀ r as' H', post a r → ok as' → H' D = some (.lst (as'.map V.int)) → Same (hide H D) (hide H' D) → Q (.int r) H') ?_ (FunD.bindsN F hbi) .nil) fun vs H Q E h => by rw [List.append_nil]; exact h) hsa
  refine FunD.ok F S (fun vs H Q E ⟨D, as, ws, a, e, _, _, ha, _⟩ => by subst e; rw [List.length_cons, hA.len ha]; exact hl a) fun cdv A outer s H vs Q E hr ⟨D, as, ws, a, e, h1, hok, ha, hp, q⟩ => ?_
  subst e
  refine ⟨_, (hb cdv A outer s H E hr a hp as hok D (hide H D)).nox, ⟨rfl, h1, Same.refl _, ?_⟩, fun r as' H' ⟨pr, hok'⟩ hl' sm => q r as' H' pr hok' hl' sm⟩
  have hA2 : ArgC (aC (sCl D) sa) (fun a => Ce (sCl D) a.1 :: cs a.2) := argC_cons hA
  have E1 := env_start (N := N) (n := n) (vs := V.ref D :: ws) (a := ((), a)) hA2 (H := hide H D) ⟨_, _, rfl, rfl, ha⟩ (by show _ = (cs a).length + 1 + n; exact hn a)
  refine ⟨E1.len, fun i c hc => ?_⟩
  cases i with
  | zero =>
    cases hc
    trivial
  | succ i => exact E1.at_ (i + 1) c hc
end
end PL
set_option Elab.async false
set_option linter.all false
set_option maxRecDepth 100000
set_option maxHeartbeats 4000000
namespace PL
open PySem PySem.Spec
open PyProof.Rows hiding St
open L2
/-! ### tuple(zip(xs, ys)), two lists -/
structure Zs (z TI TO i1 i2 l1 l2 : Addr) (xs ys : Array Value) (N k : Nat) (h : Heap) : Prop where
  zip : (IsZip h z TI TO .none ∧ ∃ a b, IsPair h TO a b) ∨ ∃ T f oT, IsZipHeld h z TI TO T f ∧ h.get? T = some oT ∧ N ≤ T
  tI : IsPair h TI (.ref i1) (.ref i2)
  it1 : h.IsListIter i1 l1 k
  it2 : h.IsListIter i2 l2 k
  a1 : h.IsList l1 xs
  a2 : h.IsList l2 ys
/-- all below N -/
structure ZLt (z TI TO i1 i2 : Addr) (N : Nat) : Prop where
  z : z < N
  ti : TI < N
  to : TO < N
  i1 : i1 < N
  i2 : i2 < N
section
variable {prog : Program} {w : World} {A : Around} {E : Value → Shared → Prop} {s : Shared} {z TI TO i1 i2 l1 l2 : Addr} {xs ys : Array Value} {N k : Nat}
theorem Zs.keep {h h' : Heap} (Z : Zs z TI TO i1 i2 l1 l2 xs ys N k h) (S : Addr) (D : ZipApart z TI TO i1 i2 l1 l2) (hz : S ≠ z) (ht : S ≠ TI) (hto : S ≠ TO) (h1 : S ≠ i1) (h2 : S ≠ i2) (h3 : S ≠ l1) (h4 : S ≠ l2) (hS : S < N) (e : ∀ c o, c ≠ S → h.get? c = some o → h'.get? c = some o) : Zs z TI TO i1 i2 l1 l2 xs ys N k h' := by
  refine ⟨?_, e _ _ ht.symm Z.tI, Z.it1.at fun o q => e _ _ h1.symm q, Z.it2.at fun o q => e _ _ h2.symm q, Z.a1.at fun o q => e _ _ h3.symm q, Z.a2.at fun o q => e _ _ h4.symm q⟩
  rcases Z.zip with ⟨q, a, b, q2⟩ | ⟨T, f, oT, q, q2, q3⟩
  · exact .inl ⟨e _ _ hz.symm q, a, b, e _ _ hto.symm q2⟩
  · exact .inr ⟨T, f, oT, e _ _ hz.symm q, e _ _ (Nat.ne_of_gt (Nat.lt_of_lt_of_le hS q3)) q2, q3⟩
theorem Zs.step {x y : Value} {Q : Option Value → Shared → Prop} (D : ZipApart z TI TO i1 i2 l1 l2) (L : ZLt z TI TO i1 i2 N) (hN : N ≤ s.heap.objs.size) (Z : Zs z TI TO i1 i2 l1 l2 xs ys N k s.heap) (hx : xs[k]? = some x) (hy : ys[k]? = some y)
    (hQ : ∀ h', Zs z TI TO i1 i2 l1 l2 xs ys N (k + 1) h' → IsPair h' s.heap.objs.size x y → h'.objs.size = s.heap.objs.size + 1 → (∀ c o, c ≠ z → c ≠ TO → c ≠ i1 → c ≠ i2 → s.heap.get? c = some o → h'.get? c = some o) → Q (some (.ref s.heap.objs.size)) { s with heap := h' }) :
    wpAny (model prog w) A (pyNext (.ref z)) Q E s := by
  have := L.z
  have := L.to
  have := L.i1
  have := L.i2
  rcases Z.zip with ⟨q, a, b, q2⟩ | ⟨T, f, oT, q, q2, q3⟩
  · refine wpAny_pyNext_zip_item D q Z.tI q2 Z.it1 Z.it2 Z.a1 Z.a2 hx hy fun h' hz' hTO' h1' h2' hp hsz hk => hQ h' ⟨.inr ⟨s.heap.objs.size, false, _, hz', hp, hN⟩, hk _ _ D.TIz D.TITO D.TIi1 D.TIi2 Z.tI, h1', h2', Z.a1.at fun o e => hk _ _ D.l1z D.l1TO D.l1i1 D.l1i2 e, Z.a2.at fun o e => hk _ _ D.l2z D.l2TO D.l2i1 D.l2i2 e⟩ hp hsz hk
  · refine wpAny_pyNext_zip_item_held D q q2 Z.tI Z.it1 Z.it2 Z.a1 Z.a2 hx hy fun h' hz' h1' h2' hp hsz hk => hQ h' ⟨.inr ⟨T, true, _, hz', hk _ _ (Nat.ne_of_gt (Nat.lt_of_lt_of_le L.z q3)) (Nat.ne_of_gt (Nat.lt_of_lt_of_le L.i1 q3)) (Nat.ne_of_gt (Nat.lt_of_lt_of_le L.i2 q3)) q2, q3⟩, hk _ _ D.TIz D.TIi1 D.TIi2 Z.tI, h1', h2', Z.a1.at fun o e => hk _ _ D.l1z D.l1i1 D.l1i2 e, Z.a2.at fun o e => hk _ _ D.l2z D.l2i1 D.l2i2 e⟩ hp hsz fun c o c1 c2 c3 c4 e => hk c o c1 c3 c4 e
theorem Zs.stop {Q : Option Value → Shared → Prop} (hh : A.handled = none) (D : ZipApart z TI TO i1 i2 l1 l2) (Z : Zs z TI TO i1 i2 l1 l2 xs ys N k s.heap) (he : xs[k]? = none ∨ ys[k]? = none)
    (hQ : ∀ h', (∀ c o, c ≠ z → c ≠ TO → c ≠ i1 → c ≠ i2 → s.heap.get? c = some o → h'.get? c = some o) → Q none { s with heap := h' }) : wpAny (model prog w) A (pyNext (.ref z)) Q E s := by
  rcases Z.zip with ⟨q, a, b, q2⟩ | ⟨T, f, oT, q, q2, q3⟩
  · exact wpAny_pyNext_zip_end hh D q Z.tI q2 Z.it1 Z.it2 Z.a1 Z.a2 he hQ
  · exact wpAny_pyNext_zip_end_held hh D q q2 Z.tI Z.it1 Z.it2 Z.a1 Z.a2 he fun h' hk => hQ h' fun c o c1 c2 c3 c4 e => hk c o c1 c3 c4 e
def ZItems (xs ys : Array Value) (N : Nat) (acc : Array Value) (k : Nat) (h : Heap) : Prop := acc.size = k ∧ ∀ j, j < k → ∃ T x y, acc[j]? = some (.ref T) ∧ N ≤ T ∧ xs[j]? = some x ∧ ys[j]? = some y ∧ IsPair h T x y ∧ ∀ i, i < j → acc[i]? ≠ some (.ref T)
end
section
variable {P : Program} {w : World}
end
end PL
set_option Elab.async false
set_option linter.all false
set_option maxRecDepth 100000
set_option maxHeartbeats 4000000
namespace PL
open PySem PySem.Spec
open PyProof.Rows hiding St
open L2
def refV : Value → V
  | .ref a => .ref a
  | _ => .non
section
variable {X : Cx} {Γ : List Cell} {α β : Type} {s : Sh α} {t : Sh β} {e1 e2 : Expr} {as : List α} {bs : List β} {p p2 pos pos2 : Pos} {ta : TA}
end
end PL
set_option Elab.async false
set_option linter.all false
set_option maxRecDepth 100000
set_option maxHeartbeats 4000000
namespace PL
open PySem PySem.Spec
open PyProof.Rows hiding St
open L2
section
variable {X : Cx} {Γ : List Cell} {α β γ ρ : Type} {s : Sh α} {t : Sh β} {u : Sh γ} {P : α → Prop} {R : γ → Prop} {e1 e3 : Expr} {G : Goal ρ} {rest : List Stmt} {pos p p1 p2 p3 p4 p5 p6 : Pos} {x y z : Str} {k1 k2 : Nat}
end
end PL
set_option Elab.async false
set_option linter.all false
set_option maxRecDepth 100000
set_option maxHeartbeats 4000000
namespace PL
open PySem PySem.Spec
open PyProof.Rows hiding St
open L2
/-! ### the script: a list that is only read -/
def sSc (K : Fg) : Sh (List Int) := fun H v l => ∃ p, v = .ref p ∧ SqL K H p (l.map V.int)
instance {K : Fg} : Mo (sSc K) := ⟨fun e ⟨p, h1, h2⟩ => ⟨p, h1, SqL.ext h2 e⟩⟩
section
variable {X : Cx} {Γ : List Cell} {e e1 e2 : Expr} {pos p p2 : Pos} {l : List Int} {a i : Int}
theorem x_ixS (h : XE X e1 Γ (sSc X.K) (· = l)) (hi : XE X e2 Γ sInt (· = i)) (k : atI l i = some a) (hx : PlainIx e2 := by exact fun _ _ => rfl) : XE X (.Subscript e1 e2 pos) Γ sInt (· = a) :=
  weakE (pe_ix ix_list h hi hx) fun σ H Q ⟨E, q⟩ => ⟨E, fun as v H1 pa e1 sv => ⟨E.up e1, fun i' w H2 pi e2 si => by
    subst pa pi
    obtain ⟨p, rfl, h2⟩ := sv
    cases si
    obtain ⟨y, h6, h7⟩ := atI_P (Paired.ints (H := H2)) k
    exact ⟨p, _, i', y, rfl, rfl, SqL.ext h2 e2, h6, q a y H2 rfl (e1.trans e2) h7⟩⟩⟩
theorem co_lenS {K : Fg} : CallOp (fun xs H Q => ∃ p ys, xs = [.ref p] ∧ (SqL K H p ys ∨ SqT K H p ys) ∧ Q (.int ys.length) H) (aC (sSc K) aN) sInt (fun _ => True) (fun a c => c = (a.1.length : Int)) := fun H xs a Q ⟨v, w, e, h1, h2⟩ _ k => by
  obtain ⟨p, rfl, h3⟩ := h1
  cases h2
  subst e
  exact ⟨p, _, rfl, .inl h3, k _ _ H rfl (Same.refl H) (by show V.int _ = V.int _; rw [List.length_map])⟩
theorem x_lenS (hm : X.mg "len" = none) (h : XE X e Γ (sSc X.K) (· = l)) (hg : Gl X "len" := by rfl) (he : starEach [e] X.env = (false, eval e X.env) :: starEach [] X.env := by rfl) (hpl : (backTo pos (starEach [] X.env)).any (·.1) = false := by rfl) :
    XE X (.Call (.Name "len" p) [e] [] pos) Γ sInt (· = (l.length : Int)) := x_callB (f := fun a : List Int × Unit => (a.1.length : Int)) (a := (l, ())) call_len_seq co_lenS hm PySem.boot_len (xa h xa0 he) trivial hg (by decide) (by decide) he hpl
theorem so_sc {K : Fg} (H : Hp) (v : V) (as : List Int) (lo hi : Option Int) (Q : VK) (h : sSc K H v as) (k : ∀ w H', Same H H' → sL K sInt H' w (cutA as lo hi) → Q w H') : rSlL K v lo hi H Q := by
  obtain ⟨p, rfl, h2⟩ := h
  refine ⟨p, _, rfl, h2, fun q hq => k _ _ (Same.new hq) ⟨q, _, rfl, upd_same, cut_paired Paired.ints⟩⟩
theorem x_slS {lo hi : Option Expr} {i j : Option Int} (h : XE X e Γ (sSc X.K) (· = l)) (hl : PO X lo (fun σ H Q => Env H σ Γ ∧ ∀ H', Same H H' → Q i H')) (hh : PO X hi (fun σ H Q => Env H σ Γ ∧ ∀ H', Same H H' → Q j H')) :
    XE X (.Subscript e (.Slice lo hi none p2) pos) Γ (sL X.K sInt) (· = cutA l i j) :=
  weakE (pe_slice sl_list h hl hh) fun σ H Q ⟨E, k⟩ => ⟨E, fun as' v H1 pa sm sv => ⟨E.up sm, fun H2 s2 => ⟨E.up (sm.trans s2), fun H3 s3 => so_sc H3 v as' i j Q (Mo.up (s2.trans s3) sv) fun w H' s4 sw => by
    subst pa
    exact k _ w H' rfl (((sm.trans s2).trans s3).trans s4) sw⟩⟩⟩
end
end PL
set_option Elab.async false
set_option linter.all false
set_option maxRecDepth 100000
set_option maxHeartbeats 4000000
namespace PL
open PySem PySem.Spec
open PyProof.Rows hiding St
open L2
section
variable {P : Program} {w : World} {K : PySem.W.Frag} {mg : Str → Option Value} {base : Heap} {x qual : Str} {params : Arguments} {body : List Stmt} {scope : Scope} {dvs : List V} {kws : List (Str × V)} {f : Addr} {fd : FuncData}
theorem fn_xOk {α ρ : Type} {sa : ShA α} {cs : α → List Cell} {pre : α → Prop} {sr : Sh ρ} {post : α → ρ → Prop} {N ps : List Str} {k n : Nat} (F : FunD K x qual params body scope [] kws f fd) (S : FnScope N ps scope) (hA : ArgC sa cs) (hl : ∀ a, (cs a).length = ps.length) (hn : ∀ a, N.length = (cs a).length + n)
    (hb : ∀ (cdv : Value) (A : Around) (outer : List PySem.Env) (s : Shared) (H : Hp) (E : XK), Room k (A.deeper (envOfC qual scope s.heap.objs.size f cdv)) → ∀ a, pre a →
      XB (cxOf CX0 P w K mg base N qual scope f cdv A outer s H E).nox body (cs a ++ List.replicate n .no) .no { sr := sr, R := post a, N := fun _ _ => ∃ r, post a r ∧ ∀ H, sr H .non r }) : FnOk P w K mg base CX0 (k + 1) f fd ps (spG sa pre sr post) := by
  refine FunD.ok F S (fun vs H Q E ⟨a, ha, _⟩ => by rw [hA.len ha]; exact hl a) fun cdv A outer s H vs Q E hr ⟨a, ha, hp, k⟩ => ?_
  refine ⟨_, (hb cdv A outer s H E hr a hp H).nox, ⟨H, rfl, Same.refl H, env_start hA ha (hn a)⟩, fun r v H' pr sm sv => k r v H' pr sm sv, fun Γ' o' σ' B' H' ⟨r, pr, z⟩ E' => k r .non H' pr (E'.env.1.trans E'.env.2.1) (z H'), fun _ _ _ _ _ n => n.elim, fun _ _ _ _ _ n => n.elim⟩
end
end PL
set_option Elab.async false
set_option linter.all false
set_option maxRecDepth 100000
set_option maxHeartbeats 4000000
namespace PL
open PySem PySem.Spec
open PyProof.Rows hiding St
open L2
/-! ### cls(..), C(), C.m(..) of classmethods -/
section
variable {X : Cx} {Γ : List Cell} {α β γ : Type} {s : Sh α} {e : Expr} {es : List Expr} {pos p apos sp_ : Pos} {a : α} {b : β} {C f g pp : Addr} {k : Nat} {x m : Str} {mc : Value} {pl : Sem Bool}
theorem pe_makeV {te : TE} {t : TA} {sp : Sp} (hn : PE X (.Name x p) te) (M : Mk X.K C f) (F : FnR X.prog X.w X.K X.mg X.base CX0 k f sp) (hr : Room (k + 1) X.A) (ha : PA X (e :: es) t)
    (he : starEach (e :: es) X.env = (false, eval e X.env) :: starEach es X.env := by rfl) (hpl : (backTo pos (starEach es X.env)).any (·.1) = false := by rfl) :
    PE X (.Call (.Name x p) (e :: es) [] pos) (fun σ H Q => te σ H fun y H1 => y = .ref C ∧ StX.tMakeR C sp E0 t σ H1 Q) := by
  refine ⟨fun pins s σ H Q I h => ?_⟩
  refine wpAny_Call_Name_kw (thn (hn.run pins s σ H _ I h) fun u s1 ⟨y, H1, I1, ry, ey, q⟩ => ?_)
  subst ey
  obtain rfl : u = Value.ref C := ry
  refine PySem.W.callWith_K (h₀ := X.base) I.ok.mod.kin M.kp (thn (ha.run pos pins s1 σ H1 _ I1 q) fun us s2 ⟨vs, H2, I2, r, q2⟩ => ⟨I2.kIn, ?_⟩) he hpl
  exact StX.run_makeR M F hr (fun _ _ _ _ _ _ _ z => z.elim) I2 r q2
theorem pe_makeVS {ten te : TE} {sp : Sp} (hn : PE X (.Name x p) ten) (M : Mk X.K C f) (F : FnR X.prog X.w X.K X.mg X.base CX0 k f sp) (hr : Room (k + 1) X.A) (he : PE X e te)
    (hst : starEach [.Starred e sp_] X.env = [(true, eval e X.env)] := by rfl) :
    PE X (.Call (.Name x p) [.Starred e sp_] [] pos) (fun σ H Q => ten σ H fun z H0 => z = .ref C ∧ te σ H0 fun y H1 => ∃ a xs, y = V.ref a ∧ (SqT X.K H1 a xs ∨ SqL X.K H1 a xs) ∧ ∀ x dx, H1 x = Option.none → H1 dx = Option.none → dx ≠ x →
      sp (V.ref x :: xs) (upd (upd H1 dx (.own x)) x (.ins C dx [])) (fun v H2 => v = .non ∧ Q (.ref x) H2) E0) := by
  refine ⟨fun pins s σ H Q I h => ?_⟩
  refine wpAny_Call_Name_kw (thn (hn.run pins s σ H _ I h) fun u s0 ⟨z, H0, I0, rz, ez, h⟩ => ?_)
  subst ez
  obtain rfl : u = Value.ref C := rz
  refine PySem.W.callWith_S (h₀ := X.base) I.ok.mod.kin M.kp (thn (he.run pins s0 σ H0 _ I0 h) fun v s1 ⟨y, H1, I1, ry, a, xs, ey, hxs, q⟩ => ?_) hst
  subst ey
  obtain rfl : v = Value.ref a := ry
  exact StX.star_any I1 hxs fun us s2 I2 rv => ⟨I2.kIn, StX.run_makeR M F hr (fun _ _ _ _ _ _ _ z => z.elim) I2 rv q⟩
theorem pe_make0R {sp : Sp} (M : Mk X.K C f) (F : FnR X.prog X.w X.K X.mg X.base CX0 k f sp) (hr : Room (k + 1) X.A) (hg : Gl X x) (hm : X.mg x = some (.ref C)) (hd : (x == ("__debug__" : Str)) = false := by decide) :
    PE X (.Call (.Name x p) [] [] pos) (fun σ H Q => ∀ x dx, H x = Option.none → H dx = Option.none → dx ≠ x → sp (V.ref x :: []) (upd (upd H dx (.own x)) x (.ins C dx [])) (fun v H2 => v = .non ∧ Q (.ref x) H2) E0) := by
  refine ⟨fun pins s σ H Q I h => ?_⟩
  refine wpAny_Call_Name_kw (ld_glob I hg hm ?_ hd)
  exact PySem.W.callWith_K0 I.kIn M.kp (StX.run_makeR (us := []) (vs := []) M F hr (fun _ _ _ _ _ _ _ z => z.elim) I .nil h)
theorem x_makeV {sa : ShA β} [MoA sa] {pre : β → Prop} {sr : Sh γ} {post : β → γ → Prop} {Pa : β → Prop} (hn : XE X (.Name x p) Γ (sCl C) (· = ())) (M : Mk X.K C f) (F : FnR X.prog X.w X.K X.mg X.base CX0 k f (spI C sa pre sr post)) (hr : Room (k + 1) X.A) (h : XA X (e :: es) Γ sa Pa) (hp : ∀ a, Pa a → pre a)
    (he : starEach (e :: es) X.env = (false, eval e X.env) :: starEach es X.env := by rfl) (hpl : (backTo pos (starEach es X.env)).any (·.1) = false := by rfl) :
    XE X (.Call (.Name x p) (e :: es) [] pos) Γ sr (fun r => ∃ a, Pa a ∧ post a r) :=
  weakE (pe_makeV hn M F hr h he hpl) fun σ H Q ⟨E, q⟩ => ⟨E, fun _ v H1 _ sm0 sv0 => ⟨sv0, E.up sm0, fun a vs H1 pa sm sv x dx h1 h2 h3 => make_sp sv (hp a pa) (fun r v H' pr s2 sr => q r v H' ⟨a, pa, pr⟩ ((sm0.trans sm).trans s2) sr) x dx h1 h2 h3⟩⟩
theorem x_makeVU {pre : List α → Prop} {sr : Sh γ} {post : List α → γ → Prop} {Pa : List α → Prop} [Mo s] (hn : XE X (.Name x p) Γ (sCl C) (· = ())) (M : Mk X.K C f) (F : FnR X.prog X.w X.K X.mg X.base CX0 k f (spI C (aS s) pre sr post)) (hr : Room (k + 1) X.A) (h : XE X e Γ (sU X.K s) Pa) (hp : ∀ a, Pa a → pre a)
    (hst : starEach [.Starred e sp_] X.env = [(true, eval e X.env)] := by rfl) :
    XE X (.Call (.Name x p) [.Starred e sp_] [] pos) Γ sr (fun r => ∃ a, Pa a ∧ post a r) :=
  weakE (pe_makeVS hn M F hr h hst) fun σ H Q ⟨E, q⟩ => ⟨E, fun _ v H1 _ sm0 sv0 => ⟨sv0, E.up sm0, fun a v H1 pa sm ⟨p, xs, e1, h1, h2⟩ => ⟨p, xs, e1, .inl h1, fun x dx g1 g2 g3 => make_sp (sa := aS s) h2 (hp a pa) (fun r v H' pr s2 sr => q r v H' ⟨a, pa, pr⟩ ((sm0.trans sm).trans s2) sr) x dx g1 g2 g3⟩⟩⟩
theorem x_make0 {pre : List α → Prop} {sr : Sh γ} {post : List α → γ → Prop} [Mo s] (M : Mk X.K C f) (F : FnR X.prog X.w X.K X.mg X.base CX0 k f (spI C (aS s) pre sr post)) (hr : Room (k + 1) X.A) (hm : X.mg x = some (.ref C)) (hp : pre []) (hg : Gl X x := by rfl) (hd : (x == ("__debug__" : Str)) = false := by decide) :
    XE X (.Call (.Name x p) [] [] pos) Γ sr (post []) :=
  weakE (pe_make0R M F hr hg hm hd) fun σ H Q ⟨E, q⟩ x dx h1 h2 h3 => make_sp (sa := aS s) (b := []) .nil hp (fun r v H' pr s2 sr => q r v H' pr s2 sr) x dx h1 h2 h3
/-- C.m(e, ..) -/
theorem x_cmeth {sa : ShA β} {pre : Unit × β → Prop} {sr : Sh γ} {post : Unit × β → γ → Prop} {Pa : β → Prop} (r : ClX.CRead X.K C mc) (c : ClX.CMet X.K C mc m pp g) (F : FnR X.prog X.w X.K X.mg X.base CX0 k g (spG (aC (sCl C) sa) pre sr post)) (hr : Room k X.A) (hm : X.mg x = some (.ref C)) (h : XA X (e :: es) Γ sa Pa) (hp : ∀ b, Pa b → pre ((), b))
    (hg : Gl X x := by rfl) (hdb : (x == ("__debug__" : Str)) = false := by decide)
    (hst : starEach (e :: es) X.env = (false, eval e X.env) :: starEach es X.env := by rfl) (hpl : (backTo pos (starEach es X.env)).any (·.1) = false := by rfl)
    (ht : eval (.Call (.Attribute (.Name x p) m apos) (e :: es) [] pos) X.env = (do
      let ov ← eval (.Name x p) X.env
      standAt apos.atName
      let (f, first) ← holding [ov] (getMethod ov m pl)
      callWith pos f first (backTo pos (starEach (e :: es) X.env)) (backToKw pos (keywordEach [] X.env))) := by rfl) :
    XE X (.Call (.Attribute (.Name x p) m apos) (e :: es) [] pos) Γ sr (fun r => ∃ b, Pa b ∧ post ((), b) r) :=
  weakE (ClX.pe_cmeth (E := E0) (x_cl (Γ := Γ) hm hg hdb) r c F hr pass0 h hst hpl ht) fun σ H Q ⟨E, q⟩ => ⟨E, fun _ v H1 _ sm sv => ⟨sv, E.up sm, fun b' vs H2 pb s2 sb => ⟨((), b'), ⟨_, _, rfl, rfl, sb⟩, hp b' pb, fun r v H' pr s3 sr => q r v H' ⟨b', pb, pr⟩ ((sm.trans s2).trans s3) sr⟩⟩⟩
end
instance {C : Addr} : Mo (sCl C) := ⟨fun _ h => h⟩
end PL
set_option Elab.async false
set_option linter.all false
set_option maxRecDepth 100000
set_option maxHeartbeats 4000000
namespace PL
open PySem PySem.Spec
open PyProof.Rows hiding St
open L2
theorem xw_eq {X : Cx} {e : Expr} {Γ : List Cell} {a a' : Bool} (h : XW X e Γ (· = a)) (k : a = a') : XW X e Γ (· = a') := k ▸ h
/-! ### a, b, c = e -/
section
variable {X : Cx} {Γ : List Cell} {o : Own} {α β γ ρ : Type} {s : Sh α} {t : Sh β} {u : Sh γ} {e : Expr} {G : Goal ρ} {rest : List Stmt} {pos p1 p2 p3 p4 : Pos} {x y z : Str}
theorem xb_unp3 (i j k : Nat) {k1 : Nat} [m : Mo s] [n : Mo t] [q : Mo u] {Pp : α × β × γ → Prop} (hc : X.calm = true) (hN : X.N.Nodup) (he : EF X e Γ o (sT X.K s t u) Pp) (h : ∀ a b c, Pp (a, b, c) → XB X rest (((Γ.set i (.is s m a)).set j (.is t n b)).set k (.is u q c)) o G)
    (ho : o.isAt i = false := by rfl) (ho2 : o.isAt j = false := by rfl) (ho3 : o.isAt k = false := by rfl)
    (hi : X.N[i]? = some x := by rfl) (hj : X.N[j]? = some y := by rfl) (hk : X.N[k]? = some z := by rfl) (hx : Loc X.env.scope x := by first | exact Or.inl rfl | exact Or.inr rfl) (hy : Loc X.env.scope y := by first | exact Or.inl rfl | exact Or.inr rfl) (hz : Loc X.env.scope z := by first | exact Or.inl rfl | exact Or.inr rfl)
    (hfx : X.fn x = true ∨ X.env.scope.names.lookup x = some .local := by first | exact .inl rfl | exact .inr rfl) (hfy : X.fn y = true ∨ X.env.scope.names.lookup y = some .local := by first | exact .inl rfl | exact .inr rfl) (hfz : X.fn z = true ∨ X.env.scope.names.lookup z = some .local := by first | exact .inl rfl | exact .inr rfl)
    (hn : (assignEach [.Name x p1, .Name y p2, .Name z p4] X.env).length = 3 := by rfl) (hst : (assignEach [.Name x p1, .Name y p2, .Name z p4] X.env).findIdx? (·.1) = none := by rfl)
    (g1 : (assignEach [.Name x p1, .Name y p2, .Name z p4] X.env).map (·.2) = assign (.Name x p1) X.env :: (assignEach [.Name y p2, .Name z p4] X.env).map (·.2) := by rfl) (g2 : (assignEach [.Name y p2, .Name z p4] X.env).map (·.2) = assign (.Name y p2) X.env :: (assignEach [.Name z p4] X.env).map (·.2) := by rfl) (g3 : (assignEach [.Name z p4] X.env).map (·.2) = assign (.Name z p4) X.env :: (assignEach [] X.env).map (·.2) := by rfl)
    (hs : swapsWithSole [.Tuple [.Name x p1, .Name y p2, .Name z p4] k1 p3] e pos.line X.env = pure false := by rfl) (hw : swappedStores [.Tuple [.Name x p1, .Name y p2, .Name z p4] k1 p3] e X.env = pure none := by rfl)
    (h1 : (assignEach [.Tuple [.Name x p1, .Name y p2, .Name z p4] k1 p3] X.env).map (·.2) = [assign (.Tuple [.Name x p1, .Name y p2, .Name z p4] k1 p3) X.env] := by rfl) : XB X (.Assign [.Tuple [.Name x p1, .Name y p2, .Name z p4] k1 p3] e pos :: rest) Γ o G :=
  xb_consP (ι := ULift (α × β × γ)) (A := fun a => Pp a.down) (Γ' := fun a => ((Γ.set i (.is s m a.down.1)).set j (.is t n a.down.2.1)).set k (.is u q a.down.2.2)) (o' := fun _ => o)
    (fun H0 => ps_asg (he H0) (pg_tup hc (pgs_cons (pg_name (i := i) hN hi hx hfx) (pgs_cons (pg_name (i := j) hN hj hy hfy) (pgs_cons (pg_name (i := k) hN hk hz hfz) pgs_nil g3) g2) g1) hn hst) hs hw h1) (fun a pa => h a.down.1 a.down.2.1 a.down.2.2 pa) fun H0 D σ H ⟨⟨B, E⟩, g⟩ => ⟨B, E, fun a v B' H' pa E' sv => by
      obtain ⟨r, a1, b1, c1, rfl, h2, h3, h4, h5⟩ := sv
      exact ⟨r, [a1, b1, c1], rfl, Same.sqt E'.env.2.1 h2, rfl, a1, [b1, c1], rfl, b1, [c1], rfl, c1, [], rfl, rfl, ⟨a⟩, pa, ⟨B', ((E'.set h3 ho).set h4 ho2).set h5 ho3⟩, g⟩⟩
end
end PL
set_option Elab.async false
set_option linter.all false
set_option maxRecDepth 100000
set_option maxHeartbeats 4000000
namespace PL
open PySem PySem.Spec
open PyProof.Rows hiding St
open L2
/-! ### texts -/
section
variable {X : Cx} {C f : Addr} {k : Nat} {sp : Sp}
/-- str(o), o an instance whose class has a __str__ -/
theorem str_own (F : FnR X.prog X.w X.K X.mg X.base CX0 k f sp) (m : OwnM X.K C "__str__" f) (hr : Room (k + 2) X.A) : CallR X (.type "str") (fun xs H Q => ∃ a dx fs, xs = [.ref a] ∧ H a = some (.ins C dx fs) ∧ sp [.ref a] H (fun v H' => ∃ y, v = .str y ∧ Q (.str y) H') E0) := by
  intro pins s σ H xs us Q I r h
  obtain ⟨a, dx, fs, rfl, ha, q⟩ := h
  cases r with
  | cons r1 r2 =>
    cases r2
    cases r1
    obtain ⟨ox, od, J, _⟩ := inst_of I ha
    refine PySem.W.kso_call hr.in1.in1.units0 I.kIn J m.at_ m.fn ?_
    refine wpAny_call (codeAny_mono (F X.A.in1.in1 X.stack s H [.ref a] [.ref a] _ E0 hr.in1.in1 I.env0.in1.in1 (.cons rfl .nil) q) fun r s' hq => ?_)
    cases r with
    | error e => exact hq.elim
    | ok fl =>
      cases fl with
      | ret u =>
        obtain ⟨v, H', I', rv, y, rfl, qn⟩ := I.after hq
        obtain ⟨t, rfl⟩ := rv
        exact ⟨.str y, H', I', ⟨t, rfl⟩, qn⟩
      | next => exact False.elim hq
      | brk => exact False.elim hq
      | cont => exact False.elim hq
end
section
variable {X : Cx} {Γ : List Cell} {α β : Type} {s : Sh α} {C : Addr} {e o e1 e2 : Expr} {es : List Expr} {pos p apos : Pos} {a : α} {i : Int} {y y1 y2 sep : Str} {ys : List Str}
theorem co_strOwn {pre : α × Unit → Prop} {F1 : α × Unit → Str} (hs : InsS C s) : CallOp (fun xs H Q => ∃ a dx fs, xs = [.ref a] ∧ H a = some (.ins C dx fs) ∧ spD (aC s aN) pre sStr F1 [.ref a] H (fun v H' => ∃ y, v = .str y ∧ Q (.str y) H') E0) (aC s aN) sStr pre (fun a c => c = F1 a) := fun H xs a Q ⟨v, w, e, h1, h2⟩ hp q => by
  cases h2
  obtain ⟨p, dx, fs, rfl, hh⟩ := hs H v a.1 h1
  subst e
  refine ⟨p, dx, fs, rfl, hh, a, ⟨_, _, rfl, h1, rfl⟩, hp, fun r v H' pr sm sv => ?_⟩
  cases sv
  exact ⟨r, rfl, q r _ H' pr sm rfl⟩
theorem co_strI : CallOp (fun xs H Q => ∃ i : Int, xs = [.int i] ∧ i.natAbs.log2 < 1920 ∧ Q (.str (toString i)) H) (aC sInt aN) sStr (fun a => a.1.natAbs.log2 < 1920) (fun a c => c = (toString a.1 : String)) := fun H xs a Q ⟨v, w, e, h1, h2⟩ hp q => by
  cases h2
  cases h1
  subst e
  exact ⟨a.1, rfl, hp, q _ _ H rfl (Same.refl H) rfl⟩
theorem x_strI (hm : X.mg "str" = none) (h : XE X e Γ sInt (· = i)) (hb : i.natAbs.log2 < 1920) (hg : Gl X "str" := by rfl) (hst : starEach [e] X.env = (false, eval e X.env) :: starEach [] X.env := by rfl) (hpl : (backTo pos (starEach [] X.env)).any (·.1) = false := by rfl) : XE X (.Call (.Name "str" p) [e] [] pos) Γ sStr (· = (toString i : String)) :=
  xe_eq (x_callT (f := fun a : Int × Unit => ((toString a.1 : String) : Str)) call_str_int co_strI hm rfl (xa h xa0 hst) hb hg (by decide) (by decide) hst hpl) rfl
/-- {e} of a text, of an int -/
theorem x_fmtS (h : XE X e Γ sStr (· = y)) (hy : y.length ≤ 16777216) : XE X (.FormattedValue e (-1) none pos) Γ sStr (· = y) := weakE (pe_fmt h) fun σ H Q ⟨E, q⟩ => ⟨E, fun a v H1 pa sm sv => by
  subst pa
  cases sv
  exact .inl ⟨_, rfl, hy, q _ _ H1 rfl sm rfl⟩⟩
theorem x_fmtI (h : XE X e Γ sInt (· = i)) (hb : i.natAbs.log2 < 1920) : XE X (.FormattedValue e (-1) none pos) Γ sStr (· = (toString i : String)) := weakE (pe_fmt h) fun σ H Q ⟨E, q⟩ => ⟨E, fun a v H1 pa sm sv => by
  subst pa
  cases sv
  exact .inr ⟨_, rfl, hb, q _ _ H1 rfl sm rfl⟩⟩
/-- the parts of an f-string -/
inductive XJ (X : Cx) (Γ : List Cell) : List Expr → List Str → Prop where
  | nil : XJ X Γ [] []
  | cons {e : Expr} {es : List Expr} {y : Str} {ys : List Str} (h : XE X e Γ sStr (· = y)) (r : XJ X Γ es ys) : XJ X Γ (e :: es) (y :: ys)
def catS (acc : Str) : List Str → Str
  | [] => acc
  | y :: ys => catS (acc ++ y) ys
/-- how long it gets -/
def fitS (acc : Str) : List Str → Prop
  | [] => True
  | y :: ys => (acc ++ y).length ≤ 16777216 ∧ fitS (acc ++ y) ys
theorem XJ.pj {X : Cx} {Γ : List Cell} {es : List Expr} {ys : List Str} (h : XJ X Γ es ys) : ∃ ts, PJ X es ts ∧ ∀ (σ : L2.St) (H : Hp) (acc : Str) (Q : Str → Hp → Prop), Env H σ Γ → fitS acc ys → (∀ H', Same H H' → Q (catS acc ys) H') → tJs ts acc σ H Q := by
  induction h with
  | nil => exact ⟨[], .nil, fun σ H acc Q E _ k => k H (Same.refl H)⟩
  | @cons e es y ys h _ ih =>
    obtain ⟨ts, p, k⟩ := ih
    refine ⟨_ :: ts, .cons h p, fun σ H acc Q E hf q => ⟨E, fun a v H1 pa sm sv => ?_⟩⟩
    subst pa
    cases sv
    exact ⟨_, rfl, hf.1, k σ H1 _ Q (E.up sm) hf.2 fun H' sm2 => q H' (sm.trans sm2)⟩
theorem x_joined (h : XJ X Γ (e1 :: e2 :: es) ys) (hf : fitS Str.empty ys) : XE X (.JoinedStr (e1 :: e2 :: es) pos) Γ sStr (· = catS Str.empty ys) := by
  obtain ⟨ts, p, k⟩ := h.pj
  exact weakE (pe_joined p) fun σ H Q ⟨E, q⟩ => k σ H Str.empty _ E hf fun H' sm => q _ _ H' rfl sm rfl
/-- sep.join(a list of texts) -/
theorem paired_str {H : Hp} : ∀ {xs : List V} {ys : List Str}, Paired (sStr H) xs ys → xs = ys.map V.str
  | _, _, .nil => rfl
  | _, _, .cons r t => by
    rw [List.map_cons, ← paired_str t]
    cases r
    rfl
theorem x_joinL (ho : XE X o Γ sStr (· = sep)) (he : XE X e Γ (sL X.K sStr) (· = ys)) (hz : (ys.map (·.length)).sum + ys.length * sep.length ≤ 16777216) (hs : starEach [e] X.env = [(false, eval e X.env)] := by rfl) (hbase : attributeBase o "join" X.env (eval o X.env) = eval o X.env := by rfl) (hline : (apos.endLine == pos.line) = true := by rfl) :
    XE X (.Call (.Attribute o "join" apos) [e] [] pos) Γ sStr (· = Txt.join sep ys) := weakE (pe_join ho he hs hbase hline) fun σ H Q ⟨E, q⟩ => ⟨E, fun a v H1 pa sm sv => by
  subst pa
  cases sv
  refine ⟨⟨_, rfl⟩, E.up sm, fun l w H2 pl sm2 sw => ?_⟩
  subst pl
  obtain ⟨p, xs, rfl, h2, h3⟩ := sw
  have e := paired_str h3
  subst e
  exact ⟨_, p, _, rfl, rfl, .inl (SqL.of h2), hz, q _ _ H2 rfl (sm.trans sm2) rfl⟩⟩
end
/-! equality of texts -/
theorem o2_eqS : Op2 rEq sStr sStr sBl (fun _ _ => True) (fun a b c => c = decide (a = b)) := fun H x y a b Q h1 h2 _ k => by
  cases h1
  cases h2
  refine ⟨rfl, k (decide (a = b)) (.bl (decide (V.str a = V.str b))) H rfl (Same.refl H) ?_⟩
  show V.bl _ = V.bl _
  congr 1
  simp
theorem o2_neS : Op2 rNe sStr sStr sBl (fun _ _ => True) (fun a b c => c = !decide (a = b)) := fun H x y a b Q h1 h2 _ k => by
  cases h1
  cases h2
  refine ⟨rfl, k (!decide (a = b)) (.bl (!decide (V.str a = V.str b))) H rfl (Same.refl H) ?_⟩
  show V.bl _ = V.bl _
  congr 2
  simp
theorem len_app (a b : Str) : (a ++ b).length = a.length + b.length := by
  show (a.cps ++ b.cps).size = _
  rw [Array.size_append]
  rfl
end PL
set_option Elab.async false
set_option linter.all false
set_option maxRecDepth 100000
set_option maxHeartbeats 4000000
namespace PL
open PySem PySem.Spec
open PyProof.Rows hiding St
open L2
section
variable {X : Cx} {Γ : List Cell} {α β γ : Type} {s : Sh α} {o : Expr} {pos apos : Pos} {a : α} {C f : Addr} {k : Nat} {m : Str}
/-- o.m() -/
theorem pe_meth0R {ta : TE} {sp : Sp} {pl : Sem Bool} (he : PE X o ta) (c : Cls X.K C) (hm : Meth X.K C m f) (F : FnR X.prog X.w X.K X.mg X.base CX0 k f sp) (hr : Room k X.A)
    (ht : eval (.Call (.Attribute o m apos) [] [] pos) X.env = (do
      let ov ← eval o X.env
      standAt apos.atName
      let (f, first) ← holding [ov] (getMethod ov m pl)
      callWith pos f first (backTo pos (starEach [] X.env)) (backToKw pos (keywordEach [] X.env))) := by rfl) :
    PE X (.Call (.Attribute o m apos) [] [] pos) (tMethR C m sp E0 ta tNil) := by
  refine ⟨fun pins s σ H Q I h => ?_⟩
  refine PySem.W.methodCall_KW (pl := pl) (thn (he.run pins s σ H _ I h) fun u s1 ⟨x, H1, I1, rx, a, dx, fs, ex, ea, l, q⟩ => ?_) ht
  subst ex
  obtain rfl : u = Value.ref a := rx
  refine getmeth_ok I1 ea c hm l ?_
  exact PySem.W.callWith_K0 (first := [.ref a]) I1.kIn hm.kp (wpAny_call (run_fnR (us := [.ref a]) (vs := [.ref a]) F hr (fun _ _ _ _ _ _ _ z => z.elim) I1 (.cons rfl .nil) q))
theorem x_meth0 {pre : α × Unit → Prop} {sr : Sh γ} {post : α × Unit → γ → Prop} {pl : Sem Bool} [Mo s] (hi : ∀ (H : Hp) (v : V) (a : α), s H v a → ∃ p dx fs, v = .ref p ∧ H p = some (.ins C dx fs) ∧ fs.lookup m = none) (c : Cls X.K C) (hm : Meth X.K C m f) (F : FnR X.prog X.w X.K X.mg X.base CX0 k f (spG (aC s aN) pre sr post)) (hr : Room k X.A) (ho : XE X o Γ s (· = a)) (hp : pre (a, ()))
    (ht : eval (.Call (.Attribute o m apos) [] [] pos) X.env = (do
      let ov ← eval o X.env
      standAt apos.atName
      let (f, first) ← holding [ov] (getMethod ov m pl)
      callWith pos f first (backTo pos (starEach [] X.env)) (backToKw pos (keywordEach [] X.env))) := by rfl) : XE X (.Call (.Attribute o m apos) [] [] pos) Γ sr (post (a, ())) :=
  weakE (pe_meth0R ho c hm F hr ht) fun σ H Q ⟨E, q⟩ => ⟨E, fun a' v H1 pa sm sv => by
    obtain rfl : a' = a := pa
    obtain ⟨p', dx, fs, rfl, hh, hl⟩ := hi _ _ _ sv
    exact ⟨p', dx, fs, rfl, hh, hl, (a', ()), ⟨_, _, rfl, sv, rfl⟩, hp, fun r v H' pr s3 sr => q r v H' pr (sm.trans s3) sr⟩⟩
end
section
variable {X : Cx} {x C dx : Addr} {Γ : List Cell} {Φ : List (Str × Cell)} {Fin : List (Str × Cell) → Prop} {rest : List Stmt} {α : Type} {s : Sh α} {P : α → Prop} {e : Expr} {pos : Pos}
/-- in an __init__: an expression by itself -/
theorem xn_expr (he : XE X e (Γ.set 0 (Ce (sPart x C dx Φ) ())) s P) (h : XN X rest x C dx Γ Φ Fin) (hs : swapsWith e none pos.line X.env = pure false := by rfl) : XN X (.Expr e pos :: rest) x C dx Γ Φ Fin := fun H0 =>
  weakB (pss_cons (ps_expr he hs) (h H0)) fun D σ H ⟨I, k⟩ => ⟨I.full, fun a v H1 pa e1 sv => ⟨I.up e1, k⟩⟩
end
end PL
set_option Elab.async false
set_option linter.all false
set_option maxRecDepth 100000
set_option maxHeartbeats 4000000
namespace PL
open PySem PySem.Spec
open PyProof.Rows hiding St
open L2
theorem inV_strs {H : Hp} {a : Str} : ∀ {vs : List V} {zs : List Str}, Paired (sStr H) vs zs → vs.all flatV = true ∧ inV (.str a) vs = decide (a ∈ zs)
  | _, _, .nil => ⟨rfl, by simp [inV]⟩
  | _, _, .cons h t => by
    cases h
    obtain ⟨h1, h2⟩ := inV_strs (a := a) t
    refine ⟨by rw [List.all_cons, h1]; rfl, ?_⟩
    show (eqV _ (.str a) || inV (.str a) _) = _
    rw [h2, Bool.eq_iff_iff]
    simp only [eqV, beq_iff_eq, Bool.or_eq_true, decide_eq_true_eq, List.mem_cons, V.str.injEq]
    constructor
    · rintro (h | h)
      · exact .inl h.symm
      · exact .inr h
    · rintro (h | h)
      · exact .inl h.symm
      · exact .inr h
theorem o2_inT {K : PySem.W.Frag} : Op2 (rIn K false) sStr (sU K sStr) sBl (fun _ _ => True) (fun a b c => c = decide (a ∈ b)) := fun H x y a b Q h1 h2 _ k => by
  cases h1
  obtain ⟨p, vs, rfl, hq, hp⟩ := h2
  obtain ⟨g1, g2⟩ := inV_strs (a := a) hp
  refine ⟨p, vs, rfl, .inr hq, rfl, g1, k (decide (a ∈ b)) _ H rfl (Same.refl H) ?_⟩
  show V.bl (inV _ vs) = _
  rw [g2]
end PL
set_option Elab.async false
set_option linter.all false
set_option maxRecDepth 100000
set_option maxHeartbeats 4000000
namespace PL
open PySem PySem.Spec
open PyProof.Rows hiding St
open L2
section
variable {X : Cx} {Γ : List Cell} {α : Type} {s : Sh α} {e : Expr} {as : List α} {a : α} {k : Nat} {p1 p2 p3 pos : Pos}
/-- what an optional value holds -/
theorem x_getO (h : XE X e Γ (sOpt s) (· = some a)) : XE X e Γ s (· = a) := xe_sh h fun b hb => ⟨a, rfl, fun H v hv => by
  rw [hb] at hv
  exact hv.2⟩
end
end PL
set_option Elab.async false
set_option linter.all false
set_option maxRecDepth 100000
set_option maxHeartbeats 4000000
namespace PL
open PySem PySem.Spec
open PyProof.Rows hiding St
open L2
theorem lcr_all2 {α β : Type} {Pc : α → Bool → Prop} {Pe : α → β → Prop} {R : β → Prop} (h : ∀ x y, Pe x y → R y) : ∀ {xs : List α} {ys : List β}, LcR Pc Pe xs ys → ∀ y ∈ ys, R y
  | _, _, .nil, y, hy => by cases hy
  | _, _, .yes c e t, y, hy => by
    rcases List.mem_cons.mp hy with z | hy
    · rw [z]; exact h _ _ e
    · exact lcr_all2 h t y hy
  | _, _, .no c t, y, hy => lcr_all2 h t y hy
theorem lcr_len2 {α β : Type} {Pe : α → β → Prop} : ∀ {xs : List α} {ys : List β}, LcR (fun _ b => b = true) Pe xs ys → ys.length = xs.length
  | _, _, .nil => rfl
  | _, _, .yes c e t => congrArg (· + 1) (lcr_len2 t)
  | _, _, .no c t => by cases c
end PL
set_option Elab.async false
set_option linter.all false
set_option maxRecDepth 100000
set_option maxHeartbeats 4000000
namespace PL
open PySem PySem.Spec
open PyProof.Rows hiding St
open L2
/-! ### o[i] through an own __getitem__, truth of a list, not in, lists repeated, == of objects of several classes -/
theorem fnIn_of {K : PySem.W.Frag} {x qual : Str} {params : Arguments} {body : List Stmt} {scope : Scope} {dvs : List V} {kws : List (Str × V)} {f : Addr} (h : ∃ fd, FunD K x qual params body scope dvs kws f fd) : PySem.W.fnIn K f = true := by
  obtain ⟨fd, F⟩ := h
  obtain ⟨oc, od, dV, kV, doc, pm, an, cdv, ct, osl, rfl, lk, _, _, _⟩ := F.ex
  unfold PySem.W.fnIn
  rw [lk]
section
variable {X : Cx} {Γ : List Cell} {α β γ ρ : Type} {s : Sh α} {t : Sh β} {u : Sh γ} {C f : Addr} {k : Nat} {o e e1 e2 : Expr} {a : α} {b : β} {pos p p1 p2 p3 p4 p5 p6 : Pos} {sp : Sp}
theorem pe_ixOwn {ta tb : TE} (ha : PE X o ta) (hb : PE X e tb) (F : FnR X.prog X.w X.K X.mg X.base CX0 k f sp) (m : OwnM X.K C "__getitem__" f) (hfi : PySem.W.fnIn X.K f = true) (hr : Room (k + 1) X.A)
    (hsl : ∀ v i, subscripted e true v i = runValue (.builtin "lifetime.subscript" ⟨[v, i], []⟩)) :
    PE X (.Subscript o e pos) (tOp (fun x y H Q => ∃ a dx fs, x = .ref a ∧ H a = some (.ins C dx fs) ∧ sp [x, y] H Q E0) ta tb) := by
  refine ⟨fun pins s σ H Q I h => ?_⟩
  refine Subscript_ (binT ha hb I h fun v u s2 x y H2 I2 rx ry q => ?_)
  obtain ⟨a, dx, fs, rfl, hx, q⟩ := q
  cases rx
  obtain ⟨ox, od, J, _⟩ := inst_of I2 hx
  obtain ⟨mm, hF⟩ := I2.fr
  refine PySem.W.sub_K hF I2.ok.mod.kin J m.at_ hfi m.fn ?_ (hsl _ _)
  refine wpAny_call (codeAny_mono (F X.A.in1 X.stack s2 H2 [.ref a, u] [.ref a, y] _ E0 hr.in1 I2.env0.in1 (.cons rfl (.cons ry .nil)) q) fun r s' hq => ?_)
  cases r with
  | error e => exact hq.elim
  | ok fl =>
    cases fl with
    | ret w => exact I2.after hq
    | next => exact False.elim hq
    | brk => exact False.elim hq
    | cont => exact False.elim hq
theorem x_ixOwn {pre : α × β × Unit → Prop} {post : α × β × Unit → γ → Prop} [Mo s] (hi : InsS C s) (F : FnR X.prog X.w X.K X.mg X.base CX0 k f (spG (aC s (aC t aN)) pre u post)) (m : OwnM X.K C "__getitem__" f) (hfi : PySem.W.fnIn X.K f = true) (hr : Room (k + 1) X.A) (h1 : XE X o Γ s (· = a)) (h2 : XE X e Γ t (· = b)) (hp : pre (a, b, ()))
    (hsl : ∀ v i, subscripted e true v i = runValue (.builtin "lifetime.subscript" ⟨[v, i], []⟩) := by intro _ _; with_unfolding_all rfl) : XE X (.Subscript o e pos) Γ u (post (a, b, ())) :=
  weakE (pe_ixOwn h1 h2 F m hfi hr hsl) fun σ H Q ⟨E, q⟩ => ⟨E, fun a' v H1 pa s1 sv => ⟨E.up s1, fun b' w H2 pb s2 sw => by
    subst pa pb
    have sv2 : s H2 v a' := Mo.up s2 sv
    obtain ⟨p, dx, fs, rfl, hh⟩ := hi H2 v a' sv2
    exact ⟨p, dx, fs, rfl, hh, (a', b', ()), ⟨_, _, rfl, sv2, _, _, rfl, sw, rfl⟩, hp, fun r z H3 pr s3 sz => q r z H3 pr (s1.trans (s2.trans s3)) sz⟩⟩⟩
theorem inV_strs2 {H : Hp} {a : Str} : ∀ {vs : List V} {zs : List Str}, Paired (sStr H) vs zs → vs.all flatV = true ∧ inV (.str a) vs = decide (a ∈ zs) := fun h => inV_strs h
theorem o2_notInT {K : PySem.W.Frag} : Op2 (rIn K true) sStr (sU K sStr) sBl (fun _ _ => True) (fun a b c => c = !decide (a ∈ b)) := fun H x y a b Q h1 h2 _ k => by
  cases h1
  obtain ⟨p, vs, rfl, hq, hp⟩ := h2
  obtain ⟨g1, g2⟩ := inV_strs2 (a := a) hp
  refine ⟨p, vs, rfl, .inr hq, rfl, g1, k (!decide (a ∈ b)) _ H rfl (Same.refl H) ?_⟩
  show V.bl (!inV _ vs) = _
  rw [g2]
theorem co_lenOw {pre : α × Unit → Prop} {F1 : α × Unit → Int} (hs : InsS C s) (hb : ∀ a, pre a → 0 ≤ F1 a ∧ F1 a < 2 ^ 63) : CallOp (fun xs H Q => ∃ a dx fs, xs = [.ref a] ∧ H a = some (.ins C dx fs) ∧ spD (aC s aN) pre sInt F1 [.ref a] H (fun v H' => ∃ n : Int, v = .int n ∧ 0 ≤ n ∧ n < 2 ^ 63 ∧ Q (.int n) H') E0) (aC s aN) sInt pre (fun a c => c = F1 a) := fun H xs a Q ⟨v, w, e, h1, h2⟩ hp q => by
  cases h2
  obtain ⟨p, dx, fs, rfl, hh⟩ := hs H v a.1 h1
  subst e
  refine ⟨p, dx, fs, rfl, hh, a, ⟨_, _, rfl, h1, rfl⟩, hp, fun r v H' pr sm sv => ?_⟩
  cases sv
  have e : r = F1 a := pr
  refine ⟨r, rfl, by rw [e]; exact (hb a hp).1, by rw [e]; exact (hb a hp).2, q r _ H' e sm rfl⟩
end
section
variable {X : Cx} {Γ : List Cell} {α β γ ρ : Type} {s : Sh α} {t : Sh β} {u : Sh γ} {P : α → Prop} {R : β → Prop} {e1 e2 : Expr} {G : Goal ρ} {rest : List Stmt} {pos p p1 p2 p3 p4 p5 p6 : Pos} {x y z : Str} {k1 k2 : Nat}
/-- == of objects of several classes with one __eq__ -/
theorem rcS_ownF {n : Nat} {f : Addr} [DecidableEq α] {cls : α → Addr} {pre : α × α × Unit → Prop} (F : FnR X.prog X.w X.K X.mg X.base CX0 n f (spD (aC s (aC s aN)) pre sBl (fun a => decide (a.1 = a.2.1)))) (hp : ∀ a, pre a) (hi : ∀ (H : Hp) (v : V) (a : α), s H v a → ∃ p dx fs, v = .ref p ∧ H p = some (.ins (cls a) dx fs)) (m : ∀ a, OwnM X.K (cls a) "__eq__" f)
    (nf : ∀ a b, PySem.W.notFirst X.K (cls a) (.ref (cls b)) = true) : RcS X n s .Eq id := by
  intro A pins st σ H x y u v a b sb I rx ry ha hb
  obtain ⟨p, dx, fs, rfl, h1⟩ := hi H x a ha
  obtain ⟨q, dy, gs, rfl, h2⟩ := hi H y b hb
  cases rx
  cases ry
  obtain ⟨mA, J, _⟩ := ins_get I.hok h1
  obtain ⟨mB, J', _⟩ := ins_get I.hok h2
  obtain ⟨od, J, _⟩ := J.look
  obtain ⟨od', J', _⟩ := J'.look
  obtain ⟨mm, hF⟩ := I.fr
  refine PySem.W.cmp_K (op := .Eq) (tb := .ref (cls b)) sb.room.units0 hF I.ok.mod.kin J J'.type (nf a b) (m a).at_ (m a).fn ?_
  have hsp : spD (aC s (aC s aN)) pre sBl (fun a => decide (a.1 = a.2.1)) [.ref p, .ref q] H (fun v H' => v = .bl (decide (a = b)) ∧ Same H H') E0 := ⟨(a, b, ()), ⟨_, _, rfl, ha, _, _, rfl, hb, rfl⟩, hp _, fun r v H' pr sm sv => by
    subst pr
    exact ⟨sv, sm⟩⟩
  have e0 : Env0 X.prog X.w X.K X.mg X.base A X.stack st H := by
    have e := I.env0
    exact ⟨by rw [sb.fr]; exact e.frames, e.mod, e.bs, e.bsz, e.funs, e.frf, e.hok, e.bare⟩
  have r2 : Vals [V.ref p, V.ref q] [Value.ref p, Value.ref q] := .cons rfl (.cons rfl .nil)
  refine wpAny_call (codeAny_mono (F A X.stack st H [.ref p, .ref q] [.ref p, .ref q] _ E0 sb.room e0 r2 hsp) fun r s' hq => ?_)
  cases r with
  | error e => exact hq.elim
  | ok fl =>
    cases fl with
    | ret w =>
      obtain ⟨z, H', I', rz, ez, ex⟩ := I.after hq
      subst ez
      cases rz
      exact ⟨rfl, H', I', ex⟩
    | next => exact False.elim hq
    | brk => exact False.elim hq
    | cont => exact False.elim hq
end
end PL
set_option Elab.async false
set_option linter.all false
set_option maxRecDepth 100000
set_option maxHeartbeats 4000000
namespace PL
open PySem PySem.Spec
open PyProof.Rows hiding St
open L2
/-! ### texts: sums, split, partition, slices, signsOf, int(text) -/
def signsOf (y : Str) : List Str := y.cps.toList.map fun c => ⟨#[c]⟩
theorem paired_map_str {H : Hp} : ∀ {ys : List Str}, Paired (sStr H) (ys.map V.str) ys
  | [] => .nil
  | _ :: _ => .cons rfl paired_map_str
section
variable {X : Cx} {Γ : List Cell} {α β : Type} {s : Sh α} {o e e1 e2 tg : Expr} {apos pos p p2 : Pos} {a b y : Str} {k : Bool} {i : Int}
theorem o2_addS : Op2 (fun x y H Q => ∃ i j, x = .str i ∧ y = .str j ∧ i.length + j.length ≤ sizeLine ∧ Q (.str (i ++ j)) H) sStr sStr sStr (fun a b => a.length + b.length ≤ 16777216) (fun a b c => c = a ++ b) := fun H x y a b Q h1 h2 hp k => by
  cases h1
  cases h2
  exact ⟨a, b, rfl, rfl, by rw [sizeLine_eq]; exact hp, k _ _ H rfl (Same.refl H) rfl⟩
theorem x_split (ho : XE X o Γ sStr (· = a)) (he : XE X e Γ sStr (· = b)) (hb : (b.length == 0) = false) (ha : a.length + 2 ≤ 16777216) (hs : starEach [e] X.env = [(false, eval e X.env)] := by rfl) (hbase : attributeBase o "split" X.env (eval o X.env) = eval o X.env := by rfl) (hline : (apos.endLine == pos.line) = true := by rfl) :
    XE X (.Call (.Attribute o "split" apos) [e] [] pos) Γ (sL X.K sStr) (· = Txt.split a b) := weakE (pe_split ho he hs hbase hline) fun σ H Q ⟨E, q⟩ => ⟨E, fun a' v H1 pa sm sv => by
  subst pa
  cases sv
  refine ⟨⟨_, rfl⟩, E.up sm, fun b' w H2 pb sm2 sw => ?_⟩
  subst pb
  cases sw
  refine ⟨a', b', rfl, rfl, hb, by rw [sizeLine_eq]; exact ha, fun r hr => ?_⟩
  have e2 := Same.new (o := HO.lst ((Txt.split a' b').map V.str)) hr
  exact q _ _ _ rfl (sm.trans (sm2.trans e2)) ⟨r, _, rfl, upd_same, paired_map_str⟩⟩
theorem x_part (ho : XE X o Γ sStr (· = a)) (he : XE X e Γ sStr (· = b)) (hb : (b.length == 0) = false) (ha : a.length ≤ 16777216) (hs : starEach [e] X.env = [(false, eval e X.env)] := by rfl) (hbase : attributeBase o "partition" X.env (eval o X.env) = eval o X.env := by rfl) (hline : (apos.endLine == pos.line) = true := by rfl) :
    XE X (.Call (.Attribute o "partition" apos) [e] [] pos) Γ (sT X.K sStr sStr sStr) (· = Txt.partition a b) := weakE (pe_partition ho he hs hbase hline) fun σ H Q ⟨E, q⟩ => ⟨E, fun a' v H1 pa sm sv => by
  subst pa
  cases sv
  refine ⟨⟨_, rfl⟩, E.up sm, fun b' w H2 pb sm2 sw => ?_⟩
  subst pb
  cases sw
  refine ⟨a', b', rfl, rfl, hb, by rw [sizeLine_eq]; exact ha, fun r hr => ?_⟩
  have e2 := Same.new (o := HO.tup [.str (Txt.partition a' b').1, .str (Txt.partition a' b').2.1, .str (Txt.partition a' b').2.2]) hr
  exact q _ _ _ rfl (sm.trans (sm2.trans e2)) ⟨r, _, _, _, rfl, SqT.of upd_same, rfl, rfl, rfl⟩⟩
theorem x_slStr {lo hi : Option Expr} {i j : Option Int} (h : XE X e Γ sStr (· = a)) (hz : a.length ≤ 16777216) (hl : PO X lo (fun σ H Q => Env H σ Γ ∧ ∀ H', Same H H' → Q i H')) (hh : PO X hi (fun σ H Q => Env H σ Γ ∧ ∀ H', Same H H' → Q j H')) :
    XE X (.Subscript e (.Slice lo hi none p2) pos) Γ sStr (· = cutS a i j) := weakE (pe_slice sl_str h hl hh) fun σ H Q ⟨E, q⟩ => ⟨E, fun a' v H1 pa sm sv => ⟨E.up sm, fun H2 s2 => ⟨E.up (sm.trans s2), fun H3 s3 => by
  subst pa
  cases sv
  exact ⟨a', rfl, by rw [sizeLine_eq]; exact hz, q _ _ H3 rfl (sm.trans (s2.trans s3)) rfl⟩⟩⟩⟩
theorem co_intB : CallOp (fun xs H Q => (∃ i, xs = [.int i] ∧ Q (.int i) H) ∨ ∃ k, xs = [.bl k] ∧ Q (.int (if k then 1 else 0)) H) (aC sBl aN) sInt (fun _ => True) (fun a c => c = if a.1 then 1 else 0) := fun H xs a Q ⟨v, w, e, h1, h2⟩ _ q => by
  cases h2
  cases h1
  subst e
  exact .inr ⟨_, rfl, q _ _ H rfl (Same.refl H) rfl⟩
theorem co_intS : CallOp (fun xs H Q => ∃ a n, xs = [.str a] ∧ PySem.intText? a = some n ∧ a.length ≤ 640 ∧ Q (.int n) H) (aC sStr aN) sInt (fun a => ∃ n, PySem.intText? a.1 = some n ∧ a.1.length ≤ 640) (fun a c => c = (PySem.intText? a.1).getD 0) := fun H xs a Q ⟨v, w, e, h1, h2⟩ ⟨n, hn, hl⟩ q => by
  cases h2
  cases h1
  subst e
  exact ⟨_, n, rfl, hn, hl, q n _ H (by show n = (PySem.intText? a.1).getD 0; rw [hn]; rfl) (Same.refl H) rfl⟩
theorem signsO_len : (signsOf y).length = y.cps.size := by simp [signsOf]
theorem signsO_at {j : Nat} {c : Nat} (h : y.cps[j]? = some c) : (signsOf y)[j]? = some ⟨#[c]⟩ := by
  unfold signsOf
  rw [List.getElem?_map, Array.getElem?_toList, h]
  rfl
theorem xi_str (h : XE X e Γ sStr (· = y)) : XI X tg e Γ sStr (· = signsOf y) := weakI (pi_str h) fun σ H R ⟨E, q⟩ => ⟨E, fun a' v H1 pa sm sv => by
  subst pa
  cases sv
  refine ⟨a', rfl, q _ H1 _ rfl sm ⟨fun _ => True, fun i H v H' => i < a'.cps.size ∧ H' = H ∧ ∃ c, a'.cps[i]? = some c ∧ v = .str ⟨#[c]⟩, ?_, fun _ _ => trivial, ?_⟩⟩
  · rw [signsO_len]
    exact walk_str.mono (fun _ h => h) fun i H x H' hi _ y => ⟨hi, y⟩
  · rintro i H2 v H' e ⟨hi, rfl, c, hc, rfl⟩
    exact ⟨Same.refl _, _, signsO_at hc, rfl, fun _ _ _ => rfl⟩⟩
theorem o2_inSign {c : Nat} : Op2 (fun x y H Q => ∃ (c : Nat) (z : Str), x = .str ⟨#[c]⟩ ∧ y = .str z ∧ Q (.bl (!decide (c ∈ z.cps.toList))) H) sStr sStr sBl (fun a _ => a = ⟨#[c]⟩) (fun _ b r => r = !decide (c ∈ b.cps.toList)) := fun H x y a b Q h1 h2 hp k => by
  cases h1
  cases h2
  subst hp
  exact ⟨c, b, rfl, rfl, k _ _ H rfl (Same.refl H) rfl⟩
theorem x_ixStr {c : Nat} (h : XE X e1 Γ sStr (· = y)) (hi : XE X e2 Γ sInt (· = i)) (hz : y.length ≤ 16777216) (hc : atI y.cps.toList i = some c) (hx : PlainIx e2 := by exact fun _ _ => rfl) : XE X (.Subscript e1 e2 pos) Γ sStr (· = ⟨#[c]⟩) :=
  weakE (pe_ix ix_str h hi hx) fun σ H Q ⟨E, q⟩ => ⟨E, fun a' v H1 pa s1 sv => ⟨E.up s1, fun i' w H2 pi s2 si => by
    subst pa pi
    cases sv
    cases si
    exact ⟨a', i', c, rfl, rfl, by rw [sizeLine_eq]; exact hz, hc, q _ _ H2 rfl (s1.trans s2) rfl⟩⟩⟩
theorem x_someI (h : XE X e Γ sInt (· = i)) : XE X e Γ (sOpt sInt) (· = some i) := xe_sh h fun b hb => ⟨some b, by rw [hb], fun H v hv => ⟨(by cases hv; intro z; cases z), hv⟩⟩
theorem x_someU {as : List α} (h : XE X e Γ (sU X.K s) (· = as)) : XE X e Γ (sOpt (sU X.K s)) (· = some as) := xe_sh h fun b hb => ⟨some b, by rw [hb], fun H v hv => ⟨(by obtain ⟨p, xs, e1, _⟩ := hv; rw [e1]; intro z; cases z), hv⟩⟩
theorem x_someP {β : Type} {t : Sh β} {ab : α × β} (h : XE X e Γ (sP X.K s t) (· = ab)) : XE X e Γ (sOpt (sP X.K s t)) (· = some ab) := xe_sh h fun b hb => ⟨some b, by rw [hb], fun H v hv => ⟨(by obtain ⟨p, x, y, e1, _⟩ := hv; rw [e1]; intro z; cases z), hv⟩⟩
end
end PL
set_option Elab.async false
set_option linter.all false
set_option maxRecDepth 100000
set_option maxHeartbeats 4000000
namespace PL
open PySem PySem.Spec
open PyProof.Rows hiding St
open L2 GenW

section
variable {M : Model} {A : Around} {R : GenEnd} {Y : Protocol} {n : Nat} {s₀ : Shared} {c : Code} {fs : List Frame} {s : Shared} {env : PySem.Env}
  {K : Flow → Sem PySem.Fin} {J : Value → Sem PySem.Fin} {gd : Bool → Bool} {lv : List Value → List Value}
theorem seg_For {target iter : Expr} {body orelse : List Stmt} {pos : Pos}
    (h : wpAny M (A.over c fs) (eval iter env) (fun x s₁ => wpAny M (A.over c fs) (pyIter x) (fun it s₂ => ∀ p,
      Seg M A R Y n s₀ (.forLoop target it body orelse env) (M.den (.forLoop target it body orelse env))
        (.ret (fun r => ((match r with | .ok f => (.pure f : Sem Flow) | .error e => .raise e).onRaise (cameBack env)).wrap K J gd lv) none (gd false) (lv []) c p [] :: fs) s₂)
      (fun x s' => Seg M A R Y n s₀ c (J x) fs s') s₁) (fun x s' => Seg M A R Y n s₀ c (J x) fs s') s)
    (hs : ∀ x, foldedSetIterable iter env x = pure x := by intro _; rfl) : Seg M A R Y n s₀ c ((exec (.For target iter body orelse pos) env).wrap K J gd lv) fs s := by
  rw [exec_For]
  refine seg_bind_wrap (wpAny_standAt ?_)
  refine seg_bind_wrap (wpAny_mono h (fun x s₁ h₁ => ?_) fun _ _ z => z)
  refine seg_bind_wrap (wpAny_of_eq (hs x) ?_)
  refine seg_bind_wrap (wpAny_standAt ?_)
  refine seg_bind_wrap (wpAny_holding (wpAny_mono h₁ (fun it s₂ h₂ => ?_) fun _ _ z => z))
  exact seg_call h₂
end
section
variable {prog : Program} {w : World} {A : Around} {R : GenEnd} {Y : Protocol} {n : Nat} {s₀ : Shared} {fs : List Frame} {s : Shared} {env : PySem.Env}
abbrev leaveL (env : PySem.Env) (e : Value) : Sem PySem.Fin := (do noteFrame e env; theTreesLotGoes e : Sem Unit).wrap (fun _ => .raise e) .raise id id
theorem seg_block0 (h : Seg (model prog w) A R Y n s₀ (.block [] env) (.pure (.done .next)) fs s) : Seg (model prog w) A R Y n s₀ (.block [] env) ((model prog w).den (.block [] env)) fs s := h
theorem seg_forLoop {target : Expr} {it : Value} {body : List Stmt}
    (h : wpAny (model prog w) (A.over (.forLoop target it body [] env) fs) (pyNext it) (fun r s₁ => match r with
        | none => Seg (model prog w) A R Y n s₀ (.forLoop target it body [] env) (.pure (.again (.block [] env))) fs s₁
        | some v => wpAny (model prog w) (A.over (.forLoop target it body [] env) fs) (letOwnedTupleGo target it v) (fun _ s₂ =>
            wpAny (model prog w) (A.over (.forLoop target it body [] env) fs) (assign target env v) (fun _ s₃ =>
              Seg (model prog w) A R Y n s₀ (.forLoop target it body [] env) ((execs body env).wrap (fun f => match f with
                | .next | .cont => .pure (.again (.forLoop target it body [] env))
                | .brk => .pure (.done .next)
                | .ret v => .pure (.done (.ret v))) (leaveL env) id id) fs s₃)
              (fun x s' => Seg (model prog w) A R Y n s₀ (.forLoop target it body [] env) (leaveL env x) fs s') s₂)
            (fun x s' => Seg (model prog w) A R Y n s₀ (.forLoop target it body [] env) (leaveL env x) fs s') s₁)
      (fun x s' => Seg (model prog w) A R Y n s₀ (.forLoop target it body [] env) (leaveL env x) fs s') s) :
    Seg (model prog w) A R Y n s₀ (.forLoop target it body [] env) ((model prog w).den (.forLoop target it body [] env)) fs s := by
  show Seg _ A R Y n s₀ _ ((forTurn target it body [] env).onRaise (fun x => do noteFrame x env; theTreesLotGoes x)) fs s
  have rz : ∀ x : Value, (do noteFrame x env; theTreesLotGoes x : Sem Unit).bind (fun _ => (.raise x : Sem PySem.Fin)) = leaveL env x := fun x => Sem.bind_eq_wrap _ _
  unfold forTurn
  rw [Sem.onRaise_eq_wrap]
  refine seg_bind_wrap (wpAny_standAt ?_)
  refine seg_bind_wrap (wpAny_onRaise (wpAny_mono h (fun r s₁ h₁ => ?_) fun x s' hx => wpAny_standAt ?_))
  · cases r with
    | none => exact h₁
    | some v =>
      refine seg_bind_wrap (wpAny_mono h₁ (fun _ s₂ h₂ => ?_) fun x s' hx => ?_)
      · refine seg_bind_wrap (wpAny_mono h₂ (fun _ s₃ h₃ => ?_) fun x s' hx => ?_)
        · rw [Sem.bind_eq_wrap', Sem.wrap_wrap]
          refine (congrArg (fun t => Seg (model prog w) A R Y n s₀ (.forLoop target it body [] env) t fs s₃) (Sem.wrap_congr (execs body env) _ _ (fun f => ?_) fun e => rz e)).mpr h₃
          cases f <;> rfl
        · rw [← rz] at hx; exact hx
      · rw [← rz] at hx; exact hx
  · rw [← rz] at hx; exact hx
end

section
variable {X : Cx}
def tGFor (wi : TI) (g : TG) (tb : TGn) : TGn := fun D ys σ H => wi σ H fun J H1 => ∃ W : Nat → Nat → List V → St → Hp → Prop, (∃ m, W 0 m ys σ H1) ∧ ∀ i m ys σ H, W i m ys σ H →
  (J.stop i H ∧ D.nx ys σ H) ∨ (J.go i H ∧ ∃ N : List V → St → Hp → Prop, (∀ ys' σ' H', N ys' σ' H' → ∃ m', m' < m ∧ W (i + 1) m' ys' σ' H') ∧ ∀ x H', J.yld i H x H' → g x σ H' fun σ2 H2 => tb { D with nx := N, ct := N, bk := D.nx } ys σ2 H2)
theorem gs_for {tg iter : Expr} {body : List Stmt} {wi : TI} {g : TG} {tb : TGn} {pos : Pos} (hp : PassesOwn (model X.prog X.w) X.A X.env X.xe) (hc : X.calm = true) (hi : PI X tg iter wi) (hg : PG X tg g) (hb : GSs X body tb)
    (hs : ∀ x, foldedSetIterable iter X.env x = pure x := by intro _; rfl) : GS X (.For tg iter body [] pos) (tGFor wi g tb) := by
  refine ⟨fun A S ip R n ys s₀ c fs K J gd lv s σ H D g0 hn k hI ht => ?_⟩
  obtain ⟨acc0, cc0, r0, I0⟩ := hI
  refine seg_For ?_ hs
  rw [g0.over]
  refine wpAny_mono (hi.run _ s σ H _ I0 ht) (fun v s1 h1 => wpAny_mono h1 (fun itv s2 h2 p => ?_) fun x s' hx => k.exc n s₀ x s' hx) fun x s' hx => k.exc n s₀ x s' hx
  obtain ⟨it, fp, tn, JJ, H2, e, I2, T, st2, f2, W, ⟨m0, w0⟩, turn⟩ := h2
  subst e
  have hSf : ∀ b ∈ fp, S ≠ b := fun b hb => (f2 b hb).2.2.2.2.2 (S, lstObj acc0 cc0) (List.mem_append_right _ List.mem_cons_self)
  have stat : ∀ {H' : Hp} {acc : Array Value} {cc : Nat}, (∀ b ∈ fp, H' b = none) → ∀ b ∈ fp, FpOk X ((S, lstObj acc cc) :: ip) H' b := fun {H' acc cc} hn b hb => by
    obtain ⟨_, q1, q2, q3, q4, q5⟩ := f2 b hb
    refine ⟨hn b hb, q1, q2, q3, q4, fun p hp => ?_⟩
    rcases List.mem_append.mp hp with hp | hp
    · exact q5 p (List.mem_append_left _ hp)
    · rcases List.mem_cons.mp hp with hp | hp
      · subst hp; exact hSf b hb
      · exact q5 p (List.mem_append_right _ (List.mem_cons_of_mem _ hp))
  have gip : ∀ {ip' : List (Addr × Obj)} (kk : Result → Sem PySem.Fin), (∀ p ∈ ip', p.1 ≠ S) → GC X S ip' A (.forLoop tg (.ref it) body [] X.env) (.ret kk none (gd false) (lv []) c p [] :: fs) id := fun kk h =>
    gc_loop (c' := .forLoop tg (.ref it) body [] X.env) { g0 with ip := h } rfl rfl
  have loop : ∀ (m i n : Nat) (ys : List V) (s₀ s : Shared) (σ : St) (H : Hp) (acc : Array Value) (cc : Nat), n + ys.length = sizeLine → W i m ys σ H → Vals ys acc.toList → Inv X ((S, lstObj acc cc) :: ip) σ H s → tn i s.heap → (∀ b ∈ fp, H b = none) →
      Seg (model X.prog X.w) A R (GY X S) n s₀ (.forLoop tg (.ref it) body [] X.env) ((model X.prog X.w).den (.forLoop tg (.ref it) body [] X.env))
        (.ret (fun r => ((match r with | .ok f => (.pure f : Sem Flow) | .error e => .raise e).onRaise (cameBack X.env)).wrap K J gd lv) none (gd false) (lv []) c p [] :: fs) s := by
    intro m
    induction m using Nat.strongRecOn with
    | ind m ih =>
      intro i n ys s₀ s σ H acc cc hn w r I st fr
      have ee : ∀ (n : Nat) (s₀ : Shared) (x : Value) (s' : Shared), X.xe x s' → Seg (model X.prog X.w) A R (GY X S) n s₀ (.forLoop tg (.ref it) body [] X.env) (leaveL X.env x)
          (.ret (fun r => ((match r with | .ok f => (.pure f : Sem Flow) | .error e => .raise e).onRaise (cameBack X.env)).wrap K J gd lv) none (gd false) (lv []) c p [] :: fs) s' := fun n s₀ x s' hx => by
        refine seg_wrap ?_
        rw [(gip _ g0.ip).over]
        refine wpAny_bind (wpAny_mono (hp x s' hx) (fun _ s'' hcb => wpAny_theTreesLotGoes ?_) fun y s'' hcb => ?_)
        · exact seg_leaf (.error x) (seg_cameBack g0 k hcb)
        · exact seg_leaf (.error y) (seg_cameBack g0 k hcb)
      refine seg_forLoop ?_
      rw [(gip _ g0.ip).over]
      rcases turn i m ys σ H w with ⟨stop, qn⟩ | ⟨go, N, hN, step⟩
      · refine wpAny_mono (T.done X rfl rfl rfl hc i _ s σ H X.xe I (stat fr) st stop) (fun q s4 ⟨hr, I4⟩ => ?_) fun x s' hx => ee n s₀ x s' hx
        subst hr
        refine seg_again rfl (seg_block0 ?_)
        exact seg_leaf (.ok .next) (k.ok n ys s₀ s4 .next hn ⟨σ, H, ⟨acc, cc, r, I4⟩, qn⟩)
      · refine wpAny_mono (T.item X rfl rfl rfl hc i _ s σ H X.xe I (stat fr) st go) (fun q s4 ⟨u, hr, h4⟩ => ?_) fun x s' hx => ee n s₀ x s' hx
        subst hr
        refine wpAny_mono h4 (fun _ s5 ⟨x, H5, I5, r5, y5, st5, fr5⟩ => ?_) fun x s' hx => ee n s₀ x s' hx
        have I5' := I5.pinned (stat fr5) (T.obj _ _ st5)
        refine wpAny_mono (hg.run _ s5 σ H5 x u _ I5' r5 (step x H5 y5)) (fun _ s6 ⟨σ6, H6, I6, q6⟩ => ?_) fun x s' hx => ee n s₀ x s' hx
        have hip' : ∀ p ∈ ip ++ pinsAt fp s5.heap, p.1 ≠ S := fun p hp => (List.mem_append.mp hp).elim (fun z => g0.ip p z) fun z => Ne.symm (hSf p.1 (of_pinsAt z).1)
        refine hb.run A S (ip ++ pinsAt fp s5.heap) R n ys s₀ _ _ _ _ id id s6 σ6 H6 { D with nx := N, ct := N, bk := D.nx } (gip _ hip') hn ⟨fun n' ys' s₀' s7 f hn' hs7 => ?_, fun n' s₀' x s3 hx => ee n' s₀' x s3 hx⟩ ⟨acc, cc, r, I6⟩ q6
        have again : ∀ {σ7 : St} {H7 : Hp}, GI X S (ip ++ pinsAt fp s5.heap) ys' σ7 H7 s7 → N ys' σ7 H7 → Seg (model X.prog X.w) A R (GY X S) n' s₀' (.forLoop tg (.ref it) body [] X.env) ((model X.prog X.w).den (.forLoop tg (.ref it) body [] X.env))
            (.ret (fun r => ((match r with | .ok f => (.pure f : Sem Flow) | .error e => .raise e).onRaise (cameBack X.env)).wrap K J gd lv) none (gd false) (lv []) c p [] :: fs) s7 := fun {σ7 H7} G7 n7 => by
          obtain ⟨acc', cc', r', I7⟩ := G7
          have I7' : Inv X ((S, lstObj acc' cc') :: ip ++ pinsAt fp s5.heap) σ7 H7 s7 := I7
          obtain ⟨m', hm, w7⟩ := hN ys' σ7 H7 n7
          refine ih m' hm (i + 1) n' ys' s₀' s7 σ7 H7 acc' cc' hn' w7 r' I7'.unpinned (T.keep _ _ _ st5 fun b hb o e => (I7'.pin (b, o) (List.mem_append_right _ (List.mem_append_right _ (mem_pinsAt hb e)))).1) fun b hb => ?_
          obtain ⟨o, e, d⟩ := T.obj _ _ st5 b hb
          exact (I7'.pin (b, o) (List.mem_append_right _ (List.mem_append_right _ (mem_pinsAt hb e)))).2.1
        have un : ∀ {σ7 : St} {H7 : Hp}, GI X S (ip ++ pinsAt fp s5.heap) ys' σ7 H7 s7 → GI X S ip ys' σ7 H7 s7 := fun {σ7 H7} ⟨acc', cc', r', I7⟩ =>
          ⟨acc', cc', r', Inv.unpinned (pl := pinsAt fp s5.heap) (show Inv X ((S, lstObj acc' cc') :: ip ++ pinsAt fp s5.heap) σ7 H7 s7 from I7)⟩
        cases f with
        | next => obtain ⟨σ7, H7, I7, n7⟩ := hs7; exact seg_again rfl (again I7 n7)
        | cont => obtain ⟨σ7, H7, I7, n7⟩ := hs7; exact seg_again rfl (again I7 n7)
        | brk => obtain ⟨σ7, H7, I7, n7⟩ := hs7; exact seg_leaf (.ok .next) (k.ok n' ys' s₀' s7 .next hn' ⟨σ7, H7, un I7, n7⟩)
        | ret v => obtain ⟨x7, σ7, H7, I7, r7, q7⟩ := hs7; exact seg_leaf (.ok (.ret v)) (k.ok n' ys' s₀' s7 (.ret v) hn' ⟨x7, σ7, H7, un I7, r7, q7⟩)
  exact loop m0 0 n ys s₀ s2 σ H2 acc0 cc0 hn w0 r0 I2 st2 fun b hb => (f2 b hb).1
end
end PL
set_option Elab.async false
set_option linter.all false
set_option maxRecDepth 100000
set_option maxHeartbeats 4000000
namespace PL
open PySem PySem.Spec
open PyProof.Rows hiding St
open L2 NdefX

/-! ### a method that says super().m(x) -/
structure SupP (P : Program) (file : Str) : Prop where
  file : ((P.main.file : Str) == file) = true
  top : (P.main.scope.names.lookup ("super" : Str)).isSome = false
structure SupD (K : Fg) (f : Addr) (F : NF) (cc D g : Addr) (m file : Str) : Prop where
  lk : ∃ oc od doc pm ctv osl, K.lookup f = some ⟨oc, od, .func (F.fd doc pm ctv), osl⟩
  code : PySem.W.codeIn K (.ref F.c) F.qual = true
  cl : F.cl = [(("__class__" : Str), cc)]
  cell : ∃ a b c, K.lookup cc = some ⟨a, b, .cell (some (.ref D)), c⟩
  file : ∃ a b vs c t, K.lookup F.c = some ⟨a, b, .fields vs, c⟩ ∧ vs[2]? = some (.str file t)
  cls : ∃ cd, PySem.W.clsIn K D = some cd ∧ PySem.W.alongIn K m ((cd.mro.dropWhile (· != .ref D)).drop 1) = some (some (.ref g))
  sub : PySem.W.mroIn K D (.ref D) = some true
  any : PySem.W.nsIn K cStatics "thirdparty.any" = some none
  fn : PySem.W.isFn K (.ref g) = true
  fi : PySem.W.fnIn K g = true
section
variable {P : Program} {w : World} {K : Fg} {mg : Str → Option Value} {base : Heap}
theorem fn_super {k : Nat} {f cc D g : Addr} {F : NF} {N : List Str} {self x m file : Str} {ar : Arg} {p0 p1 px apos pos pos' : Pos} {sp : Sp}
    (SP : SupP P file) (SD : SupD K f F cc D g m file) (hsup : mg "super" = none) (S : NScope N [self, x] ["__class__"] F.scope) (hN : N[1]? = some x)
    (hks : F.scope.names.lookup ("super" : Str) = some .globalImplicit) (hb : F.body = [.Return (some (.Call (.Attribute (.Call (.Name "super" p0) [] [] p1) m apos) [.Name x px] [] pos)) pos'])
    (hp : (F.params.posonlyargs ++ F.params.args).head? = some ar) (har : ar.arg = self) (hm : (m == ("__class__" : Str)) = false) (hx1 : (x == ("__debug__" : Str)) = false) (hx2 : (x == ("__classdict__" : Str)) = false)
    (pl : PySem.Env → Sem Bool) (ht : ∀ env : PySem.Env, eval (.Call (.Attribute (.Call (.Name "super" p0) [] [] p1) m apos) [.Name x px] [] pos) env = (do
      let ov ← attributeBase (.Call (.Name "super" p0) [] [] p1) m env (eval (.Call (.Name "super" p0) [] [] p1) env)
      standAt apos.atName
      let (f, first) ← holding [ov] (getMethod ov m (pl env))
      callWith pos f first (backTo pos (starEach [.Name x px] env)) []))
    (hbind : ∀ (doc pm ctv : Value) (us : List Value), us.length = 2 → bindArgs (F.fd doc pm ctv) ⟨us, []⟩ = pure ([self, x].zip us))
    (G : FnR P w K mg base CX0 k g sp) : FnR P w K mg base CX0 (k + 1) f (fun vs H Q E => ∃ a v dx fs, vs = [.ref a, v] ∧ H a = some (.ins D dx fs) ∧ sp [.ref a, v] H Q E) := by
  intro A outer s H us vs Q E hr e0 r hs
  obtain ⟨a, v, dx, fs, rfl, ha, hsp⟩ := hs
  obtain ⟨oc, od, doc, pm, ctv, osl, lk⟩ := SD.lk
  obtain ⟨c1, c2, c3, lc⟩ := SD.cell
  obtain ⟨d1, d2, vv, d3, tf, lf, hv2⟩ := SD.file
  obtain ⟨cd, hcd, hal⟩ := SD.cls
  have KX : K.In s.heap := e0.mod.kin.keeps fun b o e => (e0.bs b o e).1
  have lim : s.heap.NoLimit := e0.mod.nolimit.keeps fun b o e => (e0.bs b o e).1
  have hl : us.length = 2 := by rw [← r.length]; rfl
  have ndP : ([self, x] : List Str).Nodup := by
    have q := S.nd.sublist (List.take_sublist 3 N)
    rw [show N.take 3 = [self, x, "__class__"] from S.pre] at q
    exact (List.nodup_append.mp (show ([self, x] ++ [("__class__" : Str)]).Nodup from q)).1
  have hloc : ∀ y ∈ [self, x].zip us, F.scope.names.lookup y.1 = some .local := fun ⟨n, u⟩ hy => S.par n (List.of_mem_zip hy).1
  have CA : CellsAt F.cl ["__class__"] [none] s.heap H := by
    rw [SD.cl]
    have look : ∀ y c, List.lookup y [(("__class__" : Str), cc)] = some c → y = "__class__" ∧ c = cc := fun y c e => by
      by_cases h : y = "__class__"
      · subst h
        rw [List.lookup_cons_self] at e
        exact ⟨rfl, (Option.some.inj e).symm⟩
      · rw [List.lookup_cons, beq_false_of_ne h] at e
        cases e
    refine ⟨rfl, fun y c e => ?_, fun y z c e1 e2 => ?_, fun i y e => ?_⟩
    · obtain ⟨_, rfl⟩ := look y c e
      have hB := e0.mod.kin _ _ lc
      exact ⟨(e0.bs _ _ hB).2, _, _, KX _ _ lc, rfl⟩
    · rw [(look y c e1).1, (look z c e2).1]
    · cases i with
      | zero =>
        cases e
        exact ⟨cc, List.lookup_cons_self, fun v e => by cases e⟩
      | succ i => cases e
  refine ks_codeAny_call_defAt (fd := F.fd doc pm ctv) (body := F.body) (binds := [self, x].zip us) hr.depth (KX _ _ lk) rfl lim (PySem.W.codeRec_of KX SD.code) rfl (.of_eq (hbind doc pm ctv us hl)) S.nocell hloc (fun h₁ hns kp => ?_) S.co S.gen S.kind
  have I : Inv (ncx CX0 P w K mg base N F f A outer s H E) [] (startF N [.ref a, v] [none]) H { s with heap := h₁, toks := s.toks + ([self, x].zip us).length } := inv_startN S hr.hd e0 rfl r CA hns kp
  have KX1 : K.In h₁ := I.kIn
  obtain ⟨u1, u2, rfl⟩ : ∃ u1 u2, us = [u1, u2] := by
    match us, hl with
    | [u1, u2], _ => exact ⟨u1, u2, rfl⟩
  obtain rfl : u1 = Value.ref a := by
    cases r with
    | cons r1 _ => exact r1
  obtain ⟨mA, O, _⟩ := ins_get I.hok ha
  have hx : h₁.get? a = some (PySem.W.instObj D dx) := O.obj
  obtain ⟨oD, hD1, hD2⟩ : ∃ oD, h₁.get? D = some oD ∧ oD.data = .cls cd := by
    have hc := hcd
    unfold PySem.W.clsIn at hc
    split at hc
    · rename_i c d cd' sl ho
      cases hc
      exact ⟨_, KX1 _ _ ho, rfl⟩
    · cases hc
  have haD : a ≠ D := by
    rintro rfl
    rw [hx] at hD1
    cases hD1
    cases hD2
  rw [hb]
  refine ks_wpAt_execs_cons (ks_wpAt_Return_some (ks_wpAt_MethodCall ?_ (ht _)))
  refine ks_wpAt_super_base (env := envF F f s.heap.objs.size) hks (S.frk _ (List.mem_singleton.mpr rfl)) hm rfl (KX1 _ _ lk) rfl hp rfl (KX1 _ _ lf) rfl hv2 SP.file SP.top ?_
  obtain ⟨mb, h1, h2⟩ := I.mod.blt
  refine PySem.W.ks_loadName_global S.kind hks (Calls.loadGlobal_builtin (by exact I.mod.glob.keeps I.bk) hsup (by exact h1.keeps I.bk) ((h2 "super" (by decide)).trans (show bootBuiltins "super" = some (.type "super") by kernel_rfl)) ⟨rfl, ?_⟩)
  refine wpAny_loadName_free S.kind (S.frk _ (List.mem_singleton.mpr rfl)) (c := cc) (by show F.cl.lookup _ = _; rw [SD.cl]; exact List.lookup_cons_self) ⟨_, KX1 _ _ lc, rfl⟩ ?_
  refine wpAny_loadName_local S.kind (show F.scope.names.lookup ar.arg = some .local by rw [har]; exact S.par _ List.mem_cons_self) hns (v := .ref a) (by rw [har]; exact zip_look (i := 0) ndP rfl rfl) ?_
  refine ks_wpAny_isType_cls hD1 hD2 ⟨rfl, ?_⟩
  refine ks_wpAny_call_super hD1 hD2 hx rfl (fun c z => nomatch z) (PySem.W.looks_mroIn KX1 SD.sub) (fun h2' e2 k2 => ?_)
  have I2 : Inv (ncx CX0 P w K mg base N F f A outer s H E) [(h₁.objs.size, PySem.W.ks_superObj D a D)] (startF N [.ref a, v] [none]) H { s with heap := h2', toks := s.toks + ([self, x].zip [.ref a, u2]).length } :=
    ClX.pin_new (s := { s with heap := h₁, toks := s.toks + ([self, x].zip [.ref a, u2]).length }) I k2 (Nat.le_refl _) e2 (fun v z => nomatch z)
  have KX2 : K.In h2' := I2.kIn
  obtain ⟨of, hof, hofc⟩ : ∃ of, h2'.get? g = some of ∧ of.cls = .type "function" := by
    have hf : (K.lookup g).map (·.cls) = some (.type "function") := beq_iff_eq.mp SD.fn
    cases z : K.lookup g with
    | none => rw [z] at hf; cases hf
    | some of => rw [z] at hf; exact ⟨of, KX2 _ _ z, Option.some.inj hf⟩
  refine ks_wpAny_getMethod_super e2 (PySem.W.looks_opaque KX2 SD.any) (l₀ := cd.mro) (fun A Q E s k q => wpAny_bind ((PySem.W.looks_clsIn KX2 hcd) A _ E s k (wpAny_pure q))) rfl KX2 hal hof hofc haD hm ?_
  have I3 := ClX.met_new (C := a) (g := g) I2
  refine ClX.callwith_cm (C := a) (g := g) I3 (ClX.base_none I2 (Nat.le_refl _)) SD.fi ?_ rfl rfl
  refine thn ((pa_cons (pe_var (i := 1) hN (.inl (S.par _ (List.mem_cons_of_mem _ (List.mem_singleton.mpr rfl)))) hx1 hx2) pa_nil).run pos _ _ _ H (fun xs H' => xs = [v] ∧ H' = H) I3 ⟨v, rfl, rfl, rfl⟩) fun ws s4 ⟨xs, H4, I4, r4, e4, e5⟩ => ?_
  subst e4
  subst e5
  refine ⟨⟨ClX.pin_at I4, I4.kIn⟩, ?_⟩
  exact thn (ClX.run_cm (C := a) (g := g) (E := E) G (hr.deeper _) (fun _ _ _ _ _ _ _ z => z.elim) I4 r4 hsp) fun u s5 ⟨v', H5, I5, rv, q⟩ => ⟨v', H5, I5.os, I5.bare, I5.base, I5.hok, rv, q⟩
end
end PL
set_option Elab.async false
set_option linter.all false
set_option maxRecDepth 100000
set_option maxHeartbeats 4000000
namespace PL
open PySem PySem.Spec
open PyProof.Rows hiding St
open L2 NdefX

/-! ### defs with a class cell, as facts of the head -/
theorem supD_of {K : Fg} {f D g : Addr} {m file n q : Str} {ps : Arguments} {body : List Stmt} {sc : Scope} (e : fnC K f = some (n, q, ps, .stmts body, sc, mainGlobals, [], builtinsNs)) (h : supB K f D g m file = true) :
    ∃ c cc, SupD K f ⟨n, q, ps, body, sc, [(("__class__" : Str), cc)], c⟩ cc D g m file := by
  obtain ⟨h0, h⟩ := He.ba h
  obtain ⟨h1, h⟩ := He.ba h
  obtain ⟨h2, h⟩ := He.ba h
  obtain ⟨h3, h⟩ := He.ba h
  obtain ⟨h4, h5⟩ := He.ba h
  have hcls : ∃ cd, PySem.W.clsIn K D = some cd ∧ PySem.W.alongIn K m ((cd.mro.dropWhile (· != .ref D)).drop 1) = some (some (.ref g)) := by
    unfold alongB at h1
    cases z : PySem.W.clsIn K D with
    | none => rw [z] at h1; cases h1
    | some cd => rw [z] at h1; exact ⟨cd, rfl, of_decide_eq_true h1⟩
  unfold fnC at e
  cases z : K.lookup f with
  | none => rw [z] at h0; cases h0
  | some o =>
    obtain ⟨oc, od, dt, osl⟩ := o
    rw [z] at h0 e
    cases dt with
    | func fd =>
      obtain ⟨n1, n2, n3, n4, n5, n6, n7, n8, n9, n10, n11, n12, n13, n14, n15⟩ := fd
      have e2 : (some (n1, n2, n3, n4, n5, n6, [], n15) : He.FnW) = some (n, q, ps, .stmts body, sc, mainGlobals, [], builtinsNs) := e
      simp only [Option.some.injEq, Prod.mk.injEq] at e2
      obtain ⟨i1, i2, i3, i4, i5, i6, _, i8⟩ := e2
      subst i1 i2 i3 i4 i5 i6 i8
      obtain ⟨j1, h0⟩ := He.ba (show (decide (n8 = .none) && (decide (n9 = .none) && (decide (n12 = none) && closB K _ D file))) = true from h0)
      obtain ⟨j2, h0⟩ := He.ba h0
      obtain ⟨j3, h0⟩ := He.ba h0
      have j1 := of_decide_eq_true j1
      have j2 := of_decide_eq_true j2
      have j3 := of_decide_eq_true j3
      subst j1 j2 j3
      unfold closB at h0
      split at h0
      · rename_i c nm cc k1 k2
        have k1 : n13 = .ref c := k1
        have k2 : n7 = [(nm, cc)] := k2
        subst k1 k2
        obtain ⟨l1, h0⟩ := He.ba h0
        obtain ⟨l2, h0⟩ := He.ba h0
        obtain ⟨l3, l4⟩ := He.ba h0
        have l1 := of_decide_eq_true l1
        subst l1
        refine ⟨c, cc, ⟨⟨_, _, _, _, _, _, z⟩, l2, rfl, ?_, ?_, hcls, of_decide_eq_true h2, of_decide_eq_true h3, h4, h5⟩⟩
        · unfold cellB at l3
          split at l3
          · rename_i y
            have l3 := of_decide_eq_true l3
            subst l3
            exact ⟨_, _, _, y⟩
          · cases l3
        · unfold fileB at l4
          split at l4
          · rename_i y
            split at l4
            · rename_i y2
              have l4 := of_decide_eq_true l4
              subst l4
              exact ⟨_, _, _, _, _, y, y2⟩
            · cases l4
          · cases l4
      · cases h0
    | _ => cases h0
theorem SaysS.p {ex : List (Fg → Bool)} {fn sn : List DefP} {K : Fg} (c : SaysS ex fn sn K) : SaysP ex fn K := congrArg (fun z : AlS => z.1) c
theorem SaysS.c {ex : List (Fg → Bool)} {fn sn : List DefP} {K : Fg} (c : SaysS ex fn sn K) : SaysC sn K := congrArg (fun z : AlS => z.2) c
theorem SaysC.at_ {sn : List DefP} {K : Fg} (c : SaysC sn K) (i : Nat) {d : DefP} (h : sn[i]? = some d := by rfl) : fnC K (d.at_ K) = some (d.name, d.qual, d.params, .stmts d.body, d.scope, mainGlobals, [], builtinsNs) := by
  have e2 : (sn.map fun d => fnC K (d.at_ K))[i]? = (sn.map DefP.val)[i]? := by rw [show (sn.map fun d => fnC K (d.at_ K)) = sn.map DefP.val from c]
  rw [List.getElem?_map, List.getElem?_map, h] at e2
  exact Option.some.inj e2
end PL
set_option Elab.async false
set_option linter.all false
set_option maxRecDepth 100000
set_option maxHeartbeats 0
namespace TX
open PySem PySem.Spec
open PyProof.Rows hiding St
open L2 PL
abbrev N__wall : List PySem.Str := ["k"]
theorem sc__wall : FnScope N__wall ["k"] (defScope s__wall) := ⟨rfl, rfl, rfl, by decide +kernel, rfl, by decide +kernel, by decide +kernel⟩
abbrev N_InvalidFraction___init__ : List PySem.Str := ["self", "value"]
theorem sc_InvalidFraction___init__ : FnScope N_InvalidFraction___init__ ["self", "value"] (defScope s_InvalidFraction___init__) := ⟨rfl, rfl, rfl, by decide +kernel, rfl, by decide +kernel, by decide +kernel⟩
abbrev N_InvalidColor___init__ : List PySem.Str := ["self", "value"]
theorem sc_InvalidColor___init__ : FnScope N_InvalidColor___init__ ["self", "value"] (defScope s_InvalidColor___init__) := ⟨rfl, rfl, rfl, by decide +kernel, rfl, by decide +kernel, by decide +kernel⟩
abbrev N_InvalidOpacity___init__ : List PySem.Str := ["self", "value"]
theorem sc_InvalidOpacity___init__ : FnScope N_InvalidOpacity___init__ ["self", "value"] (defScope s_InvalidOpacity___init__) := ⟨rfl, rfl, rfl, by decide +kernel, rfl, by decide +kernel, by decide +kernel⟩
abbrev N_InvalidLayers___init__ : List PySem.Str := ["self", "index"]
theorem sc_InvalidLayers___init__ : FnScope N_InvalidLayers___init__ ["self", "index"] (defScope s_InvalidLayers___init__) := ⟨rfl, rfl, rfl, by decide +kernel, rfl, by decide +kernel, by decide +kernel⟩
abbrev N_InvalidPoints___init__ : List PySem.Str := ["self", "index"]
theorem sc_InvalidPoints___init__ : FnScope N_InvalidPoints___init__ ["self", "index"] (defScope s_InvalidPoints___init__) := ⟨rfl, rfl, rfl, by decide +kernel, rfl, by decide +kernel, by decide +kernel⟩
abbrev N_InvalidIndex___init__ : List PySem.Str := ["self", "index"]
theorem sc_InvalidIndex___init__ : FnScope N_InvalidIndex___init__ ["self", "index"] (defScope s_InvalidIndex___init__) := ⟨rfl, rfl, rfl, by decide +kernel, rfl, by decide +kernel, by decide +kernel⟩
abbrev N_InvalidText___init__ : List PySem.Str := ["self", "text"]
theorem sc_InvalidText___init__ : FnScope N_InvalidText___init__ ["self", "text"] (defScope s_InvalidText___init__) := ⟨rfl, rfl, rfl, by decide +kernel, rfl, by decide +kernel, by decide +kernel⟩
abbrev N_NotAStack___init__ : List PySem.Str := ["self", "value"]
theorem sc_NotAStack___init__ : FnScope N_NotAStack___init__ ["self", "value"] (defScope s_NotAStack___init__) := ⟨rfl, rfl, rfl, by decide +kernel, rfl, by decide +kernel, by decide +kernel⟩
abbrev N_NotAFraction___init__ : List PySem.Str := ["self", "value"]
theorem sc_NotAFraction___init__ : FnScope N_NotAFraction___init__ ["self", "value"] (defScope s_NotAFraction___init__) := ⟨rfl, rfl, rfl, by decide +kernel, rfl, by decide +kernel, by decide +kernel⟩
abbrev N_NotAValue___init__ : List PySem.Str := ["self", "value"]
theorem sc_NotAValue___init__ : FnScope N_NotAValue___init__ ["self", "value"] (defScope s_NotAValue___init__) := ⟨rfl, rfl, rfl, by decide +kernel, rfl, by decide +kernel, by decide +kernel⟩
abbrev N_NotSeen___init__ : List PySem.Str := ["self", "value"]
theorem sc_NotSeen___init__ : FnScope N_NotSeen___init__ ["self", "value"] (defScope s_NotSeen___init__) := ⟨rfl, rfl, rfl, by decide +kernel, rfl, by decide +kernel, by decide +kernel⟩
abbrev N_TooManyLayers___init__ : List PySem.Str := ["self", "found"]
theorem sc_TooManyLayers___init__ : FnScope N_TooManyLayers___init__ ["self", "found"] (defScope s_TooManyLayers___init__) := ⟨rfl, rfl, rfl, by decide +kernel, rfl, by decide +kernel, by decide +kernel⟩
abbrev N_TooManyCorners___init__ : List PySem.Str := ["self", "found"]
theorem sc_TooManyCorners___init__ : FnScope N_TooManyCorners___init__ ["self", "found"] (defScope s_TooManyCorners___init__) := ⟨rfl, rfl, rfl, by decide +kernel, rfl, by decide +kernel, by decide +kernel⟩
abbrev N_is_whole : List PySem.Str := ["thing"]
theorem sc_is_whole : FnScope N_is_whole ["thing"] (defScope s_is_whole) := ⟨rfl, rfl, rfl, by decide +kernel, rfl, by decide +kernel, by decide +kernel⟩
abbrev N_is_between : List PySem.Str := ["thing", "least", "most"]
theorem sc_is_between : FnScope N_is_between ["thing", "least", "most"] (defScope s_is_between) := ⟨rfl, rfl, rfl, by decide +kernel, rfl, by decide +kernel, by decide +kernel⟩
abbrev N_read_number : List PySem.Str := ["word", "digit"]
theorem sc_read_number : FnScope N_read_number ["word"] (defScope s_read_number) := ⟨rfl, rfl, rfl, by decide +kernel, rfl, by decide +kernel, by decide +kernel⟩
abbrev N_common : List PySem.Str := ["one", "other"]
theorem sc_common : FnScope N_common ["one", "other"] (defScope s_common) := ⟨rfl, rfl, rfl, by decide +kernel, rfl, by decide +kernel, by decide +kernel⟩
abbrev N_lowest_terms : List PySem.Str := ["top", "bottom", "divisor"]
theorem sc_lowest_terms : FnScope N_lowest_terms ["top", "bottom"] (defScope s_lowest_terms) := ⟨rfl, rfl, rfl, by decide +kernel, rfl, by decide +kernel, by decide +kernel⟩
abbrev N_read_pair : List PySem.Str := ["text", "minus", "front", "slash", "back", "top", "bottom", "pair"]
theorem sc_read_pair : FnScope N_read_pair ["text"] (defScope s_read_pair) := ⟨rfl, rfl, rfl, by decide +kernel, rfl, by decide +kernel, by decide +kernel⟩
abbrev N_Frac___init__ : List PySem.Str := ["self", "top", "bottom"]
theorem sc_Frac___init__ : FnScope N_Frac___init__ ["self", "top", "bottom"] (defScope s_Frac___init__) := ⟨rfl, rfl, rfl, by decide +kernel, rfl, by decide +kernel, by decide +kernel⟩
abbrev N_Frac_read : List PySem.Str := ["cls", "text", "pair"]
theorem sc_Frac_read : FnScope N_Frac_read ["cls", "text"] (defScope s_Frac_read) := ⟨rfl, rfl, rfl, by decide +kernel, rfl, by decide +kernel, by decide +kernel⟩
abbrev N_Frac_is_value : List PySem.Str := ["thing"]
theorem sc_Frac_is_value : FnScope N_Frac_is_value ["thing"] (defScope s_Frac_is_value) := ⟨rfl, rfl, rfl, by decide +kernel, rfl, by decide +kernel, by decide +kernel⟩
abbrev N_Frac_top : List PySem.Str := ["self"]
theorem sc_Frac_top : FnScope N_Frac_top ["self"] (defScope s_Frac_top) := ⟨rfl, rfl, rfl, by decide +kernel, rfl, by decide +kernel, by decide +kernel⟩
abbrev N_Frac_bottom : List PySem.Str := ["self"]
theorem sc_Frac_bottom : FnScope N_Frac_bottom ["self"] (defScope s_Frac_bottom) := ⟨rfl, rfl, rfl, by decide +kernel, rfl, by decide +kernel, by decide +kernel⟩
abbrev N_Frac___eq__ : List PySem.Str := ["self", "other"]
theorem sc_Frac___eq__ : FnScope N_Frac___eq__ ["self", "other"] (defScope s_Frac___eq__) := ⟨rfl, rfl, rfl, by decide +kernel, rfl, by decide +kernel, by decide +kernel⟩
abbrev N_Frac___lt__ : List PySem.Str := ["self", "other"]
theorem sc_Frac___lt__ : FnScope N_Frac___lt__ ["self", "other"] (defScope s_Frac___lt__) := ⟨rfl, rfl, rfl, by decide +kernel, rfl, by decide +kernel, by decide +kernel⟩
abbrev N_Frac___le__ : List PySem.Str := ["self", "other"]
theorem sc_Frac___le__ : FnScope N_Frac___le__ ["self", "other"] (defScope s_Frac___le__) := ⟨rfl, rfl, rfl, by decide +kernel, rfl, by decide +kernel, by decide +kernel⟩
abbrev N_Frac___gt__ : List PySem.Str := ["self", "other"]
theorem sc_Frac___gt__ : FnScope N_Frac___gt__ ["self", "other"] (defScope s_Frac___gt__) := ⟨rfl, rfl, rfl, by decide +kernel, rfl, by decide +kernel, by decide +kernel⟩
abbrev N_Frac___ge__ : List PySem.Str := ["self", "other"]
theorem sc_Frac___ge__ : FnScope N_Frac___ge__ ["self", "other"] (defScope s_Frac___ge__) := ⟨rfl, rfl, rfl, by decide +kernel, rfl, by decide +kernel, by decide +kernel⟩
abbrev N_Frac___add__ : List PySem.Str := ["self", "other"]
theorem sc_Frac___add__ : FnScope N_Frac___add__ ["self", "other"] (defScope s_Frac___add__) := ⟨rfl, rfl, rfl, by decide +kernel, rfl, by decide +kernel, by decide +kernel⟩
abbrev N_Frac___sub__ : List PySem.Str := ["self", "other"]
theorem sc_Frac___sub__ : FnScope N_Frac___sub__ ["self", "other"] (defScope s_Frac___sub__) := ⟨rfl, rfl, rfl, by decide +kernel, rfl, by decide +kernel, by decide +kernel⟩
abbrev N_Frac___mul__ : List PySem.Str := ["self", "other"]
theorem sc_Frac___mul__ : FnScope N_Frac___mul__ ["self", "other"] (defScope s_Frac___mul__) := ⟨rfl, rfl, rfl, by decide +kernel, rfl, by decide +kernel, by decide +kernel⟩
abbrev N_Frac___neg__ : List PySem.Str := ["self"]
theorem sc_Frac___neg__ : FnScope N_Frac___neg__ ["self"] (defScope s_Frac___neg__) := ⟨rfl, rfl, rfl, by decide +kernel, rfl, by decide +kernel, by decide +kernel⟩
abbrev N_Frac___abs__ : List PySem.Str := ["self"]
theorem sc_Frac___abs__ : FnScope N_Frac___abs__ ["self"] (defScope s_Frac___abs__) := ⟨rfl, rfl, rfl, by decide +kernel, rfl, by decide +kernel, by decide +kernel⟩
abbrev N_Frac___bool__ : List PySem.Str := ["self"]
theorem sc_Frac___bool__ : FnScope N_Frac___bool__ ["self"] (defScope s_Frac___bool__) := ⟨rfl, rfl, rfl, by decide +kernel, rfl, by decide +kernel, by decide +kernel⟩
abbrev N_Frac___str__ : List PySem.Str := ["self"]
theorem sc_Frac___str__ : FnScope N_Frac___str__ ["self"] (defScope s_Frac___str__) := ⟨rfl, rfl, rfl, by decide +kernel, rfl, by decide +kernel, by decide +kernel⟩
abbrev N_Frac___repr__ : List PySem.Str := ["self"]
theorem sc_Frac___repr__ : FnScope N_Frac___repr__ ["self"] (defScope s_Frac___repr__) := ⟨rfl, rfl, rfl, by decide +kernel, rfl, by decide +kernel, by decide +kernel⟩
abbrev N_Frac_quotient : List PySem.Str := ["self", "divisor"]
theorem sc_Frac_quotient : FnScope N_Frac_quotient ["self", "divisor"] (defScope s_Frac_quotient) := ⟨rfl, rfl, rfl, by decide +kernel, rfl, by decide +kernel, by decide +kernel⟩
abbrev N_check_value : List PySem.Str := ["thing"]
theorem sc_check_value : FnScope N_check_value ["thing"] (defScope s_check_value) := ⟨rfl, rfl, rfl, by decide +kernel, rfl, by decide +kernel, by decide +kernel⟩
abbrev N_lesser : List PySem.Str := ["one", "other"]
theorem sc_lesser : FnScope N_lesser ["one", "other"] (defScope s_lesser) := ⟨rfl, rfl, rfl, by decide +kernel, rfl, by decide +kernel, by decide +kernel⟩
abbrev N_greater : List PySem.Str := ["one", "other"]
theorem sc_greater : FnScope N_greater ["one", "other"] (defScope s_greater) := ⟨rfl, rfl, rfl, by decide +kernel, rfl, by decide +kernel, by decide +kernel⟩
abbrev N_slope_between : List PySem.Str := ["point", "later"]
theorem sc_slope_between : FnScope N_slope_between ["point", "later"] (defScope s_slope_between) := ⟨rfl, rfl, rfl, by decide +kernel, rfl, by decide +kernel, by decide +kernel⟩
abbrev N_is_point : List PySem.Str := ["thing"]
theorem sc_is_point : FnScope N_is_point ["thing"] (defScope s_is_point) := ⟨rfl, rfl, rfl, by decide +kernel, rfl, by decide +kernel, by decide +kernel⟩
abbrev N_first_wrong : List PySem.Str := ["points", "index", "point"]
theorem sc_first_wrong : FnScope N_first_wrong ["points"] (defScope s_first_wrong) := ⟨rfl, rfl, rfl, by decide +kernel, rfl, by decide +kernel, by decide +kernel⟩
abbrev N_without_flat : List PySem.Str := ["points", "found", "index"]
theorem sc_without_flat : FnScope N_without_flat ["points"] (defScope s_without_flat) := ⟨rfl, rfl, rfl, by decide +kernel, rfl, by decide +kernel, by decide +kernel⟩
abbrev N_piece_at : List PySem.Str := ["points", "place", "axis", "index"]
theorem sc_piece_at : FnScope N_piece_at ["points", "place", "axis"] (defScope s_piece_at) := ⟨rfl, rfl, rfl, by decide +kernel, rfl, by decide +kernel, by decide +kernel⟩
abbrev N_value_at : List PySem.Str := ["points", "place", "point", "later"]
theorem sc_value_at : FnScope N_value_at ["points", "place"] (defScope s_value_at) := ⟨rfl, rfl, rfl, by decide +kernel, rfl, by decide +kernel, by decide +kernel⟩
abbrev N_place_of : List PySem.Str := ["points", "value", "point", "later"]
theorem sc_place_of : FnScope N_place_of ["points", "value"] (defScope s_place_of) := ⟨rfl, rfl, rfl, by decide +kernel, rfl, by decide +kernel, by decide +kernel⟩
abbrev N_is_shown : List PySem.Str := ["points", "value"]
theorem sc_is_shown : FnScope N_is_shown ["points", "value"] (defScope s_is_shown) := ⟨rfl, rfl, rfl, by decide +kernel, rfl, by decide +kernel, by decide +kernel⟩
abbrev N_merged : List PySem.Str := ["places", "others", "first", "second"]
theorem sc_merged : FnScope N_merged ["places", "others"] (defScope s_merged) := ⟨rfl, rfl, rfl, by decide +kernel, rfl, by decide +kernel, by decide +kernel⟩
abbrev N_chained : List PySem.Str := ["points", "others", "inner", "corner", "value", "places", "place"]
theorem sc_chained : FnScope N_chained ["points", "others"] (defScope s_chained) := ⟨rfl, rfl, rfl, by decide +kernel, rfl, by decide +kernel, by decide +kernel⟩
abbrev N_mirrored : List PySem.Str := ["points", "one", "place", "value"]
theorem sc_mirrored : FnScope N_mirrored ["points"] (defScope s_mirrored) := ⟨rfl, rfl, rfl, by decide +kernel, rfl, by decide +kernel, by decide +kernel⟩
abbrev N_is_at_most : List PySem.Str := ["points", "others", "places", "place", "value"]
theorem sc_is_at_most : FnScope N_is_at_most ["points", "others"] (defScope s_is_at_most) := ⟨rfl, rfl, rfl, by decide +kernel, rfl, by decide +kernel, by decide +kernel⟩
abbrev N_Curve___init__ : List PySem.Str := ["self", "points", "index"]
theorem sc_Curve___init__ : FnScope N_Curve___init__ ["self", "points"] (defScope s_Curve___init__) := ⟨rfl, rfl, rfl, by decide +kernel, rfl, by decide +kernel, by decide +kernel⟩
abbrev N_Curve_same : List PySem.Str := ["cls"]
theorem sc_Curve_same : FnScope N_Curve_same ["cls"] (defScope s_Curve_same) := ⟨rfl, rfl, rfl, by decide +kernel, rfl, by decide +kernel, by decide +kernel⟩
abbrev N_Curve_points : List PySem.Str := ["self"]
theorem sc_Curve_points : FnScope N_Curve_points ["self"] (defScope s_Curve_points) := ⟨rfl, rfl, rfl, by decide +kernel, rfl, by decide +kernel, by decide +kernel⟩
abbrev N_Curve_corners : List PySem.Str := ["self", "place", "value"]
theorem sc_Curve_corners : FnScope N_Curve_corners ["self"] (defScope s_Curve_corners) := ⟨rfl, rfl, rfl, by decide +kernel, rfl, by decide +kernel, by decide +kernel⟩
abbrev N_Curve_slopes : List PySem.Str := ["self"]
theorem sc_Curve_slopes : FnScope N_Curve_slopes ["self"] (defScope s_Curve_slopes) := ⟨rfl, rfl, rfl, by decide +kernel, rfl, by decide +kernel, by decide +kernel⟩
abbrev N_Curve___call__ : List PySem.Str := ["self", "place"]
theorem sc_Curve___call__ : FnScope N_Curve___call__ ["self", "place"] (defScope s_Curve___call__) := ⟨rfl, rfl, rfl, by decide +kernel, rfl, by decide +kernel, by decide +kernel⟩
abbrev N_Curve_back : List PySem.Str := ["self", "value"]
theorem sc_Curve_back : FnScope N_Curve_back ["self", "value"] (defScope s_Curve_back) := ⟨rfl, rfl, rfl, by decide +kernel, rfl, by decide +kernel, by decide +kernel⟩
abbrev N_Curve___contains__ : List PySem.Str := ["self", "value"]
theorem sc_Curve___contains__ : FnScope N_Curve___contains__ ["self", "value"] (defScope s_Curve___contains__) := ⟨rfl, rfl, rfl, by decide +kernel, rfl, by decide +kernel, by decide +kernel⟩
abbrev N_Curve___len__ : List PySem.Str := ["self"]
theorem sc_Curve___len__ : FnScope N_Curve___len__ ["self"] (defScope s_Curve___len__) := ⟨rfl, rfl, rfl, by decide +kernel, rfl, by decide +kernel, by decide +kernel⟩
abbrev N_Curve___add__ : List PySem.Str := ["self", "other", "points"]
theorem sc_Curve___add__ : FnScope N_Curve___add__ ["self", "other"] (defScope s_Curve___add__) := ⟨rfl, rfl, rfl, by decide +kernel, rfl, by decide +kernel, by decide +kernel⟩
abbrev N_Curve___neg__ : List PySem.Str := ["self", "points"]
theorem sc_Curve___neg__ : FnScope N_Curve___neg__ ["self"] (defScope s_Curve___neg__) := ⟨rfl, rfl, rfl, by decide +kernel, rfl, by decide +kernel, by decide +kernel⟩
abbrev N_Curve___eq__ : List PySem.Str := ["self", "other"]
theorem sc_Curve___eq__ : FnScope N_Curve___eq__ ["self", "other"] (defScope s_Curve___eq__) := ⟨rfl, rfl, rfl, by decide +kernel, rfl, by decide +kernel, by decide +kernel⟩
abbrev N_Curve___le__ : List PySem.Str := ["self", "other"]
theorem sc_Curve___le__ : FnScope N_Curve___le__ ["self", "other"] (defScope s_Curve___le__) := ⟨rfl, rfl, rfl, by decide +kernel, rfl, by decide +kernel, by decide +kernel⟩
abbrev N_Curve___ge__ : List PySem.Str := ["self", "other"]
theorem sc_Curve___ge__ : FnScope N_Curve___ge__ ["self", "other"] (defScope s_Curve___ge__) := ⟨rfl, rfl, rfl, by decide +kernel, rfl, by decide +kernel, by decide +kernel⟩
abbrev N_Curve___lt__ : List PySem.Str := ["self", "other"]
theorem sc_Curve___lt__ : FnScope N_Curve___lt__ ["self", "other"] (defScope s_Curve___lt__) := ⟨rfl, rfl, rfl, by decide +kernel, rfl, by decide +kernel, by decide +kernel⟩
abbrev N_Curve___gt__ : List PySem.Str := ["self", "other"]
theorem sc_Curve___gt__ : FnScope N_Curve___gt__ ["self", "other"] (defScope s_Curve___gt__) := ⟨rfl, rfl, rfl, by decide +kernel, rfl, by decide +kernel, by decide +kernel⟩
abbrev N_Curve___str__ : List PySem.Str := ["self", "place", "value"]
theorem sc_Curve___str__ : FnScope N_Curve___str__ ["self"] (defScope s_Curve___str__) := ⟨rfl, rfl, rfl, by decide +kernel, rfl, by decide +kernel, by decide +kernel⟩
abbrev N_Curve___repr__ : List PySem.Str := ["self"]
theorem sc_Curve___repr__ : FnScope N_Curve___repr__ ["self"] (defScope s_Curve___repr__) := ⟨rfl, rfl, rfl, by decide +kernel, rfl, by decide +kernel, by decide +kernel⟩
abbrev N_target : List PySem.Str := ["mode", "color", "x"]
theorem sc_target : FnScope N_target ["mode", "color", "x"] (defScope s_target) := ⟨rfl, rfl, rfl, by decide +kernel, rfl, by decide +kernel, by decide +kernel⟩
abbrev N_seen_over : List PySem.Str := ["layer", "x"]
theorem sc_seen_over : FnScope N_seen_over ["layer", "x"] (defScope s_seen_over) := ⟨rfl, rfl, rfl, by decide +kernel, rfl, by decide +kernel, by decide +kernel⟩
abbrev N_Layer___init__ : List PySem.Str := ["self", "color", "opacity"]
theorem sc_Layer___init__ : FnScope N_Layer___init__ ["self", "color", "opacity"] (defScope s_Layer___init__) := ⟨rfl, rfl, rfl, by decide +kernel, rfl, by decide +kernel, by decide +kernel⟩
abbrev N_Layer_color : List PySem.Str := ["self"]
theorem sc_Layer_color : FnScope N_Layer_color ["self"] (defScope s_Layer_color) := ⟨rfl, rfl, rfl, by decide +kernel, rfl, by decide +kernel, by decide +kernel⟩
abbrev N_Layer_opacity : List PySem.Str := ["self"]
theorem sc_Layer_opacity : FnScope N_Layer_opacity ["self"] (defScope s_Layer_opacity) := ⟨rfl, rfl, rfl, by decide +kernel, rfl, by decide +kernel, by decide +kernel⟩
abbrev N_Layer_factor : List PySem.Str := ["self"]
theorem sc_Layer_factor : FnScope N_Layer_factor ["self"] (defScope s_Layer_factor) := ⟨rfl, rfl, rfl, by decide +kernel, rfl, by decide +kernel, by decide +kernel⟩
abbrev N_Layer___eq__ : List PySem.Str := ["self", "other"]
theorem sc_Layer___eq__ : FnScope N_Layer___eq__ ["self", "other"] (defScope s_Layer___eq__) := ⟨rfl, rfl, rfl, by decide +kernel, rfl, by decide +kernel, by decide +kernel⟩
abbrev N_Layer___str__ : List PySem.Str := ["self"]
theorem sc_Layer___str__ : FnScope N_Layer___str__ ["self"] (defScope s_Layer___str__) := ⟨rfl, rfl, rfl, by decide +kernel, rfl, by decide +kernel, by decide +kernel⟩
abbrev N_Layer___repr__ : List PySem.Str := ["self"]
theorem sc_Layer___repr__ : FnScope N_Layer___repr__ ["self"] (defScope s_Layer___repr__) := ⟨rfl, rfl, rfl, by decide +kernel, rfl, by decide +kernel, by decide +kernel⟩
abbrev N_Layer_shown : List PySem.Str := ["self", "x"]
theorem sc_Layer_shown : FnScope N_Layer_shown ["self", "x"] (defScope s_Layer_shown) := ⟨rfl, rfl, rfl, by decide +kernel, rfl, by decide +kernel, by decide +kernel⟩
abbrev N_Normal_plain : List PySem.Str := ["self"]
theorem sc_Normal_plain : FnScope N_Normal_plain ["self"] (defScope s_Normal_plain) := ⟨rfl, rfl, rfl, by decide +kernel, rfl, by decide +kernel, by decide +kernel⟩
abbrev N_Darken_plain : List PySem.Str := ["self"]
theorem sc_Darken_plain : FnScope N_Darken_plain ["self"] (defScope s_Darken_plain) := ⟨rfl, rfl, rfl, by decide +kernel, rfl, by decide +kernel, by decide +kernel⟩
abbrev N_Lighten_plain : List PySem.Str := ["self"]
theorem sc_Lighten_plain : FnScope N_Lighten_plain ["self"] (defScope s_Lighten_plain) := ⟨rfl, rfl, rfl, by decide +kernel, rfl, by decide +kernel, by decide +kernel⟩
abbrev N_Multiply_plain : List PySem.Str := ["self", "cover"]
theorem sc_Multiply_plain : FnScope N_Multiply_plain ["self"] (defScope s_Multiply_plain) := ⟨rfl, rfl, rfl, by decide +kernel, rfl, by decide +kernel, by decide +kernel⟩
abbrev N_Screen_plain : List PySem.Str := ["self", "cover"]
theorem sc_Screen_plain : FnScope N_Screen_plain ["self"] (defScope s_Screen_plain) := ⟨rfl, rfl, rfl, by decide +kernel, rfl, by decide +kernel, by decide +kernel⟩
abbrev N_layer_of : List PySem.Str := ["mode", "color", "opacity"]
theorem sc_layer_of : FnScope N_layer_of ["mode", "color", "opacity"] (defScope s_layer_of) := ⟨rfl, rfl, rfl, by decide +kernel, rfl, by decide +kernel, by decide +kernel⟩
abbrev N_parse_layer : List PySem.Str := ["text", "words", "color", "opacity"]
theorem sc_parse_layer : FnScope N_parse_layer ["text"] (defScope s_parse_layer) := ⟨rfl, rfl, rfl, by decide +kernel, rfl, by decide +kernel, by decide +kernel⟩
abbrev N_read_layer : List PySem.Str := ["text", "layer"]
theorem sc_read_layer : FnScope N_read_layer ["text"] (defScope s_read_layer) := ⟨rfl, rfl, rfl, by decide +kernel, rfl, by decide +kernel, by decide +kernel⟩
abbrev N_check_layers : List PySem.Str := ["layers", "index", "layer"]
theorem sc_check_layers : FnScope N_check_layers ["layers"] (defScope s_check_layers) := ⟨rfl, rfl, rfl, by decide +kernel, rfl, by decide +kernel, by decide +kernel⟩
abbrev N_parse_layers : List PySem.Str := ["text", "layers", "part", "layer"]
theorem sc_parse_layers : FnScope N_parse_layers ["text"] (defScope s_parse_layers) := ⟨rfl, rfl, rfl, by decide +kernel, rfl, by decide +kernel, by decide +kernel⟩
abbrev N_crossing : List PySem.Str := ["left", "right", "value", "share"]
theorem sc_crossing : FnScope N_crossing ["left", "right", "value"] (defScope s_crossing) := ⟨rfl, rfl, rfl, by decide +kernel, rfl, by decide +kernel, by decide +kernel⟩
abbrev N_with_bend : List PySem.Str := ["points", "color", "found", "left", "right"]
theorem sc_with_bend : FnScope N_with_bend ["points", "color"] (defScope s_with_bend) := ⟨rfl, rfl, rfl, by decide +kernel, rfl, by decide +kernel, by decide +kernel⟩
abbrev N_points_through : List PySem.Str := ["layers", "points", "layer", "x", "value"]
theorem sc_points_through : FnScope N_points_through ["layers"] (defScope s_points_through) := ⟨rfl, rfl, rfl, by decide +kernel, rfl, by decide +kernel, by decide +kernel⟩
abbrev N_value_through : List PySem.Str := ["layers", "x", "layer"]
theorem sc_value_through : FnScope N_value_through ["layers", "x"] (defScope s_value_through) := ⟨rfl, rfl, rfl, by decide +kernel, rfl, by decide +kernel, by decide +kernel⟩
abbrev N_Stack___init__ : List PySem.Str := ["self", "layers"]
theorem sc_Stack___init__ : FnScope N_Stack___init__ ["self", "layers"] (defScope s_Stack___init__) := ⟨rfl, rfl, rfl, by decide +kernel, rfl, by decide +kernel, by decide +kernel⟩
abbrev N_Stack_read : List PySem.Str := ["cls", "text", "layers"]
theorem sc_Stack_read : FnScope N_Stack_read ["cls", "text"] (defScope s_Stack_read) := ⟨rfl, rfl, rfl, by decide +kernel, rfl, by decide +kernel, by decide +kernel⟩
abbrev N_Stack_layers : List PySem.Str := ["self"]
theorem sc_Stack_layers : FnScope N_Stack_layers ["self"] (defScope s_Stack_layers) := ⟨rfl, rfl, rfl, by decide +kernel, rfl, by decide +kernel, by decide +kernel⟩
abbrev N_Stack_curve : List PySem.Str := ["self", "points"]
theorem sc_Stack_curve : FnScope N_Stack_curve ["self"] (defScope s_Stack_curve) := ⟨rfl, rfl, rfl, by decide +kernel, rfl, by decide +kernel, by decide +kernel⟩
abbrev N_Stack_keeps : List PySem.Str := ["self", "product", "layer"]
theorem sc_Stack_keeps : FnScope N_Stack_keeps ["self"] (defScope s_Stack_keeps) := ⟨rfl, rfl, rfl, by decide +kernel, rfl, by decide +kernel, by decide +kernel⟩
abbrev N_Stack___call__ : List PySem.Str := ["self", "backdrop"]
theorem sc_Stack___call__ : FnScope N_Stack___call__ ["self", "backdrop"] (defScope s_Stack___call__) := ⟨rfl, rfl, rfl, by decide +kernel, rfl, by decide +kernel, by decide +kernel⟩
abbrev N_Stack_steps : List PySem.Str := ["self", "backdrop", "layer"]
theorem gsc_Stack_steps : GScope N_Stack_steps ["self", "backdrop"] (defScope s_Stack_steps) := ⟨rfl, rfl, rfl, by decide +kernel, rfl, by decide +kernel, by decide +kernel⟩
abbrev N_Stack___contains__ : List PySem.Str := ["self", "layer", "each"]
theorem sc_Stack___contains__ : FnScope N_Stack___contains__ ["self", "layer"] (defScope s_Stack___contains__) := ⟨rfl, rfl, rfl, by decide +kernel, rfl, by decide +kernel, by decide +kernel⟩
abbrev N_Stack___getitem__ : List PySem.Str := ["self", "k"]
theorem sc_Stack___getitem__ : FnScope N_Stack___getitem__ ["self", "k"] (defScope s_Stack___getitem__) := ⟨rfl, rfl, rfl, by decide +kernel, rfl, by decide +kernel, by decide +kernel⟩
abbrev N_Stack___iter__ : List PySem.Str := ["self"]
theorem sc_Stack___iter__ : FnScope N_Stack___iter__ ["self"] (defScope s_Stack___iter__) := ⟨rfl, rfl, rfl, by decide +kernel, rfl, by decide +kernel, by decide +kernel⟩
abbrev N_Stack___len__ : List PySem.Str := ["self"]
theorem sc_Stack___len__ : FnScope N_Stack___len__ ["self"] (defScope s_Stack___len__) := ⟨rfl, rfl, rfl, by decide +kernel, rfl, by decide +kernel, by decide +kernel⟩
abbrev N_Stack___add__ : List PySem.Str := ["self", "other", "layers"]
theorem sc_Stack___add__ : FnScope N_Stack___add__ ["self", "other"] (defScope s_Stack___add__) := ⟨rfl, rfl, rfl, by decide +kernel, rfl, by decide +kernel, by decide +kernel⟩
abbrev N_Stack___eq__ : List PySem.Str := ["self", "other"]
theorem sc_Stack___eq__ : FnScope N_Stack___eq__ ["self", "other"] (defScope s_Stack___eq__) := ⟨rfl, rfl, rfl, by decide +kernel, rfl, by decide +kernel, by decide +kernel⟩
abbrev N_Stack___str__ : List PySem.Str := ["self", "layer"]
theorem sc_Stack___str__ : FnScope N_Stack___str__ ["self"] (defScope s_Stack___str__) := ⟨rfl, rfl, rfl, by decide +kernel, rfl, by decide +kernel, by decide +kernel⟩
abbrev N_Stack___repr__ : List PySem.Str := ["self"]
theorem sc_Stack___repr__ : FnScope N_Stack___repr__ ["self"] (defScope s_Stack___repr__) := ⟨rfl, rfl, rfl, by decide +kernel, rfl, by decide +kernel, by decide +kernel⟩
abbrev N_check_stack : List PySem.Str := ["thing"]
theorem sc_check_stack : FnScope N_check_stack ["thing"] (defScope s_check_stack) := ⟨rfl, rfl, rfl, by decide +kernel, rfl, by decide +kernel, by decide +kernel⟩
abbrev N_difference : List PySem.Str := ["one", "other", "x", "value"]
theorem sc_difference : FnScope N_difference ["one", "other"] (defScope s_difference) := ⟨rfl, rfl, rfl, by decide +kernel, rfl, by decide +kernel, by decide +kernel⟩
abbrev N_looks_same : List PySem.Str := ["one", "other"]
theorem sc_looks_same : FnScope N_looks_same ["one", "other"] (defScope s_looks_same) := ⟨rfl, rfl, rfl, by decide +kernel, rfl, by decide +kernel, by decide +kernel⟩
abbrev N__law_cell : List PySem.Str := ["_law_script", "_law_k", "_law_state", "_law_cell_here"]
theorem sc__law_cell : FnScope N__law_cell ["_law_script", "_law_k"] (defScope s__law_cell) := ⟨rfl, rfl, rfl, by decide +kernel, rfl, by decide +kernel, by decide +kernel⟩
abbrev N__law_pool : List PySem.Str := ["_law_cell_here", "_law_digits"]
theorem sc__law_pool : FnScope N__law_pool ["_law_cell_here"] (defScope s__law_pool) := ⟨rfl, rfl, rfl, by decide +kernel, rfl, by decide +kernel, by decide +kernel⟩
abbrev N__law_draw : List PySem.Str := ["_law_pool_here", "_law_many", "_law_state", "_law_digit"]
theorem sc__law_draw : FnScope N__law_draw ["_law_pool_here", "_law_many"] (defScope s__law_draw) := ⟨rfl, rfl, rfl, by decide +kernel, rfl, by decide +kernel, by decide +kernel⟩
abbrev N__law_low : List PySem.Str := ["_law_upon", "_law_below", "_law_a", "_law_b", "_law_sign"]
theorem sc__law_low : FnScope N__law_low ["_law_upon", "_law_below"] (defScope s__law_low) := ⟨rfl, rfl, rfl, by decide +kernel, rfl, by decide +kernel, by decide +kernel⟩
abbrev N__law_gray : List PySem.Str := ["_law_pool_here", "_law_below"]
theorem sc__law_gray : FnScope N__law_gray ["_law_pool_here"] (defScope s__law_gray) := ⟨rfl, rfl, rfl, by decide +kernel, rfl, by decide +kernel, by decide +kernel⟩
abbrev N__law_inside : List PySem.Str := ["_law_pool_here", "_law_below"]
theorem sc__law_inside : FnScope N__law_inside ["_law_pool_here"] (defScope s__law_inside) := ⟨rfl, rfl, rfl, by decide +kernel, rfl, by decide +kernel, by decide +kernel⟩
abbrev N__law_mode : List PySem.Str := ["_law_pool_here"]
theorem sc__law_mode : FnScope N__law_mode ["_law_pool_here"] (defScope s__law_mode) := ⟨rfl, rfl, rfl, by decide +kernel, rfl, by decide +kernel, by decide +kernel⟩
abbrev N__law_sheet : List PySem.Str := ["_law_pool_here"]
theorem sc__law_sheet : FnScope N__law_sheet ["_law_pool_here"] (defScope s__law_sheet) := ⟨rfl, rfl, rfl, by decide +kernel, rfl, by decide +kernel, by decide +kernel⟩
abbrev N__law_word : List PySem.Str := ["_law_x"]
theorem sc__law_word : FnScope N__law_word ["_law_x"] (defScope s__law_word) := ⟨rfl, rfl, rfl, by decide +kernel, rfl, by decide +kernel, by decide +kernel⟩
abbrev N__law_label : List PySem.Str := ["_law_sheet_here"]
theorem sc__law_label : FnScope N__law_label ["_law_sheet_here"] (defScope s__law_label) := ⟨rfl, rfl, rfl, by decide +kernel, rfl, by decide +kernel, by decide +kernel⟩
abbrev N__law_frac : List PySem.Str := ["_law_x"]
theorem sc__law_frac : FnScope N__law_frac ["_law_x"] (defScope s__law_frac) := ⟨rfl, rfl, rfl, by decide +kernel, rfl, by decide +kernel, by decide +kernel⟩
abbrev N__law_layer : List PySem.Str := ["_law_sheet_here", "_law_tint", "_law_cover"]
theorem sc__law_layer : FnScope N__law_layer ["_law_sheet_here"] (defScope s__law_layer) := ⟨rfl, rfl, rfl, by decide +kernel, rfl, by decide +kernel, by decide +kernel⟩
abbrev N__law_small : List PySem.Str := ["_law_pool_here", "_law_below", "_law_more", "_law_tint", "_law_cover"]
theorem sc__law_small : FnScope N__law_small ["_law_pool_here"] (defScope s__law_small) := ⟨rfl, rfl, rfl, by decide +kernel, rfl, by decide +kernel, by decide +kernel⟩
abbrev N__law_sheets : List PySem.Str := ["_law_pool_here", "_law_high", "_law_many", "_law_k"]
theorem sc__law_sheets : FnScope N__law_sheets ["_law_pool_here", "_law_high"] (defScope s__law_sheets) := ⟨rfl, rfl, rfl, by decide +kernel, rfl, by decide +kernel, by decide +kernel⟩
abbrev N__law_written : List PySem.Str := ["_law_sheets_here", "_law_sheet_here"]
theorem sc__law_written : FnScope N__law_written ["_law_sheets_here"] (defScope s__law_written) := ⟨rfl, rfl, rfl, by decide +kernel, rfl, by decide +kernel, by decide +kernel⟩
abbrev N__law_summed : List PySem.Str := ["_law_sheets_here", "_law_box", "_law_sheet_here"]
theorem sc__law_summed : FnScope N__law_summed ["_law_sheets_here"] (defScope s__law_summed) := ⟨rfl, rfl, rfl, by decide +kernel, rfl, by decide +kernel, by decide +kernel⟩
abbrev N__law_of_layers : List PySem.Str := ["_law_layers_here", "_law_box", "_law_made"]
theorem sc__law_of_layers : FnScope N__law_of_layers ["_law_layers_here"] (defScope s__law_of_layers) := ⟨rfl, rfl, rfl, by decide +kernel, rfl, by decide +kernel, by decide +kernel⟩
abbrev N__law_shown : List PySem.Str := ["_law_layers_here", "_law_shade", "_law_found", "_law_made"]
theorem sc__law_shown : FnScope N__law_shown ["_law_layers_here", "_law_shade"] (defScope s__law_shown) := ⟨rfl, rfl, rfl, by decide +kernel, rfl, by decide +kernel, by decide +kernel⟩
abbrev N__law_one_right : List PySem.Str := ["_law_pool_here", "_law_sheets_here", "_law_box", "_law_shade", "_law_parts", "_law_mates", "_law_part", "_law_k", "_law_mate", "_law_rows", "_law_made", "_law_plain_box"]
theorem sc__law_one_right : FnScope N__law_one_right ["_law_pool_here", "_law_sheets_here"] (defScope s__law_one_right) := ⟨rfl, rfl, rfl, by decide +kernel, rfl, by decide +kernel, by decide +kernel⟩
abbrev N__law_right : List PySem.Str := ["_law_pool_here", "_law_high"]
theorem sc__law_right : FnScope N__law_right ["_law_pool_here"] (defScope s__law_right) := ⟨rfl, rfl, rfl, by decide +kernel, rfl, by decide +kernel, by decide +kernel⟩
abbrev N_law : List PySem.Str := ["_law_script", "_law_k"]
theorem sc_law : FnScope N_law ["_law_script"] (defScope s_law) := ⟨rfl, rfl, rfl, by decide +kernel, rfl, by decide +kernel, by decide +kernel⟩
abbrev N_Normal___call__ : List PySem.Str := ["self", "backdrop", "__class__"]
theorem nsc_Normal___call__ : NdefX.NScope N_Normal___call__ ["self", "backdrop"] ["__class__"] (defScope s_Normal___call__) := NdefX.nscope_by (by decide +kernel)
abbrev N_Darken___call__ : List PySem.Str := ["self", "backdrop", "__class__"]
theorem nsc_Darken___call__ : NdefX.NScope N_Darken___call__ ["self", "backdrop"] ["__class__"] (defScope s_Darken___call__) := NdefX.nscope_by (by decide +kernel)
abbrev N_Lighten___call__ : List PySem.Str := ["self", "backdrop", "__class__"]
theorem nsc_Lighten___call__ : NdefX.NScope N_Lighten___call__ ["self", "backdrop"] ["__class__"] (defScope s_Lighten___call__) := NdefX.nscope_by (by decide +kernel)
abbrev N_Multiply___call__ : List PySem.Str := ["self", "backdrop", "__class__"]
theorem nsc_Multiply___call__ : NdefX.NScope N_Multiply___call__ ["self", "backdrop"] ["__class__"] (defScope s_Multiply___call__) := NdefX.nscope_by (by decide +kernel)
abbrev N_Screen___call__ : List PySem.Str := ["self", "backdrop", "__class__"]
theorem nsc_Screen___call__ : NdefX.NScope N_Screen___call__ ["self", "backdrop"] ["__class__"] (defScope s_Screen___call__) := NdefX.nscope_by (by decide +kernel)
section
variable {K : Fg} {mg : PySem.Str → Option Value} (T : Tx ex fn K mg)
include T
theorem f_is_whole : ∃ fd, FunD K d_is_whole.name d_is_whole.qual (defArgs s_is_whole) (defBody s_is_whole) (defScope s_is_whole) (d_is_whole.dvs K) (d_is_whole.kws K) ((aGlo "is_whole" : Fg → Addr) K) fd := T.says.def_ 0
theorem k_is_whole : PySem.W.keepIn K (.ref ((aGlo "is_whole" : Fg → Addr) K)) = true := (f_is_whole T).choose_spec.kp
theorem f_is_between : ∃ fd, FunD K d_is_between.name d_is_between.qual (defArgs s_is_between) (defBody s_is_between) (defScope s_is_between) (d_is_between.dvs K) (d_is_between.kws K) ((aGlo "is_between" : Fg → Addr) K) fd := T.says.def_ 1
theorem k_is_between : PySem.W.keepIn K (.ref ((aGlo "is_between" : Fg → Addr) K)) = true := (f_is_between T).choose_spec.kp
theorem f_read_number : ∃ fd, FunD K d_read_number.name d_read_number.qual (defArgs s_read_number) (defBody s_read_number) (defScope s_read_number) (d_read_number.dvs K) (d_read_number.kws K) ((aGlo "read_number" : Fg → Addr) K) fd := T.says.def_ 2
theorem k_read_number : PySem.W.keepIn K (.ref ((aGlo "read_number" : Fg → Addr) K)) = true := (f_read_number T).choose_spec.kp
theorem f_common : ∃ fd, FunD K d_common.name d_common.qual (defArgs s_common) (defBody s_common) (defScope s_common) (d_common.dvs K) (d_common.kws K) ((aGlo "common" : Fg → Addr) K) fd := T.says.def_ 3
theorem k_common : PySem.W.keepIn K (.ref ((aGlo "common" : Fg → Addr) K)) = true := (f_common T).choose_spec.kp
theorem f_lowest_terms : ∃ fd, FunD K d_lowest_terms.name d_lowest_terms.qual (defArgs s_lowest_terms) (defBody s_lowest_terms) (defScope s_lowest_terms) (d_lowest_terms.dvs K) (d_lowest_terms.kws K) ((aGlo "lowest_terms" : Fg → Addr) K) fd := T.says.def_ 4
theorem k_lowest_terms : PySem.W.keepIn K (.ref ((aGlo "lowest_terms" : Fg → Addr) K)) = true := (f_lowest_terms T).choose_spec.kp
theorem f_read_pair : ∃ fd, FunD K d_read_pair.name d_read_pair.qual (defArgs s_read_pair) (defBody s_read_pair) (defScope s_read_pair) (d_read_pair.dvs K) (d_read_pair.kws K) ((aGlo "read_pair" : Fg → Addr) K) fd := T.says.def_ 5
theorem k_read_pair : PySem.W.keepIn K (.ref ((aGlo "read_pair" : Fg → Addr) K)) = true := (f_read_pair T).choose_spec.kp
theorem f_Frac___init__ : ∃ fd, FunD K d_Frac___init__.name d_Frac___init__.qual (defArgs s_Frac___init__) (defBody s_Frac___init__) (defScope s_Frac___init__) (d_Frac___init__.dvs K) (d_Frac___init__.kws K) ((aMet "Frac" "__init__" : Fg → Addr) K) fd := T.says.def_ 6
theorem f_Frac_read : ∃ fd, FunD K d_Frac_read.name d_Frac_read.qual (defArgs s_Frac_read) (defBody s_Frac_read) (defScope s_Frac_read) (d_Frac_read.dvs K) (d_Frac_read.kws K) ((aRec "Frac" "read" "classmethod" : Fg → Addr) K) fd := T.says.def_ 7
theorem f_Frac_is_value : ∃ fd, FunD K d_Frac_is_value.name d_Frac_is_value.qual (defArgs s_Frac_is_value) (defBody s_Frac_is_value) (defScope s_Frac_is_value) (d_Frac_is_value.dvs K) (d_Frac_is_value.kws K) ((aRec "Frac" "is_value" "staticmethod" : Fg → Addr) K) fd := T.says.def_ 8
theorem f_Frac_top : ∃ fd, FunD K d_Frac_top.name d_Frac_top.qual (defArgs s_Frac_top) (defBody s_Frac_top) (defScope s_Frac_top) (d_Frac_top.dvs K) (d_Frac_top.kws K) ((aRec "Frac" "top" "property" : Fg → Addr) K) fd := T.says.def_ 9
theorem f_Frac_bottom : ∃ fd, FunD K d_Frac_bottom.name d_Frac_bottom.qual (defArgs s_Frac_bottom) (defBody s_Frac_bottom) (defScope s_Frac_bottom) (d_Frac_bottom.dvs K) (d_Frac_bottom.kws K) ((aRec "Frac" "bottom" "property" : Fg → Addr) K) fd := T.says.def_ 10
theorem f_Frac___eq__ : ∃ fd, FunD K d_Frac___eq__.name d_Frac___eq__.qual (defArgs s_Frac___eq__) (defBody s_Frac___eq__) (defScope s_Frac___eq__) (d_Frac___eq__.dvs K) (d_Frac___eq__.kws K) ((aMet "Frac" "__eq__" : Fg → Addr) K) fd := T.says.def_ 11
theorem f_Frac___lt__ : ∃ fd, FunD K d_Frac___lt__.name d_Frac___lt__.qual (defArgs s_Frac___lt__) (defBody s_Frac___lt__) (defScope s_Frac___lt__) (d_Frac___lt__.dvs K) (d_Frac___lt__.kws K) ((aMet "Frac" "__lt__" : Fg → Addr) K) fd := T.says.def_ 12
theorem f_Frac___le__ : ∃ fd, FunD K d_Frac___le__.name d_Frac___le__.qual (defArgs s_Frac___le__) (defBody s_Frac___le__) (defScope s_Frac___le__) (d_Frac___le__.dvs K) (d_Frac___le__.kws K) ((aMet "Frac" "__le__" : Fg → Addr) K) fd := T.says.def_ 13
theorem f_Frac___ge__ : ∃ fd, FunD K d_Frac___ge__.name d_Frac___ge__.qual (defArgs s_Frac___ge__) (defBody s_Frac___ge__) (defScope s_Frac___ge__) (d_Frac___ge__.dvs K) (d_Frac___ge__.kws K) ((aMet "Frac" "__ge__" : Fg → Addr) K) fd := T.says.def_ 14
theorem f_Frac___add__ : ∃ fd, FunD K d_Frac___add__.name d_Frac___add__.qual (defArgs s_Frac___add__) (defBody s_Frac___add__) (defScope s_Frac___add__) (d_Frac___add__.dvs K) (d_Frac___add__.kws K) ((aMet "Frac" "__add__" : Fg → Addr) K) fd := T.says.def_ 15
theorem f_Frac___sub__ : ∃ fd, FunD K d_Frac___sub__.name d_Frac___sub__.qual (defArgs s_Frac___sub__) (defBody s_Frac___sub__) (defScope s_Frac___sub__) (d_Frac___sub__.dvs K) (d_Frac___sub__.kws K) ((aMet "Frac" "__sub__" : Fg → Addr) K) fd := T.says.def_ 16
theorem f_Frac___mul__ : ∃ fd, FunD K d_Frac___mul__.name d_Frac___mul__.qual (defArgs s_Frac___mul__) (defBody s_Frac___mul__) (defScope s_Frac___mul__) (d_Frac___mul__.dvs K) (d_Frac___mul__.kws K) ((aMet "Frac" "__mul__" : Fg → Addr) K) fd := T.says.def_ 17
theorem f_Frac___str__ : ∃ fd, FunD K d_Frac___str__.name d_Frac___str__.qual (defArgs s_Frac___str__) (defBody s_Frac___str__) (defScope s_Frac___str__) (d_Frac___str__.dvs K) (d_Frac___str__.kws K) ((aMet "Frac" "__str__" : Fg → Addr) K) fd := T.says.def_ 18
theorem f_Frac_quotient : ∃ fd, FunD K d_Frac_quotient.name d_Frac_quotient.qual (defArgs s_Frac_quotient) (defBody s_Frac_quotient) (defScope s_Frac_quotient) (d_Frac_quotient.dvs K) (d_Frac_quotient.kws K) ((aMet "Frac" "quotient" : Fg → Addr) K) fd := T.says.def_ 19
theorem f_check_value : ∃ fd, FunD K d_check_value.name d_check_value.qual (defArgs s_check_value) (defBody s_check_value) (defScope s_check_value) (d_check_value.dvs K) (d_check_value.kws K) ((aGlo "check_value" : Fg → Addr) K) fd := T.says.def_ 20
theorem k_check_value : PySem.W.keepIn K (.ref ((aGlo "check_value" : Fg → Addr) K)) = true := (f_check_value T).choose_spec.kp
theorem f_lesser : ∃ fd, FunD K d_lesser.name d_lesser.qual (defArgs s_lesser) (defBody s_lesser) (defScope s_lesser) (d_lesser.dvs K) (d_lesser.kws K) ((aGlo "lesser" : Fg → Addr) K) fd := T.says.def_ 21
theorem k_lesser : PySem.W.keepIn K (.ref ((aGlo "lesser" : Fg → Addr) K)) = true := (f_lesser T).choose_spec.kp
theorem f_greater : ∃ fd, FunD K d_greater.name d_greater.qual (defArgs s_greater) (defBody s_greater) (defScope s_greater) (d_greater.dvs K) (d_greater.kws K) ((aGlo "greater" : Fg → Addr) K) fd := T.says.def_ 22
theorem k_greater : PySem.W.keepIn K (.ref ((aGlo "greater" : Fg → Addr) K)) = true := (f_greater T).choose_spec.kp
theorem f_target : ∃ fd, FunD K d_target.name d_target.qual (defArgs s_target) (defBody s_target) (defScope s_target) (d_target.dvs K) (d_target.kws K) ((aGlo "target" : Fg → Addr) K) fd := T.says.def_ 23
theorem k_target : PySem.W.keepIn K (.ref ((aGlo "target" : Fg → Addr) K)) = true := (f_target T).choose_spec.kp
theorem f_seen_over : ∃ fd, FunD K d_seen_over.name d_seen_over.qual (defArgs s_seen_over) (defBody s_seen_over) (defScope s_seen_over) (d_seen_over.dvs K) (d_seen_over.kws K) ((aGlo "seen_over" : Fg → Addr) K) fd := T.says.def_ 24
theorem k_seen_over : PySem.W.keepIn K (.ref ((aGlo "seen_over" : Fg → Addr) K)) = true := (f_seen_over T).choose_spec.kp
theorem f_Layer___init__ : ∃ fd, FunD K d_Layer___init__.name d_Layer___init__.qual (defArgs s_Layer___init__) (defBody s_Layer___init__) (defScope s_Layer___init__) (d_Layer___init__.dvs K) (d_Layer___init__.kws K) ((aMet "Layer" "__init__" : Fg → Addr) K) fd := T.says.def_ 25
theorem f_Layer___eq__ : ∃ fd, FunD K d_Layer___eq__.name d_Layer___eq__.qual (defArgs s_Layer___eq__) (defBody s_Layer___eq__) (defScope s_Layer___eq__) (d_Layer___eq__.dvs K) (d_Layer___eq__.kws K) ((aMet "Layer" "__eq__" : Fg → Addr) K) fd := T.says.def_ 26
theorem f_Layer___str__ : ∃ fd, FunD K d_Layer___str__.name d_Layer___str__.qual (defArgs s_Layer___str__) (defBody s_Layer___str__) (defScope s_Layer___str__) (d_Layer___str__.dvs K) (d_Layer___str__.kws K) ((aMet "Layer" "__str__" : Fg → Addr) K) fd := T.says.def_ 27
theorem f_Layer_shown : ∃ fd, FunD K d_Layer_shown.name d_Layer_shown.qual (defArgs s_Layer_shown) (defBody s_Layer_shown) (defScope s_Layer_shown) (d_Layer_shown.dvs K) (d_Layer_shown.kws K) ((aMet "Layer" "shown" : Fg → Addr) K) fd := T.says.def_ 28
theorem f_Normal_plain : ∃ fd, FunD K d_Normal_plain.name d_Normal_plain.qual (defArgs s_Normal_plain) (defBody s_Normal_plain) (defScope s_Normal_plain) (d_Normal_plain.dvs K) (d_Normal_plain.kws K) ((aMet "Normal" "plain" : Fg → Addr) K) fd := T.says.def_ 29
theorem f_Darken_plain : ∃ fd, FunD K d_Darken_plain.name d_Darken_plain.qual (defArgs s_Darken_plain) (defBody s_Darken_plain) (defScope s_Darken_plain) (d_Darken_plain.dvs K) (d_Darken_plain.kws K) ((aMet "Darken" "plain" : Fg → Addr) K) fd := T.says.def_ 30
theorem f_Lighten_plain : ∃ fd, FunD K d_Lighten_plain.name d_Lighten_plain.qual (defArgs s_Lighten_plain) (defBody s_Lighten_plain) (defScope s_Lighten_plain) (d_Lighten_plain.dvs K) (d_Lighten_plain.kws K) ((aMet "Lighten" "plain" : Fg → Addr) K) fd := T.says.def_ 31
theorem f_Multiply_plain : ∃ fd, FunD K d_Multiply_plain.name d_Multiply_plain.qual (defArgs s_Multiply_plain) (defBody s_Multiply_plain) (defScope s_Multiply_plain) (d_Multiply_plain.dvs K) (d_Multiply_plain.kws K) ((aMet "Multiply" "plain" : Fg → Addr) K) fd := T.says.def_ 32
theorem f_Screen_plain : ∃ fd, FunD K d_Screen_plain.name d_Screen_plain.qual (defArgs s_Screen_plain) (defBody s_Screen_plain) (defScope s_Screen_plain) (d_Screen_plain.dvs K) (d_Screen_plain.kws K) ((aMet "Screen" "plain" : Fg → Addr) K) fd := T.says.def_ 33
theorem f_layer_of : ∃ fd, FunD K d_layer_of.name d_layer_of.qual (defArgs s_layer_of) (defBody s_layer_of) (defScope s_layer_of) (d_layer_of.dvs K) (d_layer_of.kws K) ((aGlo "layer_of" : Fg → Addr) K) fd := T.says.def_ 34
theorem k_layer_of : PySem.W.keepIn K (.ref ((aGlo "layer_of" : Fg → Addr) K)) = true := (f_layer_of T).choose_spec.kp
theorem f_parse_layer : ∃ fd, FunD K d_parse_layer.name d_parse_layer.qual (defArgs s_parse_layer) (defBody s_parse_layer) (defScope s_parse_layer) (d_parse_layer.dvs K) (d_parse_layer.kws K) ((aGlo "parse_layer" : Fg → Addr) K) fd := T.says.def_ 35
theorem k_parse_layer : PySem.W.keepIn K (.ref ((aGlo "parse_layer" : Fg → Addr) K)) = true := (f_parse_layer T).choose_spec.kp
theorem f_read_layer : ∃ fd, FunD K d_read_layer.name d_read_layer.qual (defArgs s_read_layer) (defBody s_read_layer) (defScope s_read_layer) (d_read_layer.dvs K) (d_read_layer.kws K) ((aGlo "read_layer" : Fg → Addr) K) fd := T.says.def_ 36
theorem k_read_layer : PySem.W.keepIn K (.ref ((aGlo "read_layer" : Fg → Addr) K)) = true := (f_read_layer T).choose_spec.kp
theorem f_check_layers : ∃ fd, FunD K d_check_layers.name d_check_layers.qual (defArgs s_check_layers) (defBody s_check_layers) (defScope s_check_layers) (d_check_layers.dvs K) (d_check_layers.kws K) ((aGlo "check_layers" : Fg → Addr) K) fd := T.says.def_ 37
theorem k_check_layers : PySem.W.keepIn K (.ref ((aGlo "check_layers" : Fg → Addr) K)) = true := (f_check_layers T).choose_spec.kp
theorem f_parse_layers : ∃ fd, FunD K d_parse_layers.name d_parse_layers.qual (defArgs s_parse_layers) (defBody s_parse_layers) (defScope s_parse_layers) (d_parse_layers.dvs K) (d_parse_layers.kws K) ((aGlo "parse_layers" : Fg → Addr) K) fd := T.says.def_ 38
theorem k_parse_layers : PySem.W.keepIn K (.ref ((aGlo "parse_layers" : Fg → Addr) K)) = true := (f_parse_layers T).choose_spec.kp
theorem f_crossing : ∃ fd, FunD K d_crossing.name d_crossing.qual (defArgs s_crossing) (defBody s_crossing) (defScope s_crossing) (d_crossing.dvs K) (d_crossing.kws K) ((aGlo "crossing" : Fg → Addr) K) fd := T.says.def_ 39
theorem k_crossing : PySem.W.keepIn K (.ref ((aGlo "crossing" : Fg → Addr) K)) = true := (f_crossing T).choose_spec.kp
theorem f_with_bend : ∃ fd, FunD K d_with_bend.name d_with_bend.qual (defArgs s_with_bend) (defBody s_with_bend) (defScope s_with_bend) (d_with_bend.dvs K) (d_with_bend.kws K) ((aGlo "with_bend" : Fg → Addr) K) fd := T.says.def_ 40
theorem k_with_bend : PySem.W.keepIn K (.ref ((aGlo "with_bend" : Fg → Addr) K)) = true := (f_with_bend T).choose_spec.kp
theorem f_points_through : ∃ fd, FunD K d_points_through.name d_points_through.qual (defArgs s_points_through) (defBody s_points_through) (defScope s_points_through) (d_points_through.dvs K) (d_points_through.kws K) ((aGlo "points_through" : Fg → Addr) K) fd := T.says.def_ 41
theorem k_points_through : PySem.W.keepIn K (.ref ((aGlo "points_through" : Fg → Addr) K)) = true := (f_points_through T).choose_spec.kp
theorem f_value_through : ∃ fd, FunD K d_value_through.name d_value_through.qual (defArgs s_value_through) (defBody s_value_through) (defScope s_value_through) (d_value_through.dvs K) (d_value_through.kws K) ((aGlo "value_through" : Fg → Addr) K) fd := T.says.def_ 42
theorem k_value_through : PySem.W.keepIn K (.ref ((aGlo "value_through" : Fg → Addr) K)) = true := (f_value_through T).choose_spec.kp
theorem f_Stack___init__ : ∃ fd, FunD K d_Stack___init__.name d_Stack___init__.qual (defArgs s_Stack___init__) (defBody s_Stack___init__) (defScope s_Stack___init__) (d_Stack___init__.dvs K) (d_Stack___init__.kws K) ((aMet "Stack" "__init__" : Fg → Addr) K) fd := T.says.def_ 43
theorem f_Stack_read : ∃ fd, FunD K d_Stack_read.name d_Stack_read.qual (defArgs s_Stack_read) (defBody s_Stack_read) (defScope s_Stack_read) (d_Stack_read.dvs K) (d_Stack_read.kws K) ((aRec "Stack" "read" "classmethod" : Fg → Addr) K) fd := T.says.def_ 44
theorem f_Stack_layers : ∃ fd, FunD K d_Stack_layers.name d_Stack_layers.qual (defArgs s_Stack_layers) (defBody s_Stack_layers) (defScope s_Stack_layers) (d_Stack_layers.dvs K) (d_Stack_layers.kws K) ((aRec "Stack" "layers" "property" : Fg → Addr) K) fd := T.says.def_ 45
theorem f_Stack_keeps : ∃ fd, FunD K d_Stack_keeps.name d_Stack_keeps.qual (defArgs s_Stack_keeps) (defBody s_Stack_keeps) (defScope s_Stack_keeps) (d_Stack_keeps.dvs K) (d_Stack_keeps.kws K) ((aRec "Stack" "keeps" "property" : Fg → Addr) K) fd := T.says.def_ 46
theorem f_Stack___call__ : ∃ fd, FunD K d_Stack___call__.name d_Stack___call__.qual (defArgs s_Stack___call__) (defBody s_Stack___call__) (defScope s_Stack___call__) (d_Stack___call__.dvs K) (d_Stack___call__.kws K) ((aMet "Stack" "__call__" : Fg → Addr) K) fd := T.says.def_ 47
theorem f_Stack_steps : ∃ fd, FunD K d_Stack_steps.name d_Stack_steps.qual (defArgs s_Stack_steps) (defBody s_Stack_steps) (defScope s_Stack_steps) (d_Stack_steps.dvs K) (d_Stack_steps.kws K) ((aMet "Stack" "steps" : Fg → Addr) K) fd := T.says.def_ 48
theorem f_Stack___getitem__ : ∃ fd, FunD K d_Stack___getitem__.name d_Stack___getitem__.qual (defArgs s_Stack___getitem__) (defBody s_Stack___getitem__) (defScope s_Stack___getitem__) (d_Stack___getitem__.dvs K) (d_Stack___getitem__.kws K) ((aMet "Stack" "__getitem__" : Fg → Addr) K) fd := T.says.def_ 49
theorem f_Stack___len__ : ∃ fd, FunD K d_Stack___len__.name d_Stack___len__.qual (defArgs s_Stack___len__) (defBody s_Stack___len__) (defScope s_Stack___len__) (d_Stack___len__.dvs K) (d_Stack___len__.kws K) ((aMet "Stack" "__len__" : Fg → Addr) K) fd := T.says.def_ 50
theorem f_Stack___add__ : ∃ fd, FunD K d_Stack___add__.name d_Stack___add__.qual (defArgs s_Stack___add__) (defBody s_Stack___add__) (defScope s_Stack___add__) (d_Stack___add__.dvs K) (d_Stack___add__.kws K) ((aMet "Stack" "__add__" : Fg → Addr) K) fd := T.says.def_ 51
theorem f_Stack___eq__ : ∃ fd, FunD K d_Stack___eq__.name d_Stack___eq__.qual (defArgs s_Stack___eq__) (defBody s_Stack___eq__) (defScope s_Stack___eq__) (d_Stack___eq__.dvs K) (d_Stack___eq__.kws K) ((aMet "Stack" "__eq__" : Fg → Addr) K) fd := T.says.def_ 52
theorem f_Stack___str__ : ∃ fd, FunD K d_Stack___str__.name d_Stack___str__.qual (defArgs s_Stack___str__) (defBody s_Stack___str__) (defScope s_Stack___str__) (d_Stack___str__.dvs K) (d_Stack___str__.kws K) ((aMet "Stack" "__str__" : Fg → Addr) K) fd := T.says.def_ 53
theorem f_Stack___repr__ : ∃ fd, FunD K d_Stack___repr__.name d_Stack___repr__.qual (defArgs s_Stack___repr__) (defBody s_Stack___repr__) (defScope s_Stack___repr__) (d_Stack___repr__.dvs K) (d_Stack___repr__.kws K) ((aMet "Stack" "__repr__" : Fg → Addr) K) fd := T.says.def_ 54
theorem f_check_stack : ∃ fd, FunD K d_check_stack.name d_check_stack.qual (defArgs s_check_stack) (defBody s_check_stack) (defScope s_check_stack) (d_check_stack.dvs K) (d_check_stack.kws K) ((aGlo "check_stack" : Fg → Addr) K) fd := T.says.def_ 55
theorem k_check_stack : PySem.W.keepIn K (.ref ((aGlo "check_stack" : Fg → Addr) K)) = true := (f_check_stack T).choose_spec.kp
theorem f_difference : ∃ fd, FunD K d_difference.name d_difference.qual (defArgs s_difference) (defBody s_difference) (defScope s_difference) (d_difference.dvs K) (d_difference.kws K) ((aGlo "difference" : Fg → Addr) K) fd := T.says.def_ 56
theorem k_difference : PySem.W.keepIn K (.ref ((aGlo "difference" : Fg → Addr) K)) = true := (f_difference T).choose_spec.kp
theorem f_looks_same : ∃ fd, FunD K d_looks_same.name d_looks_same.qual (defArgs s_looks_same) (defBody s_looks_same) (defScope s_looks_same) (d_looks_same.dvs K) (d_looks_same.kws K) ((aGlo "looks_same" : Fg → Addr) K) fd := T.says.def_ 57
theorem k_looks_same : PySem.W.keepIn K (.ref ((aGlo "looks_same" : Fg → Addr) K)) = true := (f_looks_same T).choose_spec.kp
theorem f__law_cell : ∃ fd, FunD K d__law_cell.name d__law_cell.qual (defArgs s__law_cell) (defBody s__law_cell) (defScope s__law_cell) (d__law_cell.dvs K) (d__law_cell.kws K) ((aGlo "_law_cell" : Fg → Addr) K) fd := T.says.def_ 58
theorem k__law_cell : PySem.W.keepIn K (.ref ((aGlo "_law_cell" : Fg → Addr) K)) = true := (f__law_cell T).choose_spec.kp
theorem f__law_pool : ∃ fd, FunD K d__law_pool.name d__law_pool.qual (defArgs s__law_pool) (defBody s__law_pool) (defScope s__law_pool) (d__law_pool.dvs K) (d__law_pool.kws K) ((aGlo "_law_pool" : Fg → Addr) K) fd := T.says.def_ 59
theorem k__law_pool : PySem.W.keepIn K (.ref ((aGlo "_law_pool" : Fg → Addr) K)) = true := (f__law_pool T).choose_spec.kp
theorem f__law_draw : ∃ fd, FunD K d__law_draw.name d__law_draw.qual (defArgs s__law_draw) (defBody s__law_draw) (defScope s__law_draw) (d__law_draw.dvs K) (d__law_draw.kws K) ((aGlo "_law_draw" : Fg → Addr) K) fd := T.says.def_ 60
theorem k__law_draw : PySem.W.keepIn K (.ref ((aGlo "_law_draw" : Fg → Addr) K)) = true := (f__law_draw T).choose_spec.kp
theorem f__law_low : ∃ fd, FunD K d__law_low.name d__law_low.qual (defArgs s__law_low) (defBody s__law_low) (defScope s__law_low) (d__law_low.dvs K) (d__law_low.kws K) ((aGlo "_law_low" : Fg → Addr) K) fd := T.says.def_ 61
theorem k__law_low : PySem.W.keepIn K (.ref ((aGlo "_law_low" : Fg → Addr) K)) = true := (f__law_low T).choose_spec.kp
theorem f__law_gray : ∃ fd, FunD K d__law_gray.name d__law_gray.qual (defArgs s__law_gray) (defBody s__law_gray) (defScope s__law_gray) (d__law_gray.dvs K) (d__law_gray.kws K) ((aGlo "_law_gray" : Fg → Addr) K) fd := T.says.def_ 62
theorem k__law_gray : PySem.W.keepIn K (.ref ((aGlo "_law_gray" : Fg → Addr) K)) = true := (f__law_gray T).choose_spec.kp
theorem f__law_inside : ∃ fd, FunD K d__law_inside.name d__law_inside.qual (defArgs s__law_inside) (defBody s__law_inside) (defScope s__law_inside) (d__law_inside.dvs K) (d__law_inside.kws K) ((aGlo "_law_inside" : Fg → Addr) K) fd := T.says.def_ 63
theorem k__law_inside : PySem.W.keepIn K (.ref ((aGlo "_law_inside" : Fg → Addr) K)) = true := (f__law_inside T).choose_spec.kp
theorem f__law_mode : ∃ fd, FunD K d__law_mode.name d__law_mode.qual (defArgs s__law_mode) (defBody s__law_mode) (defScope s__law_mode) (d__law_mode.dvs K) (d__law_mode.kws K) ((aGlo "_law_mode" : Fg → Addr) K) fd := T.says.def_ 64
theorem k__law_mode : PySem.W.keepIn K (.ref ((aGlo "_law_mode" : Fg → Addr) K)) = true := (f__law_mode T).choose_spec.kp
theorem f__law_sheet : ∃ fd, FunD K d__law_sheet.name d__law_sheet.qual (defArgs s__law_sheet) (defBody s__law_sheet) (defScope s__law_sheet) (d__law_sheet.dvs K) (d__law_sheet.kws K) ((aGlo "_law_sheet" : Fg → Addr) K) fd := T.says.def_ 65
theorem k__law_sheet : PySem.W.keepIn K (.ref ((aGlo "_law_sheet" : Fg → Addr) K)) = true := (f__law_sheet T).choose_spec.kp
theorem f__law_word : ∃ fd, FunD K d__law_word.name d__law_word.qual (defArgs s__law_word) (defBody s__law_word) (defScope s__law_word) (d__law_word.dvs K) (d__law_word.kws K) ((aGlo "_law_word" : Fg → Addr) K) fd := T.says.def_ 66
theorem k__law_word : PySem.W.keepIn K (.ref ((aGlo "_law_word" : Fg → Addr) K)) = true := (f__law_word T).choose_spec.kp
theorem f__law_label : ∃ fd, FunD K d__law_label.name d__law_label.qual (defArgs s__law_label) (defBody s__law_label) (defScope s__law_label) (d__law_label.dvs K) (d__law_label.kws K) ((aGlo "_law_label" : Fg → Addr) K) fd := T.says.def_ 67
theorem k__law_label : PySem.W.keepIn K (.ref ((aGlo "_law_label" : Fg → Addr) K)) = true := (f__law_label T).choose_spec.kp
theorem f__law_frac : ∃ fd, FunD K d__law_frac.name d__law_frac.qual (defArgs s__law_frac) (defBody s__law_frac) (defScope s__law_frac) (d__law_frac.dvs K) (d__law_frac.kws K) ((aGlo "_law_frac" : Fg → Addr) K) fd := T.says.def_ 68
theorem k__law_frac : PySem.W.keepIn K (.ref ((aGlo "_law_frac" : Fg → Addr) K)) = true := (f__law_frac T).choose_spec.kp
theorem f__law_layer : ∃ fd, FunD K d__law_layer.name d__law_layer.qual (defArgs s__law_layer) (defBody s__law_layer) (defScope s__law_layer) (d__law_layer.dvs K) (d__law_layer.kws K) ((aGlo "_law_layer" : Fg → Addr) K) fd := T.says.def_ 69
theorem k__law_layer : PySem.W.keepIn K (.ref ((aGlo "_law_layer" : Fg → Addr) K)) = true := (f__law_layer T).choose_spec.kp
theorem f__law_small : ∃ fd, FunD K d__law_small.name d__law_small.qual (defArgs s__law_small) (defBody s__law_small) (defScope s__law_small) (d__law_small.dvs K) (d__law_small.kws K) ((aGlo "_law_small" : Fg → Addr) K) fd := T.says.def_ 70
theorem k__law_small : PySem.W.keepIn K (.ref ((aGlo "_law_small" : Fg → Addr) K)) = true := (f__law_small T).choose_spec.kp
theorem f__law_sheets : ∃ fd, FunD K d__law_sheets.name d__law_sheets.qual (defArgs s__law_sheets) (defBody s__law_sheets) (defScope s__law_sheets) (d__law_sheets.dvs K) (d__law_sheets.kws K) ((aGlo "_law_sheets" : Fg → Addr) K) fd := T.says.def_ 71
theorem k__law_sheets : PySem.W.keepIn K (.ref ((aGlo "_law_sheets" : Fg → Addr) K)) = true := (f__law_sheets T).choose_spec.kp
theorem f__law_written : ∃ fd, FunD K d__law_written.name d__law_written.qual (defArgs s__law_written) (defBody s__law_written) (defScope s__law_written) (d__law_written.dvs K) (d__law_written.kws K) ((aGlo "_law_written" : Fg → Addr) K) fd := T.says.def_ 72
theorem k__law_written : PySem.W.keepIn K (.ref ((aGlo "_law_written" : Fg → Addr) K)) = true := (f__law_written T).choose_spec.kp
theorem f__law_summed : ∃ fd, FunD K d__law_summed.name d__law_summed.qual (defArgs s__law_summed) (defBody s__law_summed) (defScope s__law_summed) (d__law_summed.dvs K) (d__law_summed.kws K) ((aGlo "_law_summed" : Fg → Addr) K) fd := T.says.def_ 73
theorem k__law_summed : PySem.W.keepIn K (.ref ((aGlo "_law_summed" : Fg → Addr) K)) = true := (f__law_summed T).choose_spec.kp
theorem f__law_of_layers : ∃ fd, FunD K d__law_of_layers.name d__law_of_layers.qual (defArgs s__law_of_layers) (defBody s__law_of_layers) (defScope s__law_of_layers) (d__law_of_layers.dvs K) (d__law_of_layers.kws K) ((aGlo "_law_of_layers" : Fg → Addr) K) fd := T.says.def_ 74
theorem k__law_of_layers : PySem.W.keepIn K (.ref ((aGlo "_law_of_layers" : Fg → Addr) K)) = true := (f__law_of_layers T).choose_spec.kp
theorem f__law_shown : ∃ fd, FunD K d__law_shown.name d__law_shown.qual (defArgs s__law_shown) (defBody s__law_shown) (defScope s__law_shown) (d__law_shown.dvs K) (d__law_shown.kws K) ((aGlo "_law_shown" : Fg → Addr) K) fd := T.says.def_ 75
theorem k__law_shown : PySem.W.keepIn K (.ref ((aGlo "_law_shown" : Fg → Addr) K)) = true := (f__law_shown T).choose_spec.kp
theorem f__law_one_right : ∃ fd, FunD K d__law_one_right.name d__law_one_right.qual (defArgs s__law_one_right) (defBody s__law_one_right) (defScope s__law_one_right) (d__law_one_right.dvs K) (d__law_one_right.kws K) ((aGlo "_law_one_right" : Fg → Addr) K) fd := T.says.def_ 76
theorem k__law_one_right : PySem.W.keepIn K (.ref ((aGlo "_law_one_right" : Fg → Addr) K)) = true := (f__law_one_right T).choose_spec.kp
theorem f__law_right : ∃ fd, FunD K d__law_right.name d__law_right.qual (defArgs s__law_right) (defBody s__law_right) (defScope s__law_right) (d__law_right.dvs K) (d__law_right.kws K) ((aGlo "_law_right" : Fg → Addr) K) fd := T.says.def_ 77
theorem k__law_right : PySem.W.keepIn K (.ref ((aGlo "_law_right" : Fg → Addr) K)) = true := (f__law_right T).choose_spec.kp
theorem f_law : ∃ fd, FunD K d_law.name d_law.qual (defArgs s_law) (defBody s_law) (defScope s_law) (d_law.dvs K) (d_law.kws K) ((aGlo "law" : Fg → Addr) K) fd := T.says.def_ 78
theorem g_is_whole : mg "is_whole" = some (.ref (aGlo "is_whole" K)) := T.glo _ (T.says.fact 0)
theorem g_is_between : mg "is_between" = some (.ref (aGlo "is_between" K)) := T.glo _ (T.says.fact 1)
theorem g_read_number : mg "read_number" = some (.ref (aGlo "read_number" K)) := T.glo _ (T.says.fact 2)
theorem g_common : mg "common" = some (.ref (aGlo "common" K)) := T.glo _ (T.says.fact 3)
theorem g_lowest_terms : mg "lowest_terms" = some (.ref (aGlo "lowest_terms" K)) := T.glo _ (T.says.fact 4)
theorem g_read_pair : mg "read_pair" = some (.ref (aGlo "read_pair" K)) := T.glo _ (T.says.fact 5)
theorem g_Frac : mg "Frac" = some (.ref (aGlo "Frac" K)) := T.glo _ (T.says.fact 6)
theorem g_check_value : mg "check_value" = some (.ref (aGlo "check_value" K)) := T.glo _ (T.says.fact 7)
theorem g_lesser : mg "lesser" = some (.ref (aGlo "lesser" K)) := T.glo _ (T.says.fact 8)
theorem g_greater : mg "greater" = some (.ref (aGlo "greater" K)) := T.glo _ (T.says.fact 9)
theorem g_target : mg "target" = some (.ref (aGlo "target" K)) := T.glo _ (T.says.fact 10)
theorem g_seen_over : mg "seen_over" = some (.ref (aGlo "seen_over" K)) := T.glo _ (T.says.fact 11)
theorem g_Layer : mg "Layer" = some (.ref (aGlo "Layer" K)) := T.glo _ (T.says.fact 12)
theorem g_Normal : mg "Normal" = some (.ref (aGlo "Normal" K)) := T.glo _ (T.says.fact 13)
theorem g_Darken : mg "Darken" = some (.ref (aGlo "Darken" K)) := T.glo _ (T.says.fact 14)
theorem g_Lighten : mg "Lighten" = some (.ref (aGlo "Lighten" K)) := T.glo _ (T.says.fact 15)
theorem g_Multiply : mg "Multiply" = some (.ref (aGlo "Multiply" K)) := T.glo _ (T.says.fact 16)
theorem g_Screen : mg "Screen" = some (.ref (aGlo "Screen" K)) := T.glo _ (T.says.fact 17)
theorem g_layer_of : mg "layer_of" = some (.ref (aGlo "layer_of" K)) := T.glo _ (T.says.fact 18)
theorem g_parse_layer : mg "parse_layer" = some (.ref (aGlo "parse_layer" K)) := T.glo _ (T.says.fact 19)
theorem g_read_layer : mg "read_layer" = some (.ref (aGlo "read_layer" K)) := T.glo _ (T.says.fact 20)
theorem g_check_layers : mg "check_layers" = some (.ref (aGlo "check_layers" K)) := T.glo _ (T.says.fact 21)
theorem g_parse_layers : mg "parse_layers" = some (.ref (aGlo "parse_layers" K)) := T.glo _ (T.says.fact 22)
theorem g_crossing : mg "crossing" = some (.ref (aGlo "crossing" K)) := T.glo _ (T.says.fact 23)
theorem g_with_bend : mg "with_bend" = some (.ref (aGlo "with_bend" K)) := T.glo _ (T.says.fact 24)
theorem g_points_through : mg "points_through" = some (.ref (aGlo "points_through" K)) := T.glo _ (T.says.fact 25)
theorem g_value_through : mg "value_through" = some (.ref (aGlo "value_through" K)) := T.glo _ (T.says.fact 26)
theorem g_Stack : mg "Stack" = some (.ref (aGlo "Stack" K)) := T.glo _ (T.says.fact 27)
theorem g_check_stack : mg "check_stack" = some (.ref (aGlo "check_stack" K)) := T.glo _ (T.says.fact 28)
theorem g_difference : mg "difference" = some (.ref (aGlo "difference" K)) := T.glo _ (T.says.fact 29)
theorem g_looks_same : mg "looks_same" = some (.ref (aGlo "looks_same" K)) := T.glo _ (T.says.fact 30)
theorem g__law_cell : mg "_law_cell" = some (.ref (aGlo "_law_cell" K)) := T.glo _ (T.says.fact 31)
theorem g__law_pool : mg "_law_pool" = some (.ref (aGlo "_law_pool" K)) := T.glo _ (T.says.fact 32)
theorem g__law_draw : mg "_law_draw" = some (.ref (aGlo "_law_draw" K)) := T.glo _ (T.says.fact 33)
theorem g__law_low : mg "_law_low" = some (.ref (aGlo "_law_low" K)) := T.glo _ (T.says.fact 34)
theorem g__law_gray : mg "_law_gray" = some (.ref (aGlo "_law_gray" K)) := T.glo _ (T.says.fact 35)
theorem g__law_inside : mg "_law_inside" = some (.ref (aGlo "_law_inside" K)) := T.glo _ (T.says.fact 36)
theorem g__law_mode : mg "_law_mode" = some (.ref (aGlo "_law_mode" K)) := T.glo _ (T.says.fact 37)
theorem g__law_sheet : mg "_law_sheet" = some (.ref (aGlo "_law_sheet" K)) := T.glo _ (T.says.fact 38)
theorem g__law_word : mg "_law_word" = some (.ref (aGlo "_law_word" K)) := T.glo _ (T.says.fact 39)
theorem g__law_label : mg "_law_label" = some (.ref (aGlo "_law_label" K)) := T.glo _ (T.says.fact 40)
theorem g__law_frac : mg "_law_frac" = some (.ref (aGlo "_law_frac" K)) := T.glo _ (T.says.fact 41)
theorem g__law_layer : mg "_law_layer" = some (.ref (aGlo "_law_layer" K)) := T.glo _ (T.says.fact 42)
theorem g__law_small : mg "_law_small" = some (.ref (aGlo "_law_small" K)) := T.glo _ (T.says.fact 43)
theorem g__law_sheets : mg "_law_sheets" = some (.ref (aGlo "_law_sheets" K)) := T.glo _ (T.says.fact 44)
theorem g__law_written : mg "_law_written" = some (.ref (aGlo "_law_written" K)) := T.glo _ (T.says.fact 45)
theorem g__law_summed : mg "_law_summed" = some (.ref (aGlo "_law_summed" K)) := T.glo _ (T.says.fact 46)
theorem g__law_of_layers : mg "_law_of_layers" = some (.ref (aGlo "_law_of_layers" K)) := T.glo _ (T.says.fact 47)
theorem g__law_shown : mg "_law_shown" = some (.ref (aGlo "_law_shown" K)) := T.glo _ (T.says.fact 48)
theorem g__law_one_right : mg "_law_one_right" = some (.ref (aGlo "_law_one_right" K)) := T.glo _ (T.says.fact 49)
theorem g__law_right : mg "_law_right" = some (.ref (aGlo "_law_right" K)) := T.glo _ (T.says.fact 50)
theorem g_law : mg "law" = some (.ref (aGlo "law" K)) := T.glo _ (T.says.fact 51)
theorem i_MAX_LAYERS : ∃ t, mg "MAX_LAYERS" = some (.int 24 t) := T.int _ _ (T.says.fact 52)
theorem s_DIGITS : ∃ t, mg "DIGITS" = some (.str "0123456789" t) := T.str _ _ (T.says.fact 53)
theorem s_NO_LAYERS : ∃ t, mg "NO_LAYERS" = some (.str "-" t) := T.str _ _ (T.says.fact 54)
theorem t_MODES : GTup K "MODES" ["normal", "darken", "lighten", "multiply", "screen"] := gtup_ok (T.says.fact 55)
theorem gt_MODES : mg "MODES" = some (.ref (He.ga K "MODES")) := T.glo _ (gtup_ok (T.says.fact 55)).glo
theorem t_BENDING : GTup K "BENDING" ["darken", "lighten"] := gtup_ok (T.says.fact 56)
theorem gt_BENDING : mg "BENDING" = some (.ref (He.ga K "BENDING")) := T.glo _ (gtup_ok (T.says.fact 56)).glo
theorem n_abs : mg "abs" = none := T.free _ (T.says.fact 57)
theorem n_all : mg "all" = none := T.free _ (T.says.fact 58)
theorem n_any : mg "any" = none := T.free _ (T.says.fact 59)
theorem n_bool : mg "bool" = none := T.free _ (T.says.fact 60)
theorem n_divmod : mg "divmod" = none := T.free _ (T.says.fact 61)
theorem n_enumerate : mg "enumerate" = none := T.free _ (T.says.fact 62)
theorem n_int : mg "int" = none := T.free _ (T.says.fact 63)
theorem n_isinstance : mg "isinstance" = none := T.free _ (T.says.fact 64)
theorem n_len : mg "len" = none := T.free _ (T.says.fact 65)
theorem n_list : mg "list" = none := T.free _ (T.says.fact 66)
theorem n_max : mg "max" = none := T.free _ (T.says.fact 67)
theorem n_min : mg "min" = none := T.free _ (T.says.fact 68)
theorem n_range : mg "range" = none := T.free _ (T.says.fact 69)
theorem n_repr : mg "repr" = none := T.free _ (T.says.fact 70)
theorem n_str : mg "str" = none := T.free _ (T.says.fact 71)
theorem n_super : mg "super" = none := T.free _ (T.says.fact 72)
theorem n_tuple : mg "tuple" = none := T.free _ (T.says.fact 73)
theorem n_zip : mg "zip" = none := T.free _ (T.says.fact 74)
theorem c_Frac : ClsX K (aGlo "Frac" K) := clsX_ok (T.says.fact 75)
theorem a_Frac_over : NoAttr K (aGlo "Frac" K) "over" := no_ok (T.says.fact 76)
theorem a_Frac_under : NoAttr K (aGlo "Frac" K) "under" := no_ok (T.says.fact 77)
theorem p_Frac_read : ClX.CMet K (aGlo "Frac" K) (.type "type") "read" (He.ma K (He.ga K "Frac") "read") (aRec "Frac" "read" "classmethod" K) := clm_ok (T.says.fact 78)
theorem p_Frac_is_value : SMet K (aGlo "Frac" K) (.type "type") "is_value" (He.ma K (He.ga K "Frac") "is_value") (aRec "Frac" "is_value" "staticmethod" K) := sta_ok (T.says.fact 79)
theorem p_Frac_top : PropOf K (aGlo "Frac" K) "top" (He.ma K (He.ga K "Frac") "top") (aRec "Frac" "top" "property" K) := prop_ok (T.says.fact 80)
theorem p_Frac_bottom : PropOf K (aGlo "Frac" K) "bottom" (He.ma K (He.ga K "Frac") "bottom") (aRec "Frac" "bottom" "property" K) := prop_ok (T.says.fact 81)
theorem m_Frac___eq__ : OwnM K (aGlo "Frac" K) "__eq__" (aMet "Frac" "__eq__" K) := met_own (T.says.fact 82)
theorem m_Frac___lt__ : OwnM K (aGlo "Frac" K) "__lt__" (aMet "Frac" "__lt__" K) := met_own (T.says.fact 83)
theorem m_Frac___le__ : OwnM K (aGlo "Frac" K) "__le__" (aMet "Frac" "__le__" K) := met_own (T.says.fact 84)
theorem m_Frac___ge__ : OwnM K (aGlo "Frac" K) "__ge__" (aMet "Frac" "__ge__" K) := met_own (T.says.fact 85)
theorem m_Frac___add__ : OwnM K (aGlo "Frac" K) "__add__" (aMet "Frac" "__add__" K) := met_own (T.says.fact 86)
theorem m_Frac___sub__ : OwnM K (aGlo "Frac" K) "__sub__" (aMet "Frac" "__sub__" K) := met_own (T.says.fact 87)
theorem m_Frac___mul__ : OwnM K (aGlo "Frac" K) "__mul__" (aMet "Frac" "__mul__" K) := met_own (T.says.fact 88)
theorem m_Frac___str__ : OwnM K (aGlo "Frac" K) "__str__" (aMet "Frac" "__str__" K) := met_own (T.says.fact 89)
theorem mm_Frac_quotient : Meth K (aGlo "Frac" K) "quotient" (aMet "Frac" "quotient" K) := met_ok (T.says.fact 90)
theorem ne_Frac : PySem.W.findIn K (.ref (aGlo "Frac" K)) "__ne__" = some (some (.builtin "object.__ne__")) := ne_ok (T.says.fact 91)
theorem c_Stack : ClsX K (aGlo "Stack" K) := clsX_ok (T.says.fact 92)
theorem a_Stack_laid : NoAttr K (aGlo "Stack" K) "laid" := no_ok (T.says.fact 93)
theorem p_Stack_read : ClX.CMet K (aGlo "Stack" K) (.type "type") "read" (He.ma K (He.ga K "Stack") "read") (aRec "Stack" "read" "classmethod" K) := clm_ok (T.says.fact 94)
theorem p_Stack_layers : PropOf K (aGlo "Stack" K) "layers" (He.ma K (He.ga K "Stack") "layers") (aRec "Stack" "layers" "property" K) := prop_ok (T.says.fact 95)
theorem p_Stack_keeps : PropOf K (aGlo "Stack" K) "keeps" (He.ma K (He.ga K "Stack") "keeps") (aRec "Stack" "keeps" "property" K) := prop_ok (T.says.fact 96)
theorem mm_Stack_steps : Meth K (aGlo "Stack" K) "steps" (aMet "Stack" "steps" K) := met_ok (T.says.fact 97)
theorem m_Stack___getitem__ : OwnM K (aGlo "Stack" K) "__getitem__" (aMet "Stack" "__getitem__" K) := met_own (T.says.fact 98)
theorem m_Stack___len__ : OwnM K (aGlo "Stack" K) "__len__" (aMet "Stack" "__len__" K) := met_own (T.says.fact 99)
theorem m_Stack___add__ : OwnM K (aGlo "Stack" K) "__add__" (aMet "Stack" "__add__" K) := met_own (T.says.fact 100)
theorem m_Stack___eq__ : OwnM K (aGlo "Stack" K) "__eq__" (aMet "Stack" "__eq__" K) := met_own (T.says.fact 101)
theorem m_Stack___str__ : OwnM K (aGlo "Stack" K) "__str__" (aMet "Stack" "__str__" K) := met_own (T.says.fact 102)
theorem m_Stack___repr__ : OwnM K (aGlo "Stack" K) "__repr__" (aMet "Stack" "__repr__" K) := met_own (T.says.fact 103)
theorem ne_Stack : PySem.W.findIn K (.ref (aGlo "Stack" K)) "__ne__" = some (some (.builtin "object.__ne__")) := ne_ok (T.says.fact 104)
theorem co_Stack : StX.CallO K (aGlo "Stack" K) (aMet "Stack" "__call__" K) := callO_ok (T.says.fact 105)
theorem c_Normal : ClsX K (aGlo "Normal" K) := clsX_ok (T.says.fact 106)
theorem a_Normal_cover : NoAttr K (aGlo "Normal" K) "cover" := no_ok (T.says.fact 107)
theorem a_Normal_rest : NoAttr K (aGlo "Normal" K) "rest" := no_ok (T.says.fact 108)
theorem a_Normal_tint : NoAttr K (aGlo "Normal" K) "tint" := no_ok (T.says.fact 109)
theorem e_Normal___init__ : (aMet "Normal" "__init__" K) = (aMet "Layer" "__init__" K) := of_decide_eq_true (T.says.fact 110)
theorem m_Normal___eq__ : OwnM K (aGlo "Normal" K) "__eq__" (aMet "Normal" "__eq__" K) := met_own (T.says.fact 111)
theorem e_Normal___eq__ : (aMet "Normal" "__eq__" K) = (aMet "Layer" "__eq__" K) := of_decide_eq_true (T.says.fact 112)
theorem m_Normal___str__ : OwnM K (aGlo "Normal" K) "__str__" (aMet "Normal" "__str__" K) := met_own (T.says.fact 113)
theorem e_Normal___str__ : (aMet "Normal" "__str__" K) = (aMet "Layer" "__str__" K) := of_decide_eq_true (T.says.fact 114)
theorem mm_Normal_plain : Meth K (aGlo "Normal" K) "plain" (aMet "Normal" "plain" K) := met_ok (T.says.fact 115)
theorem co_Normal : StX.CallO K (aGlo "Normal" K) (aMet "Normal" "__call__" K) := callO_ok (T.says.fact 116)
theorem k_Normal_MODE : ∃ u, Con K (aGlo "Normal" K) "MODE" (.str "normal") u := con_ok (T.says.fact 117)
theorem kit_Normal_Layer : PySem.W.kitOne K (.ref (aGlo "Normal" K)) (.ref (aGlo "Layer" K)) = some true := of_decide_eq_true (T.says.fact 118)
theorem c_Darken : ClsX K (aGlo "Darken" K) := clsX_ok (T.says.fact 119)
theorem a_Darken_cover : NoAttr K (aGlo "Darken" K) "cover" := no_ok (T.says.fact 120)
theorem a_Darken_rest : NoAttr K (aGlo "Darken" K) "rest" := no_ok (T.says.fact 121)
theorem a_Darken_tint : NoAttr K (aGlo "Darken" K) "tint" := no_ok (T.says.fact 122)
theorem e_Darken___init__ : (aMet "Darken" "__init__" K) = (aMet "Layer" "__init__" K) := of_decide_eq_true (T.says.fact 123)
theorem m_Darken___eq__ : OwnM K (aGlo "Darken" K) "__eq__" (aMet "Darken" "__eq__" K) := met_own (T.says.fact 124)
theorem e_Darken___eq__ : (aMet "Darken" "__eq__" K) = (aMet "Layer" "__eq__" K) := of_decide_eq_true (T.says.fact 125)
theorem m_Darken___str__ : OwnM K (aGlo "Darken" K) "__str__" (aMet "Darken" "__str__" K) := met_own (T.says.fact 126)
theorem e_Darken___str__ : (aMet "Darken" "__str__" K) = (aMet "Layer" "__str__" K) := of_decide_eq_true (T.says.fact 127)
theorem mm_Darken_plain : Meth K (aGlo "Darken" K) "plain" (aMet "Darken" "plain" K) := met_ok (T.says.fact 128)
theorem co_Darken : StX.CallO K (aGlo "Darken" K) (aMet "Darken" "__call__" K) := callO_ok (T.says.fact 129)
theorem k_Darken_MODE : ∃ u, Con K (aGlo "Darken" K) "MODE" (.str "darken") u := con_ok (T.says.fact 130)
theorem kit_Darken_Layer : PySem.W.kitOne K (.ref (aGlo "Darken" K)) (.ref (aGlo "Layer" K)) = some true := of_decide_eq_true (T.says.fact 131)
theorem c_Lighten : ClsX K (aGlo "Lighten" K) := clsX_ok (T.says.fact 132)
theorem a_Lighten_cover : NoAttr K (aGlo "Lighten" K) "cover" := no_ok (T.says.fact 133)
theorem a_Lighten_rest : NoAttr K (aGlo "Lighten" K) "rest" := no_ok (T.says.fact 134)
theorem a_Lighten_tint : NoAttr K (aGlo "Lighten" K) "tint" := no_ok (T.says.fact 135)
theorem e_Lighten___init__ : (aMet "Lighten" "__init__" K) = (aMet "Layer" "__init__" K) := of_decide_eq_true (T.says.fact 136)
theorem m_Lighten___eq__ : OwnM K (aGlo "Lighten" K) "__eq__" (aMet "Lighten" "__eq__" K) := met_own (T.says.fact 137)
theorem e_Lighten___eq__ : (aMet "Lighten" "__eq__" K) = (aMet "Layer" "__eq__" K) := of_decide_eq_true (T.says.fact 138)
theorem m_Lighten___str__ : OwnM K (aGlo "Lighten" K) "__str__" (aMet "Lighten" "__str__" K) := met_own (T.says.fact 139)
theorem e_Lighten___str__ : (aMet "Lighten" "__str__" K) = (aMet "Layer" "__str__" K) := of_decide_eq_true (T.says.fact 140)
theorem mm_Lighten_plain : Meth K (aGlo "Lighten" K) "plain" (aMet "Lighten" "plain" K) := met_ok (T.says.fact 141)
theorem co_Lighten : StX.CallO K (aGlo "Lighten" K) (aMet "Lighten" "__call__" K) := callO_ok (T.says.fact 142)
theorem k_Lighten_MODE : ∃ u, Con K (aGlo "Lighten" K) "MODE" (.str "lighten") u := con_ok (T.says.fact 143)
theorem kit_Lighten_Layer : PySem.W.kitOne K (.ref (aGlo "Lighten" K)) (.ref (aGlo "Layer" K)) = some true := of_decide_eq_true (T.says.fact 144)
theorem c_Multiply : ClsX K (aGlo "Multiply" K) := clsX_ok (T.says.fact 145)
theorem a_Multiply_cover : NoAttr K (aGlo "Multiply" K) "cover" := no_ok (T.says.fact 146)
theorem a_Multiply_rest : NoAttr K (aGlo "Multiply" K) "rest" := no_ok (T.says.fact 147)
theorem a_Multiply_tint : NoAttr K (aGlo "Multiply" K) "tint" := no_ok (T.says.fact 148)
theorem e_Multiply___init__ : (aMet "Multiply" "__init__" K) = (aMet "Layer" "__init__" K) := of_decide_eq_true (T.says.fact 149)
theorem m_Multiply___eq__ : OwnM K (aGlo "Multiply" K) "__eq__" (aMet "Multiply" "__eq__" K) := met_own (T.says.fact 150)
theorem e_Multiply___eq__ : (aMet "Multiply" "__eq__" K) = (aMet "Layer" "__eq__" K) := of_decide_eq_true (T.says.fact 151)
theorem m_Multiply___str__ : OwnM K (aGlo "Multiply" K) "__str__" (aMet "Multiply" "__str__" K) := met_own (T.says.fact 152)
theorem e_Multiply___str__ : (aMet "Multiply" "__str__" K) = (aMet "Layer" "__str__" K) := of_decide_eq_true (T.says.fact 153)
theorem mm_Multiply_plain : Meth K (aGlo "Multiply" K) "plain" (aMet "Multiply" "plain" K) := met_ok (T.says.fact 154)
theorem co_Multiply : StX.CallO K (aGlo "Multiply" K) (aMet "Multiply" "__call__" K) := callO_ok (T.says.fact 155)
theorem k_Multiply_MODE : ∃ u, Con K (aGlo "Multiply" K) "MODE" (.str "multiply") u := con_ok (T.says.fact 156)
theorem kit_Multiply_Layer : PySem.W.kitOne K (.ref (aGlo "Multiply" K)) (.ref (aGlo "Layer" K)) = some true := of_decide_eq_true (T.says.fact 157)
theorem c_Screen : ClsX K (aGlo "Screen" K) := clsX_ok (T.says.fact 158)
theorem a_Screen_cover : NoAttr K (aGlo "Screen" K) "cover" := no_ok (T.says.fact 159)
theorem a_Screen_rest : NoAttr K (aGlo "Screen" K) "rest" := no_ok (T.says.fact 160)
theorem a_Screen_tint : NoAttr K (aGlo "Screen" K) "tint" := no_ok (T.says.fact 161)
theorem e_Screen___init__ : (aMet "Screen" "__init__" K) = (aMet "Layer" "__init__" K) := of_decide_eq_true (T.says.fact 162)
theorem m_Screen___eq__ : OwnM K (aGlo "Screen" K) "__eq__" (aMet "Screen" "__eq__" K) := met_own (T.says.fact 163)
theorem e_Screen___eq__ : (aMet "Screen" "__eq__" K) = (aMet "Layer" "__eq__" K) := of_decide_eq_true (T.says.fact 164)
theorem m_Screen___str__ : OwnM K (aGlo "Screen" K) "__str__" (aMet "Screen" "__str__" K) := met_own (T.says.fact 165)
theorem e_Screen___str__ : (aMet "Screen" "__str__" K) = (aMet "Layer" "__str__" K) := of_decide_eq_true (T.says.fact 166)
theorem mm_Screen_plain : Meth K (aGlo "Screen" K) "plain" (aMet "Screen" "plain" K) := met_ok (T.says.fact 167)
theorem co_Screen : StX.CallO K (aGlo "Screen" K) (aMet "Screen" "__call__" K) := callO_ok (T.says.fact 168)
theorem k_Screen_MODE : ∃ u, Con K (aGlo "Screen" K) "MODE" (.str "screen") u := con_ok (T.says.fact 169)
theorem kit_Screen_Layer : PySem.W.kitOne K (.ref (aGlo "Screen" K)) (.ref (aGlo "Layer" K)) = some true := of_decide_eq_true (T.says.fact 170)
theorem u_Normal___call__ : supB K (aMet "Normal" "__call__" K) (aGlo "Normal" K) (aMet "Layer" "shown" K) "shown" file = true := (T.says.fact 171)
theorem u_Darken___call__ : supB K (aMet "Darken" "__call__" K) (aGlo "Darken" K) (aMet "Layer" "shown" K) "shown" file = true := (T.says.fact 172)
theorem u_Lighten___call__ : supB K (aMet "Lighten" "__call__" K) (aGlo "Lighten" K) (aMet "Layer" "shown" K) "shown" file = true := (T.says.fact 173)
theorem u_Multiply___call__ : supB K (aMet "Multiply" "__call__" K) (aGlo "Multiply" K) (aMet "Layer" "shown" K) "shown" file = true := (T.says.fact 174)
theorem u_Screen___call__ : supB K (aMet "Screen" "__call__" K) (aGlo "Screen" K) (aMet "Layer" "shown" K) "shown" file = true := (T.says.fact 175)
theorem nf_Normal_Darken : PySem.W.notFirst K (aGlo "Normal" K) (.ref (aGlo "Darken" K)) = true := (T.says.fact 176)
theorem nf_Normal_Lighten : PySem.W.notFirst K (aGlo "Normal" K) (.ref (aGlo "Lighten" K)) = true := (T.says.fact 177)
theorem nf_Normal_Multiply : PySem.W.notFirst K (aGlo "Normal" K) (.ref (aGlo "Multiply" K)) = true := (T.says.fact 178)
theorem nf_Normal_Screen : PySem.W.notFirst K (aGlo "Normal" K) (.ref (aGlo "Screen" K)) = true := (T.says.fact 179)
theorem nf_Darken_Normal : PySem.W.notFirst K (aGlo "Darken" K) (.ref (aGlo "Normal" K)) = true := (T.says.fact 180)
theorem nf_Darken_Lighten : PySem.W.notFirst K (aGlo "Darken" K) (.ref (aGlo "Lighten" K)) = true := (T.says.fact 181)
theorem nf_Darken_Multiply : PySem.W.notFirst K (aGlo "Darken" K) (.ref (aGlo "Multiply" K)) = true := (T.says.fact 182)
theorem nf_Darken_Screen : PySem.W.notFirst K (aGlo "Darken" K) (.ref (aGlo "Screen" K)) = true := (T.says.fact 183)
theorem nf_Lighten_Normal : PySem.W.notFirst K (aGlo "Lighten" K) (.ref (aGlo "Normal" K)) = true := (T.says.fact 184)
theorem nf_Lighten_Darken : PySem.W.notFirst K (aGlo "Lighten" K) (.ref (aGlo "Darken" K)) = true := (T.says.fact 185)
theorem nf_Lighten_Multiply : PySem.W.notFirst K (aGlo "Lighten" K) (.ref (aGlo "Multiply" K)) = true := (T.says.fact 186)
theorem nf_Lighten_Screen : PySem.W.notFirst K (aGlo "Lighten" K) (.ref (aGlo "Screen" K)) = true := (T.says.fact 187)
theorem nf_Multiply_Normal : PySem.W.notFirst K (aGlo "Multiply" K) (.ref (aGlo "Normal" K)) = true := (T.says.fact 188)
theorem nf_Multiply_Darken : PySem.W.notFirst K (aGlo "Multiply" K) (.ref (aGlo "Darken" K)) = true := (T.says.fact 189)
theorem nf_Multiply_Lighten : PySem.W.notFirst K (aGlo "Multiply" K) (.ref (aGlo "Lighten" K)) = true := (T.says.fact 190)
theorem nf_Multiply_Screen : PySem.W.notFirst K (aGlo "Multiply" K) (.ref (aGlo "Screen" K)) = true := (T.says.fact 191)
theorem nf_Screen_Normal : PySem.W.notFirst K (aGlo "Screen" K) (.ref (aGlo "Normal" K)) = true := (T.says.fact 192)
theorem nf_Screen_Darken : PySem.W.notFirst K (aGlo "Screen" K) (.ref (aGlo "Darken" K)) = true := (T.says.fact 193)
theorem nf_Screen_Lighten : PySem.W.notFirst K (aGlo "Screen" K) (.ref (aGlo "Lighten" K)) = true := (T.says.fact 194)
theorem nf_Screen_Multiply : PySem.W.notFirst K (aGlo "Screen" K) (.ref (aGlo "Multiply" K)) = true := (T.says.fact 195)
theorem q_Normal_Darken : aGlo "Normal" K ≠ aGlo "Darken" K := of_decide_eq_true (T.says.fact 196)
theorem q_Normal_Lighten : aGlo "Normal" K ≠ aGlo "Lighten" K := of_decide_eq_true (T.says.fact 197)
theorem q_Normal_Multiply : aGlo "Normal" K ≠ aGlo "Multiply" K := of_decide_eq_true (T.says.fact 198)
theorem q_Normal_Screen : aGlo "Normal" K ≠ aGlo "Screen" K := of_decide_eq_true (T.says.fact 199)
theorem q_Normal_Frac : aGlo "Normal" K ≠ aGlo "Frac" K := of_decide_eq_true (T.says.fact 200)
theorem q_Normal_Stack : aGlo "Normal" K ≠ aGlo "Stack" K := of_decide_eq_true (T.says.fact 201)
theorem q_Darken_Lighten : aGlo "Darken" K ≠ aGlo "Lighten" K := of_decide_eq_true (T.says.fact 202)
theorem q_Darken_Multiply : aGlo "Darken" K ≠ aGlo "Multiply" K := of_decide_eq_true (T.says.fact 203)
theorem q_Darken_Screen : aGlo "Darken" K ≠ aGlo "Screen" K := of_decide_eq_true (T.says.fact 204)
theorem q_Darken_Frac : aGlo "Darken" K ≠ aGlo "Frac" K := of_decide_eq_true (T.says.fact 205)
theorem q_Darken_Stack : aGlo "Darken" K ≠ aGlo "Stack" K := of_decide_eq_true (T.says.fact 206)
theorem q_Lighten_Multiply : aGlo "Lighten" K ≠ aGlo "Multiply" K := of_decide_eq_true (T.says.fact 207)
theorem q_Lighten_Screen : aGlo "Lighten" K ≠ aGlo "Screen" K := of_decide_eq_true (T.says.fact 208)
theorem q_Lighten_Frac : aGlo "Lighten" K ≠ aGlo "Frac" K := of_decide_eq_true (T.says.fact 209)
theorem q_Lighten_Stack : aGlo "Lighten" K ≠ aGlo "Stack" K := of_decide_eq_true (T.says.fact 210)
theorem q_Multiply_Screen : aGlo "Multiply" K ≠ aGlo "Screen" K := of_decide_eq_true (T.says.fact 211)
theorem q_Multiply_Frac : aGlo "Multiply" K ≠ aGlo "Frac" K := of_decide_eq_true (T.says.fact 212)
theorem q_Multiply_Stack : aGlo "Multiply" K ≠ aGlo "Stack" K := of_decide_eq_true (T.says.fact 213)
theorem q_Screen_Frac : aGlo "Screen" K ≠ aGlo "Frac" K := of_decide_eq_true (T.says.fact 214)
theorem q_Screen_Stack : aGlo "Screen" K ≠ aGlo "Stack" K := of_decide_eq_true (T.says.fact 215)
theorem q_Frac_Stack : aGlo "Frac" K ≠ aGlo "Stack" K := of_decide_eq_true (T.says.fact 216)
end
end TX
set_option linter.all false
set_option maxRecDepth 100000
namespace PM
/-! whole numbers and fractions, bounds -/
theorem gcd_emod (x y : Int) : Int.gcd y (x % y) = Int.gcd y x := by
  have h := Int.gcd_add_mul_right_right y (x % y) (x / y)
  rw [Int.emod_add_ediv_mul] at h
  exact h.symm
def gcdI (a b : Int) : Int := if a = 0 ∧ b = 0 then 1 else (Int.gcd a b : Int)
def Bd (n : Nat) (q : Rat) : Prop := q.num.natAbs < 2 ^ n ∧ q.den < 2 ^ n
def Ok2 (a b : Rat) : Prop := ∃ n m, Bd n a ∧ Bd m b ∧ n + m ≤ 9000
theorem Bd.pos {n : Nat} {q : Rat} (h : Bd n q) : 0 < n := by
  have h1 := q.den_pos
  have h2 := h.2
  rcases Nat.eq_zero_or_pos n with e | e
  · subst e
    simp at h2
    omega
  · exact e
theorem Bd.mono {n m : Nat} {q : Rat} (h : Bd n q) (hn : n ≤ m) : Bd m q :=
  have e : 2 ^ n ≤ 2 ^ m := Nat.pow_le_pow_right (by decide) hn
  ⟨Nat.lt_of_lt_of_le h.1 e, Nat.lt_of_lt_of_le h.2 e⟩
theorem mul_lt_pow {a b n m : Nat} (h1 : a < 2 ^ n) (h2 : b < 2 ^ m) : a * b < 2 ^ (n + m) := by
  rw [Nat.pow_add]
  exact Nat.mul_lt_mul'' h1 h2
theorem bd_divInt {n : Nat} {a b : Int} (hb : 0 < b) (h1 : a.natAbs < 2 ^ n) (h2 : b.natAbs < 2 ^ n) : Bd n (Rat.divInt a b) := by
  constructor
  · rw [Rat.num_divInt, Int.sign_eq_one_of_pos hb, Int.one_mul]
    refine Nat.lt_of_le_of_lt ?_ h1
    exact Int.natAbs_ediv_le_natAbs a _
  · rw [Rat.den_divInt, if_neg (by omega)]
    exact Nat.lt_of_le_of_lt (Nat.div_le_self _ _) h2
theorem add_fr (a b : Rat) : Rat.divInt (a.num * (b.den : Int) + b.num * (a.den : Int)) ((a.den : Int) * (b.den : Int)) = a + b := by
  rw [Rat.add_def', ← Rat.divInt_ofNat]
  rfl
theorem sub_fr (a b : Rat) : Rat.divInt (a.num * (b.den : Int) - b.num * (a.den : Int)) ((a.den : Int) * (b.den : Int)) = a - b := by
  rw [Rat.sub_def', ← Rat.divInt_ofNat]
  rfl
theorem mul_fr (a b : Rat) : Rat.divInt (a.num * b.num) ((a.den : Int) * (b.den : Int)) = a * b := by
  rw [Rat.mul_def', ← Rat.divInt_ofNat]
  rfl
theorem div_fr (a b : Rat) : Rat.divInt (a.num * (b.den : Int)) ((a.den : Int) * b.num) = a / b := by
  rw [Rat.div_def, Rat.inv_def]
  conv => rhs; rw [← Rat.num_divInt_den a]
  rw [Rat.divInt_mul_divInt]
theorem den_pos (a : Rat) : 0 < (a.den : Int) := by
  have := a.den_pos
  omega
theorem lt_fr (a b : Rat) : decide (a.num * (b.den : Int) < b.num * (a.den : Int)) = decide (a < b) := by
  rw [decide_eq_decide, Rat.lt_iff]
theorem le_fr (a b : Rat) : decide (a.num * (b.den : Int) ≤ b.num * (a.den : Int)) = decide (a ≤ b) := by
  rw [decide_eq_decide, Rat.le_iff]
theorem eq_fr (a b : Rat) : (decide (a.num = b.num) && decide ((a.den : Int) = (b.den : Int))) = decide (a = b) := by
  rw [Bool.eq_iff_iff]
  simp only [Bool.and_eq_true, decide_eq_true_eq]
  constructor
  · rintro ⟨h1, h2⟩
    exact Rat.ext h1 (by omega)
  · rintro rfl
    exact ⟨rfl, rfl⟩
theorem bd_add {n m : Nat} {a b : Rat} (h1 : Bd n a) (h2 : Bd m b) : Bd (n + m + 1) (a + b) := by
  rw [← add_fr]
  refine bd_divInt (Int.mul_pos (den_pos a) (den_pos b)) ?_ ?_
  · have e1 := mul_lt_pow h1.1 h2.2
    have e2 := mul_lt_pow h2.1 h1.2
    have e3 : (a.num * (b.den : Int) + b.num * (a.den : Int)).natAbs ≤ a.num.natAbs * b.den + b.num.natAbs * a.den := by
      refine Nat.le_trans (Int.natAbs_add_le _ _) ?_
      rw [Int.natAbs_mul, Int.natAbs_mul]
      exact Nat.le_refl _
    rw [Nat.add_comm m n] at e2
    have e4 : 2 ^ (n + m + 1) = 2 ^ (n + m) + 2 ^ (n + m) := by rw [Nat.pow_succ]; omega
    omega
  · rw [Int.natAbs_mul]
    have e := mul_lt_pow h1.2 h2.2
    have : 2 ^ (n + m) ≤ 2 ^ (n + m + 1) := Nat.pow_le_pow_right (by decide) (by omega)
    exact Nat.lt_of_lt_of_le e this
theorem bd_neg {n : Nat} {a : Rat} (h : Bd n a) : Bd n (-a) := ⟨by rw [Rat.neg_num, Int.natAbs_neg]; exact h.1, h.2⟩
theorem bd_sub {n m : Nat} {a b : Rat} (h1 : Bd n a) (h2 : Bd m b) : Bd (n + m + 1) (a - b) := by
  rw [Rat.sub_eq_add_neg]
  exact bd_add h1 (bd_neg h2)
theorem bd_mul {n m : Nat} {a b : Rat} (h1 : Bd n a) (h2 : Bd m b) : Bd (n + m) (a * b) := by
  rw [← mul_fr]
  refine bd_divInt (Int.mul_pos (den_pos a) (den_pos b)) ?_ ?_
  · rw [Int.natAbs_mul]
    exact mul_lt_pow h1.1 h2.1
  · rw [Int.natAbs_mul]
    exact mul_lt_pow h1.2 h2.2
theorem num_pos {b : Rat} (h : 0 < b) : 0 < b.num := by
  have := (Rat.lt_iff 0 b).mp h
  simpa using this
theorem bd_div {n m : Nat} {a b : Rat} (h1 : Bd n a) (h2 : Bd m b) (hb : 0 < b) : Bd (n + m) (a / b) := by
  rw [← div_fr]
  refine bd_divInt (Int.mul_pos (den_pos a) (num_pos hb)) ?_ ?_
  · rw [Int.natAbs_mul]
    exact mul_lt_pow h1.1 h2.2
  · rw [Int.natAbs_mul]
    exact mul_lt_pow h1.2 h2.1
end PM
set_option Elab.async false
set_option linter.all false
set_option maxRecDepth 100000
set_option maxHeartbeats 4000000
namespace PC
open PySem PySem.Spec
open PyProof.Rows hiding St
open L2 PL TX PM
section
variable {X : Cx} {Γ : List Cell} {α : Type} {s : Sh α} {e : Expr} {pos p p2 : Pos} {a : α}
theorem x_isT {x : PySem.Str} {T : String} {w : Value} {r : Bool} [Mo s] (ht : TyS X.K s w) (hk : PySem.W.kitOne X.K w (.type T) = some r) (hm : X.mg "isinstance" = none) (hT : X.mg x = none) (h : XE X e Γ s (· = a)) (hv : bootBuiltins x = some (.type T) := by rfl)
    (hg : Gl X "isinstance" := by rfl) (hg2 : Gl X x := by rfl) (hn : x ≠ "__name__" := by decide) (hd : (x == ("__debug__" : PySem.Str)) = false := by decide)
    (he : starEach [e, .Name x p2] X.env = (false, eval e X.env) :: starEach [.Name x p2] X.env := by rfl) (he2 : starEach [.Name x p2] X.env = (false, eval (.Name x p2) X.env) :: starEach [] X.env := by rfl)
    (hpl : (backTo pos (starEach [.Name x p2] X.env)).any (·.1) = false := by rfl) : XE X (.Call (.Name "isinstance" p) [e, .Name x p2] [] pos) Γ sBl (· = r) :=
  x_callB (f := fun _ => r) call_isi (co_isiT ht hk) hm rfl (xa h (xa (x_ty hT hv hg2 hn hd) xa0 he2) he) trivial hg (by decide) (by decide) he hpl
theorem x_isC {x : PySem.Str} {C : Addr} {w : Value} {r : Bool} [Mo s] (ht : TyS X.K s w) (hk : PySem.W.kitOne X.K w (.ref C) = some r) (hm : X.mg "isinstance" = none) (hC : X.mg x = some (.ref C)) (h : XE X e Γ s (· = a))
    (hg : Gl X "isinstance" := by rfl) (hg2 : Gl X x := by rfl) (hd : (x == ("__debug__" : PySem.Str)) = false := by decide)
    (he : starEach [e, .Name x p2] X.env = (false, eval e X.env) :: starEach [.Name x p2] X.env := by rfl) (he2 : starEach [.Name x p2] X.env = (false, eval (.Name x p2) X.env) :: starEach [] X.env := by rfl)
    (hpl : (backTo pos (starEach [.Name x p2] X.env)).any (·.1) = false := by rfl) : XE X (.Call (.Name "isinstance" p) [e, .Name x p2] [] pos) Γ sBl (· = r) :=
  x_callB (f := fun _ => r) call_isi (co_isiC ht hk) hm rfl (xa h (xa (x_cl hC hg2 hd) xa0 he2) he) trivial hg (by decide) (by decide) he hpl
theorem o2_eqI : Op2 rEq sInt sInt sBl (fun _ _ => True) (fun a b c => c = decide (a = b)) := fun H x y a b Q h1 h2 _ k => by
  cases h1
  cases h2
  refine ⟨rfl, k (decide (a = b)) (.bl (decide (V.int a = V.int b))) H rfl (Same.refl H) ?_⟩
  show V.bl _ = V.bl _
  congr 1
  simp
theorem x_last {op : BoolOp} {P : α → Prop} (h : XE X e Γ s P) : XE X (.BoolOp op [e] pos) Γ s P := x_one h
end
section
variable {P : Program} {w : World} {K : Fg} {mg : PySem.Str → Option Value} {base : Heap}
/-! ### basics -/
theorem c_is_whole (T : Tx ex fn K mg) : FnR P w K mg base CX0 1 (aGlo "is_whole" K) (spD (aC sInt aN) (fun _ => True) sBl (fun _ => true)) := by
  obtain ⟨fd, F⟩ := f_is_whole T
  refine fn_x F sc_is_whole (argC_cons argC_nil) (fun _ => rfl) (n := 0) (fun _ => rfl) (fun cdv A outer s H E hr ⟨a, _⟩ hp => ?_) (fun _ _ _ _ _ _ us hl => match us, hl with | [_], _ => rfl)
  exact xb_ret (ef (xe_eq (x_and (x_isT tyS_int (r := true) (kit_ty (a := "int") (b := "int") (by decide +kernel)) (n_isinstance T) (n_int T) (xv 0)) fun _ => x_last (x_not (x_isT tyS_int (r := false) (kit_ty (a := "int") (b := "bool") (by decide +kernel)) (n_isinstance T) (n_bool T) (xv 0)))) rfl))
theorem c_common (T : Tx ex fn K mg) : FnR P w K mg base CX0 1 (aGlo "common" K) (spD (aC sInt (aC sInt aN)) (fun a => 0 ≤ a.1 ∧ 0 ≤ a.2.1) sInt (fun a => gcdI a.1 a.2.1)) := by
  obtain ⟨fd, F⟩ := f_common T
  refine fn_x F sc_common (argC_cons (argC_cons argC_nil)) (fun _ => rfl) (n := 0) (fun _ => rfl) (fun cdv A outer s H E hr ⟨a, b, _⟩ hp => ?_) (fun _ _ _ _ _ _ us hl => match us, hl with | [_, _], _ => rfl)
  obtain ⟨ha, hb⟩ := hp
  refine xb_while (I := fun m Γ o => o = .no ∧ ∃ x y : Int, Γ = [Ce sInt x, Ce sInt y] ∧ 0 ≤ x ∧ 0 ≤ y ∧ Int.gcd x y = Int.gcd a b ∧ m = y.natAbs) (N := fun Γ o => o = .no ∧ ∃ x : Int, Γ = [Ce sInt x, Ce sInt 0] ∧ 0 ≤ x ∧ Int.gcd x 0 = Int.gcd a b)
    (Pc := fun Γ o c => ∃ x y : Int, Γ = [Ce sInt x, Ce sInt y] ∧ c = decide (0 < y)) PassesOwn.never b.natAbs ⟨rfl, a, b, rfl, ha, hb, rfl, rfl⟩ ?_ ?_ ?_ ?_
  · rintro m Γ o ⟨rfl, x, y, rfl, hx, hy, hg, rfl⟩
    refine et (xt_imp (xt_cmpD op_gt o2_B0 (xv 1) x_int trivial) fun c hc => ⟨x, y, rfl, hc⟩)
  · rintro m Γ o ⟨rfl, x, y, rfl, hx, hy, hg, rfl⟩ ⟨x', y', he, hc⟩
    cases he
    have hpos : 0 < y := of_decide_eq_true hc.symm
    refine xb_par2 0 1 rfl sc_common.nd (xv 1) (x_opD op_mod o2_I (xv 0) (xv 1) hpos) (xb_nil ?_)
    refine ⟨(x % y).natAbs, ?_, rfl, y, x % y, rfl, hy, Int.emod_nonneg _ (by omega), ?_, rfl⟩
    · have := Int.emod_lt_of_pos x hpos
      have := Int.emod_nonneg x (show y ≠ 0 by omega)
      omega
    · rw [← hg, gcd_emod, Int.gcd_comm y]
  · rintro m Γ o ⟨rfl, x, y, rfl, hx, hy, hg, rfl⟩ ⟨x', y', he, hc⟩
    cases he
    have h0 : y = 0 := by
      have : ¬ 0 < y := of_decide_eq_false hc.symm
      omega
    subst h0
    exact ⟨rfl, x, rfl, hx, hg⟩
  · rintro Γ o ⟨rfl, x, rfl, hx, hg⟩
    refine xb_ret (ef (xe_imp (x_orI (xv 0) fun _ => x_last x_int) fun r hr => ?_))
    have e1 : Int.gcd x 0 = x.natAbs := by simp
    show r = gcdI a b
    rw [hr]
    unfold gcdI
    by_cases z : x = 0
    · rw [if_pos z]
      have e2 : Int.gcd a b = 0 := by rw [← hg, e1, z]; rfl
      rw [if_pos (Int.gcd_eq_zero_iff.mp e2)]
    · rw [if_neg z, if_neg fun q => z ?_]
      · rw [← hg, e1]
        omega
      · have e2 := Int.gcd_eq_zero_iff.mpr q
        rw [← hg, e1] at e2
        omega
theorem c_lowest_terms (T : Tx ex fn K mg) : FnR P w K mg base CX0 2 (aGlo "lowest_terms" K) (spD (aC sInt (aC sInt aN)) (fun a => 0 < a.2.1 ∧ a.2.1.natAbs < 2 ^ 9000) (sP K sInt sInt) (fun a => ((Rat.divInt a.1 a.2.1).num, ((Rat.divInt a.1 a.2.1).den : Int)))) := by
  obtain ⟨fd, F⟩ := f_lowest_terms T
  refine fn_x F sc_lowest_terms (argC_cons (argC_cons argC_nil)) (fun _ => rfl) (n := 1) (fun _ => rfl) (fun cdv A outer s H E hr ⟨a, b, _⟩ hp => ?_) (fun _ _ _ _ _ _ us hl => match us, hl with | [_, _], _ => rfl)
  obtain ⟨hb, hb2⟩ := hp
  have hb : 0 < b := hb
  refine xb_set 2 sc_lowest_terms.nd (x_call (c_common T) hr (g_common T) (k_common T) (xa (x_callB call_abs co_abs (n_abs T) rfl (xa (xv 0) xa0) trivial) (xa (x_callB call_abs co_abs (n_abs T) rfl (xa (xv 1) xa0) trivial) xa0)) ⟨by show (0 : Int) ≤ (a.natAbs : Int); omega, by show (0 : Int) ≤ (b.natAbs : Int); omega⟩) ?_
  refine xb_ifR (xt_cmpD op_lt o2_B0 (xv 1) x_int trivial) (fun h => ?_) fun _ => ?_
  · have : b < 0 := of_decide_eq_true h
    omega
  have hg : gcdI (a.natAbs : Int) (b.natAbs : Int) = (Int.gcd b a : Int) := by
    unfold gcdI
    rw [if_neg (by omega)]
    rw [Int.gcd_comm b a]
    rfl
  have hpos : 0 < Int.gcd b a := Int.gcd_pos_of_ne_zero_left _ (by omega)
  have hle : Int.gcd b a ≤ b.natAbs := Nat.le_of_dvd (by omega) (Int.gcd_dvd_natAbs_left b a)
  have hdiv : ∀ i, CDivW i (gcdI (a.natAbs : Int) (b.natAbs : Int)) := fun i => by
    rw [hg]
    exact wide_div (b := 9000) (by omega) (Nat.lt_of_le_of_lt hle hb2) (by decide) (by decide)
  refine xb_ret (ef (xe_eq (x_tup2D (x_opD op_fdivW o2_I (xv 0) (xv 2) (hdiv _)) (x_opD op_fdivW o2_I (xv 1) (xv 2) (hdiv _))) ?_))
  show (a / gcdI (a.natAbs : Int) (b.natAbs : Int), b / gcdI (a.natAbs : Int) (b.natAbs : Int)) = ((Rat.divInt a b).num, ((Rat.divInt a b).den : Int))
  rw [hg, Rat.num_divInt, Rat.den_divInt, if_neg (by omega), Int.sign_eq_one_of_pos hb, Int.one_mul]
  have e2 : ((b.natAbs / Int.gcd b a : Nat) : Int) = b / (Int.gcd b a : Int) := by
    rw [Int.natCast_ediv, Int.natAbs_of_nonneg (by omega)]
  rw [e2]
end
end PC
set_option Elab.async false
set_option linter.all false
set_option maxRecDepth 100000
set_option maxHeartbeats 4000000
namespace PC
open PySem PySem.Spec
open PyProof.Rows hiding St
open L2 PL TX PM
/-! ### class Frac -/
def sF (K : Fg) : Sh Rat := fun H v q => ∃ p dx, v = .ref p ∧ H p = some (.ins (aGlo "Frac" K) dx [("over", .int q.num), ("under", .int (q.den : Int))])
instance {K : Fg} : Mo (sF K) := ⟨fun e ⟨p, dx, h1, h2⟩ => ⟨p, dx, h1, e _ _ h2⟩⟩
instance {K : Fg} : Lf (sF K) := ⟨fun {H D xs v a} hD ⟨p, dx, h1, h2⟩ => ⟨p, dx, h1, by rw [hide_ne fun z => (by rw [z, hD] at h2; cases h2)]; exact h2⟩⟩
theorem ins_F {K : Fg} : InsS (aGlo "Frac" K) (sF K) := fun H v a ⟨p, dx, h1, h2⟩ => ⟨p, dx, _, h1, h2⟩
theorem ncs_F {K : Fg} {C : Addr} (h : aGlo "Frac" K ≠ C) : NcS C (sF K) := fun H x dx fs v a h1 h2 ⟨p, dy, e, q⟩ => ⟨p, dy, e, by
  rw [hide_ne fun z => (by rw [z, h2] at q; cases q), hide_ne fun z => (by rw [z, h1] at q; cases q; exact h rfl)]
  exact q⟩
theorem den_inj {a b : Rat} (h1 : a.num = b.num) (h2 : (a.den : Int) = (b.den : Int)) : a = b := Rat.ext h1 (by omega)
theorem inj_F {K : Fg} (H : Hp) (x : V) (a b : Rat) (h1 : sF K H x a) (h2 : sF K H x b) : a = b := by
  obtain ⟨p, dx, e1, q1⟩ := h1
  obtain ⟨p', dx', e2, q2⟩ := h2
  subst e1
  cases e2
  rw [q1] at q2
  injection q2 with q2
  injection q2 with _ _ q2
  simp only [List.cons.injEq, Prod.mk.injEq, V.int.injEq, true_and, and_true] at q2
  exact den_inj q2.1 q2.2
section
variable {P : Program} {w : World} {K : Fg} {mg : PySem.Str → Option Value} {base : Heap}
theorem fld_over (T : Tx ex fn K mg) : Fld K (sF K) "over" sInt Rat.num := fun H v a ⟨p, dx, h1, h2⟩ => ⟨p, _, dx, _, _, h1, h2, (c_Frac T).cl, a_Frac_over T, rfl, rfl⟩
theorem fld_under (T : Tx ex fn K mg) : Fld K (sF K) "under" sInt (fun q => (q.den : Int)) := fun H v a ⟨p, dx, h1, h2⟩ => ⟨p, _, dx, _, _, h1, h2, (c_Frac T).cl, a_Frac_under T, rfl, rfl⟩
theorem ok_Frac_init (T : Tx ex fn K mg) {fd : FuncData} (F : FunD K d_Frac___init__.name d_Frac___init__.qual (defArgs s_Frac___init__) (defBody s_Frac___init__) (defScope s_Frac___init__) (d_Frac___init__.dvs K) (d_Frac___init__.kws K) (aMet "Frac" "__init__" K) fd) :
    FnOk P w K mg base CX0 3 (aMet "Frac" "__init__" K) fd ["self", "top", "bottom"] (spI (aGlo "Frac" K) (aC sInt (aC sInt aN)) (fun a => 0 < a.2.1 ∧ a.2.1.natAbs < 2 ^ 9000) (sF K) (fun a r => r = Rat.divInt a.1 a.2.1)) := by
  refine fn_init (n := 0) (Fin := fun a Φ => Φ = [(("over" : PySem.Str), Ce sInt (Rat.divInt a.1 a.2.1).num), (("under" : PySem.Str), Ce sInt ((Rat.divInt a.1 a.2.1).den : Int))]) F sc_Frac___init__ (argC_cons (argC_cons argC_nil)) (fun _ => rfl) (fun _ => rfl) (fun cdv A outer s H E hr ⟨a, b, _⟩ hp x dx => ?_) fun a H x dx fs Φ hf hx ho => ?_
  · obtain ⟨hb, hb2⟩ := hp
    have hb : 0 < b := hb
    refine xn_skip (xt_not (xt_val (x_call (c_is_whole T) (hr.mono (by decide)) (g_is_whole T) (k_is_whole T) (xa (xv 1) xa0) trivial))) ?_
    refine xn_skip (xt_eq (xw_pt (xw_or (xt_not (xt_val (x_call (c_is_whole T) (hr.mono (by decide)) (g_is_whole T) (k_is_whole T) (xa (xv 2) xa0) trivial))) fun _ => xw_or1 (xt_cmpD op_eq o2_eqI (xv 2) x_int trivial))) ?_) ?_
    · show (false || decide (b = 0)) = false
      simp
      omega
    refine xn_set2 rfl (x_call (c_lowest_terms T) hr (g_lowest_terms T) (k_lowest_terms T) (xa (xv 1) (xa (xv 2) xa0)) ⟨hb, hb2⟩) ncs_int ncs_int (fun x y h => ?_) (c_Frac T).cl (a_Frac_over T) (a_Frac_under T)
    cases h
    exact xn_nil rfl
  · subst hf
    refine ⟨_, rfl, x, dx, rfl, ?_⟩
    rw [hx]
    cases ho with
    | cons h1 t =>
      cases t with
      | cons h2 t =>
        cases t
        obtain ⟨v1, e1, q1⟩ := h1
        obtain ⟨v2, e2, q2⟩ := h2
        cases q1
        cases q2
        cases e1
        cases e2
        rfl
theorem c_Frac2 (T : Tx ex fn K mg) : FnR P w K mg base CX0 3 (aMet "Frac" "__init__" K) (spI (aGlo "Frac" K) (aC sInt (aC sInt aN)) (fun a => 0 < a.2.1 ∧ a.2.1.natAbs < 2 ^ 9000) (sF K) (fun a r => r = Rat.divInt a.1 a.2.1)) := by
  obtain ⟨fd, F⟩ := f_Frac___init__ T
  obtain ⟨ds, hd, hb⟩ := FunD.binds1 (ps := ["self", "top", "bottom"]) F 3 1 (show ([V.int 1] : List V) ≠ [] from List.cons_ne_nil _ _) rfl (fun _ _ _ _ _ _ _ us its hu hi => match us, its, hu, hi with | [_, _, _], [_], _, _ => ⟨_, rfl, rfl⟩)
  refine FnR.imp (FnOk.raw (ok_Frac_init T F) hb hd) fun vs H Q E h => ?_
  rw [show (d_Frac___init__.dvs K).drop 1 = [] from rfl, List.append_nil]
  exact h
theorem c_Frac1 (T : Tx ex fn K mg) : FnR P w K mg base CX0 3 (aMet "Frac" "__init__" K) (spI (aGlo "Frac" K) (aC sInt aN) (fun _ => True) (sF K) (fun a r => r = (a.1 : Rat))) := by
  obtain ⟨fd, F⟩ := f_Frac___init__ T
  obtain ⟨ds, hd, hb⟩ := FunD.binds1 (ps := ["self", "top", "bottom"]) F 2 0 (show ([V.int 1] : List V) ≠ [] from List.cons_ne_nil _ _) rfl (fun _ _ _ _ _ _ _ us its hu hi => match us, its, hu, hi with | [_, _], [_], _, _ => ⟨_, rfl, rfl⟩)
  refine FnR.imp (FnOk.raw (ok_Frac_init T F) hb hd) fun vs H Q E ⟨x, dx, ws, a, e, h1, h2, h3, h4, h5, h6⟩ => ?_
  subst e
  refine ⟨x, dx, ws ++ [.int 1], (a.1, 1, ()), rfl, h1, h2, h3, ?_, ⟨(by decide : (0 : Int) < 1), Nat.one_lt_two_pow (by decide)⟩, fun r H' pr aw sr => h6 r H' ?_ aw sr⟩
  · obtain ⟨v, w1, e, g1, g2⟩ := h4
    cases g2
    subst e
    exact ⟨v, _, rfl, g1, _, _, rfl, rfl, rfl⟩
  · rw [pr]
    show Rat.divInt a.1 1 = (a.1 : Rat)
    exact Rat.ext (by simp [Rat.num_divInt]) (by simp [Rat.den_divInt])
theorem mk_F (T : Tx ex fn K mg) : Mk K (aGlo "Frac" K) (aMet "Frac" "__init__" K) := (c_Frac T).mkr
theorem ok_div {a b : Rat} (h : Ok2 a b) : ((a.den : Int) * (b.den : Int)).natAbs < 2 ^ 9000 := by
  obtain ⟨n, m, h1, h2, h3⟩ := h
  rw [Int.natAbs_mul]
  refine Nat.lt_of_lt_of_le (mul_lt_pow h1.2 h2.2) (Nat.pow_le_pow_right (by decide) h3)
theorem ok_mul {a b : Int} {n m : Nat} (h1 : a.natAbs < 2 ^ n) (h2 : b.natAbs < 2 ^ m) (hn : 0 < n) (hm : 0 < m) (h : n + m ≤ 9000) : CMulW a b := wide_mul h1 h2 hn hm (by omega)
end
end PC
set_option Elab.async false
set_option linter.all false
set_option maxRecDepth 100000
set_option maxHeartbeats 4000000
namespace PC
open PySem PySem.Spec
open PyProof.Rows hiding St
open L2 PL TX PM
structure MulF (a b : Rat) : Prop where
  nd : CMulW a.num (b.den : Int)
  dn : CMulW b.num (a.den : Int)
  dd : CMulW (a.den : Int) (b.den : Int)
  nn : CMulW a.num b.num
  dn' : CMulW (a.den : Int) b.num
  bd : ((a.den : Int) * (b.den : Int)).natAbs < 2 ^ 9000
  bn : ((a.den : Int) * b.num).natAbs < 2 ^ 9000
  pos : 0 < (a.den : Int) * (b.den : Int)
theorem mulF {a b : Rat} (h : Ok2 a b) : MulF a b := by
  obtain ⟨n, m, h1, h2, h3⟩ := h
  have p1 := h1.pos
  have p2 := h2.pos
  refine ⟨ok_mul h1.1 h2.2 p1 p2 h3, ok_mul h2.1 h1.2 p2 p1 (by omega), ok_mul h1.2 h2.2 p1 p2 h3, ok_mul h1.1 h2.1 p1 p2 h3, ok_mul h1.2 h2.1 p1 p2 h3, ok_div ⟨n, m, h1, h2, h3⟩, ?_, Int.mul_pos (PM.den_pos a) (PM.den_pos b)⟩
  rw [Int.natAbs_mul]
  exact Nat.lt_of_lt_of_le (mul_lt_pow h1.2 h2.1) (Nat.pow_le_pow_right (by decide) h3)
theorem eq_fr2 (a b : Rat) : (true && (decide (a.num = b.num) && decide ((a.den : Int) = (b.den : Int)))) = decide (a = b) := by rw [Bool.true_and, PM.eq_fr]
section
variable {P : Program} {w : World} {K : Fg} {mg : PySem.Str → Option Value} {base : Heap}
theorem ty_F {K : Fg} {mg : PySem.Str → Option Value} (T : Tx ex fn K mg) : TyS K (sF K) (.ref (aGlo "Frac" K)) := tyS_ins (c_Frac T) ins_F

theorem c_F_eq (T : Tx ex fn K mg) : FnR P w K mg base CX0 1 (aMet "Frac" "__eq__" K) (spD (aC (sF K) (aC (sF K) aN)) (fun a => True) sBl (fun a => decide (a.1 = a.2.1))) := by
  obtain ⟨fd, F⟩ := f_Frac___eq__ T
  refine fn_x F sc_Frac___eq__ (argC_cons (argC_cons argC_nil)) (fun _ => rfl) (n := 0) (fun _ => rfl) (fun cdv A outer s H E hr ⟨a, b, _⟩ hp => ?_) (fun _ _ _ _ _ _ us hl => match us, hl with | [_, _], _ => rfl)
  exact xb_ret (ef (xe_eq (x_and (x_isC (ty_F T) (c_Frac T).ii (n_isinstance T) (g_Frac T) (xv 1)) fun _ => x_and (x_cmpD op_eq o2_eqI (x_fld (fld_over T) (xv 0)) (x_fld (fld_over T) (xv 1)) trivial) fun _ => x_last (x_cmpD op_eq o2_eqI (x_fld (fld_under T) (xv 0)) (x_fld (fld_under T) (xv 1)) trivial)) (eq_fr2 a b)))
theorem c_F_lt (T : Tx ex fn K mg) : FnR P w K mg base CX0 1 (aMet "Frac" "__lt__" K) (spD (aC (sF K) (aC (sF K) aN)) (fun a => Ok2 a.1 a.2.1) sBl (fun a => decide (a.1 < a.2.1))) := by
  obtain ⟨fd, F⟩ := f_Frac___lt__ T
  refine fn_x F sc_Frac___lt__ (argC_cons (argC_cons argC_nil)) (fun _ => rfl) (n := 0) (fun _ => rfl) (fun cdv A outer s H E hr ⟨a, b, _⟩ hp => ?_) (fun _ _ _ _ _ _ us hl => match us, hl with | [_, _], _ => rfl)
  have M : MulF a b := mulF hp
  exact xb_ret (ef (xe_eq (x_cmpD op_lt o2_B0 (x_opD op_mulW o2_I (x_fld (fld_over T) (xv 0)) (x_fld (fld_under T) (xv 1)) M.nd) (x_opD op_mulW o2_I (x_fld (fld_over T) (xv 1)) (x_fld (fld_under T) (xv 0)) M.dn) trivial) (PM.lt_fr a b)))
theorem c_F_le (T : Tx ex fn K mg) : FnR P w K mg base CX0 1 (aMet "Frac" "__le__" K) (spD (aC (sF K) (aC (sF K) aN)) (fun a => Ok2 a.1 a.2.1) sBl (fun a => decide (a.1 ≤ a.2.1))) := by
  obtain ⟨fd, F⟩ := f_Frac___le__ T
  refine fn_x F sc_Frac___le__ (argC_cons (argC_cons argC_nil)) (fun _ => rfl) (n := 0) (fun _ => rfl) (fun cdv A outer s H E hr ⟨a, b, _⟩ hp => ?_) (fun _ _ _ _ _ _ us hl => match us, hl with | [_, _], _ => rfl)
  have M : MulF a b := mulF hp
  exact xb_ret (ef (xe_eq (x_cmpD op_le o2_B0 (x_opD op_mulW o2_I (x_fld (fld_over T) (xv 0)) (x_fld (fld_under T) (xv 1)) M.nd) (x_opD op_mulW o2_I (x_fld (fld_over T) (xv 1)) (x_fld (fld_under T) (xv 0)) M.dn) trivial) (PM.le_fr a b)))
theorem c_F_ge (T : Tx ex fn K mg) : FnR P w K mg base CX0 1 (aMet "Frac" "__ge__" K) (spD (aC (sF K) (aC (sF K) aN)) (fun a => Ok2 a.1 a.2.1) sBl (fun a => decide (a.2.1 ≤ a.1))) := by
  obtain ⟨fd, F⟩ := f_Frac___ge__ T
  refine fn_x F sc_Frac___ge__ (argC_cons (argC_cons argC_nil)) (fun _ => rfl) (n := 0) (fun _ => rfl) (fun cdv A outer s H E hr ⟨a, b, _⟩ hp => ?_) (fun _ _ _ _ _ _ us hl => match us, hl with | [_, _], _ => rfl)
  have M : MulF a b := mulF hp
  exact xb_ret (ef (xe_eq (x_cmpD op_ge o2_B0 (x_opD op_mulW o2_I (x_fld (fld_over T) (xv 0)) (x_fld (fld_under T) (xv 1)) M.nd) (x_opD op_mulW o2_I (x_fld (fld_over T) (xv 1)) (x_fld (fld_under T) (xv 0)) M.dn) trivial) (PM.le_fr b a)))
theorem c_F_add (T : Tx ex fn K mg) : FnR P w K mg base CX0 5 (aMet "Frac" "__add__" K) (spD (aC (sF K) (aC (sF K) aN)) (fun a => Ok2 a.1 a.2.1) (sF K) (fun a => a.1 + a.2.1)) := by
  obtain ⟨fd, F⟩ := f_Frac___add__ T
  refine fn_x F sc_Frac___add__ (argC_cons (argC_cons argC_nil)) (fun _ => rfl) (n := 0) (fun _ => rfl) (fun cdv A outer s H E hr ⟨a, b, _⟩ hp => ?_) (fun _ _ _ _ _ _ us hl => match us, hl with | [_, _], _ => rfl)
  have M : MulF a b := mulF hp
  exact xb_ret (ef (xe_eq (x_make (mk_F T) (c_Frac2 T) hr (g_Frac T) (xa (x_opD op_add o2_I0 (x_opD op_mulW o2_I (x_fld (fld_over T) (xv 0)) (x_fld (fld_under T) (xv 1)) M.nd) (x_opD op_mulW o2_I (x_fld (fld_over T) (xv 1)) (x_fld (fld_under T) (xv 0)) M.dn) trivial) (xa (x_opD op_mulW o2_I (x_fld (fld_under T) (xv 0)) (x_fld (fld_under T) (xv 1)) M.dd) xa0)) ⟨M.pos, M.bd⟩) (add_fr a b)))
theorem c_F_sub (T : Tx ex fn K mg) : FnR P w K mg base CX0 5 (aMet "Frac" "__sub__" K) (spD (aC (sF K) (aC (sF K) aN)) (fun a => Ok2 a.1 a.2.1) (sF K) (fun a => a.1 - a.2.1)) := by
  obtain ⟨fd, F⟩ := f_Frac___sub__ T
  refine fn_x F sc_Frac___sub__ (argC_cons (argC_cons argC_nil)) (fun _ => rfl) (n := 0) (fun _ => rfl) (fun cdv A outer s H E hr ⟨a, b, _⟩ hp => ?_) (fun _ _ _ _ _ _ us hl => match us, hl with | [_, _], _ => rfl)
  have M : MulF a b := mulF hp
  exact xb_ret (ef (xe_eq (x_make (mk_F T) (c_Frac2 T) hr (g_Frac T) (xa (x_opD op_sub o2_I0 (x_opD op_mulW o2_I (x_fld (fld_over T) (xv 0)) (x_fld (fld_under T) (xv 1)) M.nd) (x_opD op_mulW o2_I (x_fld (fld_over T) (xv 1)) (x_fld (fld_under T) (xv 0)) M.dn) trivial) (xa (x_opD op_mulW o2_I (x_fld (fld_under T) (xv 0)) (x_fld (fld_under T) (xv 1)) M.dd) xa0)) ⟨M.pos, M.bd⟩) (sub_fr a b)))
theorem c_F_mul (T : Tx ex fn K mg) : FnR P w K mg base CX0 5 (aMet "Frac" "__mul__" K) (spD (aC (sF K) (aC (sF K) aN)) (fun a => Ok2 a.1 a.2.1) (sF K) (fun a => a.1 * a.2.1)) := by
  obtain ⟨fd, F⟩ := f_Frac___mul__ T
  refine fn_x F sc_Frac___mul__ (argC_cons (argC_cons argC_nil)) (fun _ => rfl) (n := 0) (fun _ => rfl) (fun cdv A outer s H E hr ⟨a, b, _⟩ hp => ?_) (fun _ _ _ _ _ _ us hl => match us, hl with | [_, _], _ => rfl)
  have M : MulF a b := mulF hp
  exact xb_ret (ef (xe_eq (x_make (mk_F T) (c_Frac2 T) hr (g_Frac T) (xa (x_opD op_mulW o2_I (x_fld (fld_over T) (xv 0)) (x_fld (fld_over T) (xv 1)) M.nn) (xa (x_opD op_mulW o2_I (x_fld (fld_under T) (xv 0)) (x_fld (fld_under T) (xv 1)) M.dd) xa0)) ⟨M.pos, M.bd⟩) (mul_fr a b)))
theorem c_F_quotient (T : Tx ex fn K mg) : FnR P w K mg base CX0 5 (aMet "Frac" "quotient" K) (spD (aC (sF K) (aC (sF K) aN)) (fun a => Ok2 a.1 a.2.1 ∧ 0 < a.2.1) (sF K) (fun a => a.1 / a.2.1)) := by
  obtain ⟨fd, F⟩ := f_Frac_quotient T
  refine fn_x F sc_Frac_quotient (argC_cons (argC_cons argC_nil)) (fun _ => rfl) (n := 0) (fun _ => rfl) (fun cdv A outer s H E hr ⟨a, b, _⟩ hp => ?_) (fun _ _ _ _ _ _ us hl => match us, hl with | [_, _], _ => rfl)
  obtain ⟨hok, hpos⟩ := hp
  have hpos : 0 < b := hpos
  have M : MulF a b := mulF hok
  refine xb_ifR (xt_not (xt_val (x_isC (ty_F T) (c_Frac T).ii (n_isinstance T) (g_Frac T) (xv 1)))) (fun h => by cases h) fun _ => ?_
  refine xb_ifR (xt_cmpD op_eq o2_eqI (x_fld (fld_over T) (xv 1)) x_int trivial) (fun h => ?_) fun _ => ?_
  · have h1 : b.num = 0 := of_decide_eq_true h
    have h2 := num_pos hpos
    omega
  exact xb_ret (ef (xe_eq (x_make (mk_F T) (c_Frac2 T) hr (g_Frac T) (xa (x_opD op_mulW o2_I (x_fld (fld_over T) (xv 0)) (x_fld (fld_under T) (xv 1)) M.nd) (xa (x_opD op_mulW o2_I (x_fld (fld_under T) (xv 0)) (x_fld (fld_over T) (xv 1)) M.dn') xa0)) ⟨Int.mul_pos (PM.den_pos a) (num_pos hpos), M.bn⟩) (div_fr a b)))
theorem c_F_top (T : Tx ex fn K mg) : FnR P w K mg base CX0 1 (aRec "Frac" "top" "property" K) (spD (aC (sF K) aN) (fun _ => True) sInt (fun a => a.1.num)) := by
  obtain ⟨fd, F⟩ := f_Frac_top T
  refine fn_x F sc_Frac_top (argC_cons argC_nil) (fun _ => rfl) (n := 0) (fun _ => rfl) (fun cdv A outer s H E hr ⟨a, _⟩ hp => ?_) (fun _ _ _ _ _ _ us hl => match us, hl with | [_], _ => rfl)
  exact xb_ret (ef (xe_eq (x_fld (fld_over T) (xv 0)) rfl))
theorem c_F_bottom (T : Tx ex fn K mg) : FnR P w K mg base CX0 1 (aRec "Frac" "bottom" "property" K) (spD (aC (sF K) aN) (fun _ => True) sInt (fun a => (a.1.den : Int))) := by
  obtain ⟨fd, F⟩ := f_Frac_bottom T
  refine fn_x F sc_Frac_bottom (argC_cons argC_nil) (fun _ => rfl) (n := 0) (fun _ => rfl) (fun cdv A outer s H E hr ⟨a, _⟩ hp => ?_) (fun _ _ _ _ _ _ us hl => match us, hl with | [_], _ => rfl)
  exact xb_ret (ef (xe_eq (x_fld (fld_under T) (xv 0)) rfl))
def isVal (q : Rat) : Bool := decide (0 ≤ q ∧ q ≤ 1)
theorem isVal_fr (a : Rat) : (decide ((0 : Int) ≤ a.num) && decide (a.num ≤ (a.den : Int))) = isVal a := by
  unfold isVal
  rw [Bool.eq_iff_iff]
  simp only [Bool.and_eq_true, decide_eq_true_eq]
  rw [Rat.num_nonneg, Rat.le_iff a 1]
  simp
theorem c_F_is_value (T : Tx ex fn K mg) : FnR P w K mg base CX0 1 (aRec "Frac" "is_value" "staticmethod" K) (spD (aC (sF K) aN) (fun _ => True) sBl (fun a => isVal a.1)) := by
  obtain ⟨fd, F⟩ := f_Frac_is_value T
  refine fn_x F sc_Frac_is_value (argC_cons argC_nil) (fun _ => rfl) (n := 0) (fun _ => rfl) (fun cdv A outer s H E hr ⟨a, _⟩ hp => ?_) (fun _ _ _ _ _ _ us hl => match us, hl with | [_], _ => rfl)
  exact xb_ret (ef (xe_eq (x_and (x_isC (ty_F T) (c_Frac T).ii (n_isinstance T) (g_Frac T) (xv 0)) fun _ => x_last (x_chain op_le op_le o2_B0 o2_B0 x_int (x_fld (fld_over T) (xv 0)) (fun _ => (x_fld (fld_under T) (xv 0))) trivial (fun _ => trivial))) (isVal_fr a)))
theorem c_check_value (T : Tx ex fn K mg) : FnR P w K mg base CX0 2 (aGlo "check_value" K) (spG (aC (sF K) aN) (fun a => isVal a.1 = true) sNon (fun _ _ => True)) := by
  obtain ⟨fd, F⟩ := f_check_value T
  refine fn_x F sc_check_value (argC_cons argC_nil) (fun _ => rfl) (n := 0) (fun _ => rfl) (fun cdv A outer s H E hr ⟨a, _⟩ hp => ?_) (fun _ _ _ _ _ _ us hl => match us, hl with | [_], _ => rfl)
  have hp : isVal a = true := hp
  refine xb_ifR (xt_not (xt_val (x_smeth (pl := _) (c_Frac T).rd (p_Frac_is_value T) (c_F_is_value T) hr (g_Frac T) (xa (xv 0) xa0) trivial))) (fun h => ?_) fun _ => xb_nil ⟨(), trivial, fun _ => rfl⟩
  have h : (!isVal a) = true := h
  rw [hp] at h
  cases h

end
end PC
set_option Elab.async false
set_option linter.all false
set_option maxRecDepth 100000
set_option maxHeartbeats 4000000
namespace PC
open PySem PySem.Spec
open PyProof.Rows hiding St
open L2 PL TX PM
def InsM (C : Addr) {α : Type} (s : Sh α) (m : PySem.Str) : Prop := ∀ (H : Hp) (v : V) (a : α), s H v a → ∃ p dx fs, v = .ref p ∧ H p = some (.ins C dx fs) ∧ fs.lookup m = none
section
variable {X : Cx} {Γ : List Cell} {α β γ : Type} {s : Sh α} {e e1 e2 o : Expr} {es : List Expr} {pos p p2 apos : Pos} {a : α} {b : β} {C f : Addr} {k : Nat} {m : PySem.Str}
theorem x_methG {sa : ShA β} {pre : α × β → Prop} {sr : Sh γ} {post : α × β → γ → Prop} {pl : Sem Bool} [Mo s] (hi : InsM C s m) (c : Cls X.K C) (hm : Meth X.K C m f) (F : FnR X.prog X.w X.K X.mg X.base CX0 k f (spG (aC s sa) pre sr post)) (hr : Room k X.A) (ho : XE X o Γ s (· = a)) (h : XA X (e :: es) Γ sa (· = b)) (hp : pre (a, b))
    (hst : starEach (e :: es) X.env = (false, eval e X.env) :: starEach es X.env := by rfl) (hpl : (backTo pos (starEach es X.env)).any (·.1) = false := by rfl)
    (ht : eval (.Call (.Attribute o m apos) (e :: es) [] pos) X.env = (do
      let ov ← eval o X.env
      standAt apos.atName
      let (f, first) ← holding [ov] (getMethod ov m pl)
      callWith pos f first (backTo pos (starEach (e :: es) X.env)) (backToKw pos (keywordEach [] X.env))) := by rfl) : XE X (.Call (.Attribute o m apos) (e :: es) [] pos) Γ sr (post (a, b)) :=
  weakE (pe_methR (E := E0) ho c hm F hr (fun _ _ _ _ _ _ _ z => z.elim) h hst hpl ht) fun σ H Q ⟨E, q⟩ => ⟨E, fun a' v H1 pa sm sv => by
    obtain rfl : a' = a := pa
    obtain ⟨p', dx, fs, rfl, hh, hl⟩ := hi _ _ _ sv
    refine ⟨p', dx, fs, rfl, hh, hl, E.up sm, fun b' vs H2 pb s2 sb => ?_⟩
    obtain rfl : b' = b := pb
    exact ⟨(a', b'), ⟨_, _, rfl, Mo.up s2 sv, sb⟩, hp, fun r v H' pr s3 sr => q r v H' pr ((sm.trans s2).trans s3) sr⟩⟩
theorem ins_M {K : Fg} {m : PySem.Str} (h1 : (m == ("over" : PySem.Str)) = false) (h2 : (m == ("under" : PySem.Str)) = false) : InsM (aGlo "Frac" K) (sF K) m := fun H v a ⟨p, dx, e, q⟩ => ⟨p, dx, _, e, q, by
  rw [List.lookup_cons, h1, List.lookup_cons, h2]
  rfl⟩
end
section
variable {X : Cx} {Γ : List Cell} {e e1 e2 o : Expr} {pos p p2 apos : Pos} {a b : Rat} (T : Tx ex fn X.K X.mg)
include T
theorem x_addF (hr : Room 5 X.A) (h1 : XE X e1 Γ (sF X.K) (· = a)) (h2 : XE X e2 Γ (sF X.K) (· = b)) (hp : Ok2 a b) : XE X (.BinOp e1 .Add e2 pos) Γ (sF X.K) (· = a + b) := x_opD (op_own (c_F_add T) (m_Frac___add__ T) (c_Frac T).sf hr) (o2_own ins_F ins_F) h1 h2 hp
theorem x_subF (hr : Room 5 X.A) (h1 : XE X e1 Γ (sF X.K) (· = a)) (h2 : XE X e2 Γ (sF X.K) (· = b)) (hp : Ok2 a b) : XE X (.BinOp e1 .Sub e2 pos) Γ (sF X.K) (· = a - b) := x_opD (op_own (c_F_sub T) (m_Frac___sub__ T) (c_Frac T).sf hr) (o2_own ins_F ins_F) h1 h2 hp
theorem x_mulF (hr : Room 5 X.A) (h1 : XE X e1 Γ (sF X.K) (· = a)) (h2 : XE X e2 Γ (sF X.K) (· = b)) (hp : Ok2 a b) : XE X (.BinOp e1 .Mult e2 pos) Γ (sF X.K) (· = a * b) := x_opD (op_own (c_F_mul T) (m_Frac___mul__ T) (c_Frac T).sf hr) (o2_own ins_F ins_F) h1 h2 hp
theorem x_eqF (hr : Room 1 X.A) (h1 : XE X e1 Γ (sF X.K) (· = a)) (h2 : XE X e2 Γ (sF X.K) (· = b)) (hb : behindInMarks .Eq e2 = false := by first | exact nomark _ | rfl) : XE X (.Compare e1 [.Eq] [e2] pos) Γ sBl (· = decide (a = b)) := x_cmpD (f := fun a b => decide (a = b)) (cmp_own rfl (c_F_eq T) (m_Frac___eq__ T) hr) (o2_own ins_F ins_F) h1 h2 trivial hb
theorem xt_ltF (hr : Room 1 X.A) (h1 : XE X e1 Γ (sF X.K) (· = a)) (h2 : XE X e2 Γ (sF X.K) (· = b)) (hp : Ok2 a b) (hb : behindInMarks .Lt e2 = false := by first | exact nomark _ | rfl) : XT X (.Compare e1 [.Lt] [e2] pos) Γ (· = decide (a < b)) := xt_cmpD (f := fun a b => decide (a < b)) (cmp_own rfl (c_F_lt T) (m_Frac___lt__ T) hr) (o2_own ins_F ins_F) h1 h2 hp hb
theorem xt_leF (hr : Room 1 X.A) (h1 : XE X e1 Γ (sF X.K) (· = a)) (h2 : XE X e2 Γ (sF X.K) (· = b)) (hp : Ok2 a b) (hb : behindInMarks .LtE e2 = false := by first | exact nomark _ | rfl) : XT X (.Compare e1 [.LtE] [e2] pos) Γ (· = decide (a ≤ b)) := xt_cmpD (f := fun a b => decide (a ≤ b)) (cmp_own rfl (c_F_le T) (m_Frac___le__ T) hr) (o2_own ins_F ins_F) h1 h2 hp hb
theorem xt_eqF (hr : Room 1 X.A) (h1 : XE X e1 Γ (sF X.K) (· = a)) (h2 : XE X e2 Γ (sF X.K) (· = b)) (hb : behindInMarks .Eq e2 = false := by first | exact nomark _ | rfl) : XT X (.Compare e1 [.Eq] [e2] pos) Γ (· = decide (a = b)) := xt_cmpD (f := fun a b => decide (a = b)) (cmp_own rfl (c_F_eq T) (m_Frac___eq__ T) hr) (o2_own ins_F ins_F) h1 h2 trivial hb
theorem xt_neF (hr : Room 2 X.A) (h1 : XE X e1 Γ (sF X.K) (· = a)) (h2 : XE X e2 Γ (sF X.K) (· = b)) (hb : behindInMarks .NotEq e2 = false := by first | exact nomark _ | rfl) : XT X (.Compare e1 [.NotEq] [e2] pos) Γ (· = !decide (a = b)) := xt_cmpD (f := fun a b => !decide (a = b)) (ne_own (c_F_eq T) (m_Frac___eq__ T) (ne_Frac T) (c_Frac T).cm hr) (o2_ownNe ins_F ins_F) h1 h2 trivial hb
theorem x_quoF {pl : Sem Bool} (hr : Room 5 X.A) (h1 : XE X o Γ (sF X.K) (· = a)) (h2 : XE X e Γ (sF X.K) (· = b)) (hp : Ok2 a b) (hb : 0 < b) (hst : starEach [e] X.env = (false, eval e X.env) :: starEach [] X.env := by rfl)
    (ht : eval (.Call (.Attribute o "quotient" apos) [e] [] pos) X.env = (do
      let ov ← eval o X.env
      standAt apos.atName
      let (f, first) ← holding [ov] (getMethod ov "quotient" pl)
      callWith pos f first (backTo pos (starEach [e] X.env)) (backToKw pos (keywordEach [] X.env))) := by rfl) : XE X (.Call (.Attribute o "quotient" apos) [e] [] pos) Γ (sF X.K) (· = a / b) :=
  x_methG (pl := pl) (ins_M (by decide) (by decide)) (c_Frac T).cl (mm_Frac_quotient T) (c_F_quotient T) hr h1 (xa h2 xa0 hst) ⟨hp, hb⟩ hst rfl ht
theorem x_F1 {i : Int} (hr : Room 4 X.A) (h : XE X e Γ sInt (· = i)) (hg : Gl X "Frac" := by rfl) (hst : starEach [e] X.env = (false, eval e X.env) :: starEach [] X.env := by rfl) : XE X (.Call (.Name "Frac" p) [e] [] pos) Γ (sF X.K) (· = (i : Rat)) :=
  xe_eq (x_make (mk_F T) (c_Frac1 T) hr (g_Frac T) (xa h xa0 hst) trivial hg (by decide) hst rfl) rfl
theorem x_F2 {i j : Int} (hr : Room 4 X.A) (h : XE X e1 Γ sInt (· = i)) (h2 : XE X e2 Γ sInt (· = j)) (hj : 0 < j) (hj2 : j.natAbs < 2 ^ 9000) (hg : Gl X "Frac" := by rfl) (hst : starEach [e1, e2] X.env = (false, eval e1 X.env) :: starEach [e2] X.env := by rfl) (hst2 : starEach [e2] X.env = (false, eval e2 X.env) :: starEach [] X.env := by rfl)
    (hpl : (backTo pos (starEach [e2] X.env)).any (·.1) = false := by rfl) : XE X (.Call (.Name "Frac" p) [e1, e2] [] pos) Γ (sF X.K) (· = Rat.divInt i j) :=
  xe_eq (x_make (mk_F T) (c_Frac2 T) hr (g_Frac T) (xa h (xa h2 xa0 hst2) hst) ⟨hj, hj2⟩ hg (by decide) hst hpl) rfl
theorem x_top (hr : Room 2 X.A) (h : XE X e Γ (sF X.K) (· = a)) (hab : attributeBase e "top" X.env (eval e X.env) = eval e X.env := by rfl) : XE X (.Attribute e "top" pos) Γ sInt (· = a.num) := x_prop ins_F (c_Frac T).cl (p_Frac_top T) (c_F_top T) hr h trivial hab
end
theorem fnS_F {X : Cx} : FnS X (sF X.K) := fnS_frac inj_F
theorem eqS_F {X : Cx} (T : Tx ex fn X.K X.mg) : EqS X 1 (sF X.K) := eqS_own (c_F_eq T) (fun _ => trivial) ins_F (m_Frac___eq__ T) fnS_F
/-! points -/
abbrev sPt (K : Fg) : Sh (Rat × Rat) := sP K (sF K) (sF K)
abbrev sPs (K : Fg) : Sh (List (Rat × Rat)) := sU K (sPt K)
end PC
set_option linter.all false
set_option maxRecDepth 100000
namespace PM
abbrev Pt := Rat × Rat
def slope (p q : Pt) : Rat := (q.2 - p.2) / (q.1 - p.1)
def Lt2 (p q : Pt) : Prop := p.1 < q.1 ∧ p.2 < q.2
def PtsB (n : Nat) (l : List Pt) : Prop := ∀ p ∈ l, Bd n p.1 ∧ Bd n p.2
/-- strictly rising -/
inductive Inc : List Pt → Prop where
  | one (p : Pt) : Inc [p]
  | cons {p q : Pt} {t : List Pt} (h : Lt2 p q) (r : Inc (q :: t)) : Inc (p :: q :: t)
def lastP (p : Pt) : List Pt → Pt
  | [] => p
  | q :: t => lastP q t
def pcGo (g : Pt → Rat) (v : Rat) : Pt → List Pt → Pt × Pt
  | p, [] => (p, p)
  | p, [q] => (p, q)
  | p, q :: r :: t => if g q < v then pcGo g v q (r :: t) else (p, q)
def pieceAt (g : Pt → Rat) (v : Rat) : List Pt → Pt × Pt
  | [] => ((0, 0), (0, 0))
  | p :: t => pcGo g v p t
def onPiece (ab : Pt × Pt) (x : Rat) : Rat := ab.1.2 + slope ab.1 ab.2 * (x - ab.1.1)
def backPiece (ab : Pt × Pt) (y : Rat) : Rat := ab.1.1 + (y - ab.1.2) / slope ab.1 ab.2
def valueAt (l : List Pt) (x : Rat) : Rat := onPiece (pieceAt Prod.fst x l) x
def placeOf (l : List Pt) (y : Rat) : Rat := backPiece (pieceAt Prod.snd y l) y
theorem Inc.tail {p q : Pt} {t : List Pt} (h : Inc (p :: q :: t)) : Inc (q :: t) := by
  cases h with
  | cons _ r => exact r
theorem Inc.head {p q : Pt} {t : List Pt} (h : Inc (p :: q :: t)) : Lt2 p q := by
  cases h with
  | cons h _ => exact h
theorem Lt2.trans {p q r : Pt} (h : Lt2 p q) (k : Lt2 q r) : Lt2 p r := ⟨by have := h.1; have := k.1; grind, by have := h.2; have := k.2; grind⟩
/-- all later ones are greater -/
theorem Inc.lt {p : Pt} : ∀ {t : List Pt}, Inc (p :: t) → ∀ q ∈ t, Lt2 p q
  | [], _, _, h => by cases h
  | q :: t, h, r, hr => by
    cases hr with
    | head => exact h.head
    | tail _ hr => exact h.head.trans (Inc.lt h.tail r hr)
theorem Inc.drop {p : Pt} {t : List Pt} (h : Inc (p :: t)) : ∀ {q : Pt} {r : List Pt}, t = q :: r → Inc (q :: r) := fun e => by subst e; exact h.tail
theorem slope_pos {p q : Pt} (h : Lt2 p q) : 0 < slope p q := by
  unfold slope
  have h1 : 0 < q.1 - p.1 := by have := h.1; grind
  have h2 : 0 < q.2 - p.2 := by have := h.2; grind
  rw [Rat.div_def]
  exact Rat.mul_pos h2 (Rat.inv_pos.mpr h1)
theorem slope_mul {p q : Pt} (h : Lt2 p q) : slope p q * (q.1 - p.1) = q.2 - p.2 := by
  unfold slope
  have h1 : q.1 - p.1 ≠ 0 := by have := h.1; grind
  exact Rat.div_mul_cancel h1
/-! ### one piece -/
theorem on_start {p q : Pt} : onPiece (p, q) p.1 = p.2 := by
  unfold onPiece
  grind
theorem on_end {p q : Pt} (h : Lt2 p q) : onPiece (p, q) q.1 = q.2 := by
  unfold onPiece
  have := slope_mul h
  grind
theorem on_lt {p q : Pt} (h : Lt2 p q) {x y : Rat} (hxy : x < y) : onPiece (p, q) x < onPiece (p, q) y := by
  unfold onPiece
  have h1 := slope_pos h
  have h2 : slope p q * (x - p.1) < slope p q * (y - p.1) := Rat.mul_lt_mul_of_pos_left (by grind) h1
  exact Rat.add_lt_add_left.mpr h2
theorem back_on {p q : Pt} (h : Lt2 p q) (x : Rat) : backPiece (p, q) (onPiece (p, q) x) = x := by
  unfold backPiece onPiece
  have h1 := slope_pos h
  have h2 : slope p q ≠ 0 := by grind
  have h3 : p.2 + slope p q * (x - p.1) - p.2 = (x - p.1) * slope p q := by grind
  show p.1 + (p.2 + slope p q * (x - p.1) - p.2) / slope p q = x
  rw [h3, Rat.mul_div_cancel h2]
  grind
theorem on_back {p q : Pt} (h : Lt2 p q) (y : Rat) : onPiece (p, q) (backPiece (p, q) y) = y := by
  unfold backPiece onPiece
  have h1 := slope_pos h
  have h2 : slope p q ≠ 0 := by grind
  show p.2 + slope p q * (p.1 + (y - p.2) / slope p q - p.1) = y
  have h3 : p.1 + (y - p.2) / slope p q - p.1 = (y - p.2) / slope p q := by grind
  rw [h3, Rat.mul_comm, Rat.div_mul_cancel h2]
  grind
theorem on_le {p q : Pt} (h : Lt2 p q) {x y : Rat} (hxy : x ≤ y) : onPiece (p, q) x ≤ onPiece (p, q) y := by
  rcases Rat.le_iff_lt_or_eq.mp hxy with h1 | h1
  · exact Rat.le_of_lt (on_lt h h1)
  · rw [h1]
    exact Rat.le_refl
theorem lastP_mem {p : Pt} : ∀ {t : List Pt}, lastP p t ∈ p :: t
  | [] => List.mem_cons_self
  | q :: t => List.mem_cons_of_mem _ lastP_mem
/-! ### the whole -/
theorem va_split {p q r : Pt} {t : List Pt} {x : Rat} : valueAt (p :: q :: r :: t) x = if q.1 < x then valueAt (q :: r :: t) x else onPiece (p, q) x := by
  show onPiece (if q.1 < x then pcGo Prod.fst x q (r :: t) else (p, q)) x = if q.1 < x then onPiece (pcGo Prod.fst x q (r :: t)) x else onPiece (p, q) x
  split <;> rfl
theorem po_split {p q r : Pt} {t : List Pt} {y : Rat} : placeOf (p :: q :: r :: t) y = if q.2 < y then placeOf (q :: r :: t) y else backPiece (p, q) y := by
  show backPiece (if q.2 < y then pcGo Prod.snd y q (r :: t) else (p, q)) y = if q.2 < y then backPiece (pcGo Prod.snd y q (r :: t)) y else backPiece (p, q) y
  split <;> rfl
/-- at the first place and behind it -/
theorem va_lo {p : Pt} : ∀ {t : List Pt} {x : Rat}, Inc (p :: t) → t ≠ [] → p.1 ≤ x → p.2 ≤ valueAt (p :: t) x ∧ (p.1 < x → p.2 < valueAt (p :: t) x) := by
  intro t
  induction t generalizing p with
  | nil => intro x _ h; exact absurd rfl h
  | cons q t ih =>
    intro x h _ hx
    cases t with
    | nil =>
      have e : valueAt [p, q] x = onPiece (p, q) x := rfl
      rw [e]
      have e2 := on_start (p := p) (q := q)
      constructor
      · have := on_le h.head hx
        rw [e2] at this
        exact this
      · intro h1
        have := on_lt h.head h1
        rw [e2] at this
        exact this
    | cons r t =>
      rw [va_split]
      split
      · rename_i hq
        have h1 := (ih h.tail (List.cons_ne_nil _ _) (Rat.le_of_lt hq)).2 hq
        have h2 := h.head.2
        have h3 : p.2 < valueAt (q :: r :: t) x := by grind
        exact ⟨Rat.le_of_lt h3, fun _ => h3⟩
      · have e2 := on_start (p := p) (q := q)
        constructor
        · have := on_le h.head hx
          rw [e2] at this
          exact this
        · intro h1
          have := on_lt h.head h1
          rw [e2] at this
          exact this
/-- back through the value -/
theorem po_va : ∀ {t : List Pt} {p : Pt} {x : Rat}, Inc (p :: t) → t ≠ [] → p.1 ≤ x → placeOf (p :: t) (valueAt (p :: t) x) = x
  | [], _, _, _, h, _ => absurd rfl h
  | [q], p, x, h, _, _ => back_on h.head x
  | q :: r :: t, p, x, h, _, hx => by
    rw [va_split]
    split
    · rename_i hq
      have h1 := (va_lo h.tail (List.cons_ne_nil _ _) (Rat.le_of_lt hq)).2 hq
      rw [po_split, if_pos h1]
      exact po_va h.tail (List.cons_ne_nil _ _) (Rat.le_of_lt hq)
    · rename_i hq
      have hq : x ≤ q.1 := Rat.not_lt.mp hq
      have h1 := on_le h.head hq
      rw [on_end h.head] at h1
      rw [po_split, if_neg (Rat.not_lt.mpr h1)]
      exact back_on h.head x
/-- greater places, greater values -/
theorem va_lt : ∀ {t : List Pt} {p : Pt} {x y : Rat}, Inc (p :: t) → t ≠ [] → x < y → valueAt (p :: t) x < valueAt (p :: t) y
  | [], _, _, _, _, h, _ => absurd rfl h
  | [q], p, x, y, h, _, hx => on_lt h.head hx
  | q :: r :: t, p, x, y, h, _, hx => by
    rw [va_split, va_split]
    by_cases h1 : q.1 < x
    · rw [if_pos h1, if_pos (by grind)]
      exact va_lt h.tail (List.cons_ne_nil _ _) hx
    · rw [if_neg h1]
      have h1 : x ≤ q.1 := Rat.not_lt.mp h1
      by_cases h2 : q.1 < y
      · rw [if_pos h2]
        have e1 := on_le h.head h1
        rw [on_end h.head] at e1
        have e2 := (va_lo h.tail (List.cons_ne_nil _ _) (Rat.le_of_lt h2)).2 h2
        grind
      · rw [if_neg h2]
        exact on_lt h.head hx
theorem va_le {t : List Pt} {p : Pt} {x y : Rat} (h : Inc (p :: t)) (ht : t ≠ []) (hx : x ≤ y) : valueAt (p :: t) x ≤ valueAt (p :: t) y := by
  rcases Rat.le_iff_lt_or_eq.mp hx with h1 | h1
  · exact Rat.le_of_lt (va_lt h ht h1)
  · rw [h1]
    exact Rat.le_refl
/-- at the points -/
theorem va_pt : ∀ {t : List Pt} {p : Pt}, Inc (p :: t) → t ≠ [] → ∀ r ∈ p :: t, valueAt (p :: t) r.1 = r.2
  | [], _, _, h, _, _ => absurd rfl h
  | [q], p, h, _, r, hr => by
    rcases List.mem_cons.mp hr with e | hr
    · rw [e]
      exact on_start
    · rcases List.mem_cons.mp hr with e | hr
      · rw [e]
        exact on_end h.head
      · cases hr
  | q :: s :: t, p, h, _, r, hr => by
    rw [va_split]
    rcases List.mem_cons.mp hr with e | hr
    · rw [e, if_neg (by have := h.head.1; grind)]
      exact on_start
    · rcases List.mem_cons.mp hr with e | hr2
      · rw [e, if_neg (by grind)]
        exact on_end h.head
      · rw [if_pos (Inc.lt h.tail r hr2).1]
        exact va_pt h.tail (List.cons_ne_nil _ _) r hr
theorem po_pt {t : List Pt} {p : Pt} (h : Inc (p :: t)) (ht : t ≠ []) (r : Pt) (hr : r ∈ p :: t) : placeOf (p :: t) r.2 = r.1 := by
  have h1 : p.1 ≤ r.1 := by
    rcases List.mem_cons.mp hr with e | hr
    · rw [e]
      exact Rat.le_refl
    · exact Rat.le_of_lt (Inc.lt h r hr).1
  have := po_va h ht h1
  rw [va_pt h ht r hr] at this
  exact this
/-- value of the place of a value -/
theorem va_po : ∀ {t : List Pt} {p : Pt} {y : Rat}, Inc (p :: t) → t ≠ [] → p.2 ≤ y → valueAt (p :: t) (placeOf (p :: t) y) = y ∧ p.1 ≤ placeOf (p :: t) y ∧ (p.2 < y → p.1 < placeOf (p :: t) y)
  | [], _, _, _, h, _ => absurd rfl h
  | [q], p, y, h, _, hy => by
    have e1 : valueAt [p, q] (placeOf [p, q] y) = y := on_back h.head y
    have key : ∀ z : Rat, placeOf [p, q] y = z → onPiece (p, q) z = y := fun z hz => by rw [← hz]; exact on_back h.head y
    refine ⟨e1, ?_, fun hl => ?_⟩
    · apply Rat.not_lt.mp
      intro hlt
      have := on_lt h.head hlt
      rw [key _ rfl, on_start] at this
      grind
    · apply Rat.not_le.mp
      intro hle
      have := on_le h.head hle
      rw [key _ rfl, on_start] at this
      grind
  | q :: r :: t, p, y, h, _, hy => by
    rw [po_split]
    split
    · rename_i hq
      obtain ⟨h1, h2, h3⟩ := va_po h.tail (List.cons_ne_nil r t) (Rat.le_of_lt hq)
      have h4 := h3 hq
      have h5 := h.head.1
      refine ⟨?_, by grind, fun _ => by grind⟩
      rw [va_split, if_pos h4]
      exact h1
    · rename_i hq
      have hq : y ≤ q.2 := Rat.not_lt.mp hq
      have key : onPiece (p, q) (backPiece (p, q) y) = y := on_back h.head y
      have hb : ¬ q.1 < backPiece (p, q) y := by
        intro hlt
        have := on_lt h.head hlt
        rw [key, on_end h.head] at this
        grind
      refine ⟨?_, ?_, fun hl => ?_⟩
      · rw [va_split, if_neg hb]
        exact key
      · apply Rat.not_lt.mp
        intro hlt
        have := on_lt h.head hlt
        rw [key, on_start] at this
        grind
      · apply Rat.not_le.mp
        intro hle
        have := on_le h.head hle
        rw [key, on_start] at this
        grind
theorem va_hi {t : List Pt} {p : Pt} {x : Rat} (h : Inc (p :: t)) (ht : t ≠ []) (hx : x ≤ (lastP p t).1) : valueAt (p :: t) x ≤ (lastP p t).2 := by
  have := va_le h ht hx
  rw [va_pt h ht _ lastP_mem] at this
  exact this
theorem po_hi {t : List Pt} {p : Pt} {y : Rat} (h : Inc (p :: t)) (ht : t ≠ []) (h0 : p.2 ≤ y) (hy : y ≤ (lastP p t).2) : placeOf (p :: t) y ≤ (lastP p t).1 := by
  apply Rat.not_lt.mp
  intro hlt
  have := va_lt h ht hlt
  rw [va_pt h ht _ lastP_mem, (va_po h ht h0).1] at this
  grind
end PM
set_option linter.all false
set_option maxRecDepth 100000
namespace PM
def PtB (n : Nat) (p : Pt) : Prop := Bd n p.1 ∧ Bd n p.2
theorem Ok2.mk' {a b : Rat} {n m : Nat} (h1 : Bd n a) (h2 : Bd m b) (h : n + m ≤ 9000) : Ok2 a b := ⟨n, m, h1, h2, h⟩
theorem bd_slope {n : Nat} {p q : Pt} (h1 : PtB n p) (h2 : PtB n q) (h : p.1 < q.1) : Bd (4 * n + 2) (slope p q) := by
  have h3 := bd_div (bd_sub h2.2 h1.2) (bd_sub h2.1 h1.1) (by grind)
  exact h3.mono (by omega)
/-- what the value needs -/
structure PrV (l : List Pt) (x : Rat) (n m : Nat) : Prop where
  inc : Inc l
  two : 2 ≤ l.length
  pts : PtsB n l
  pl : Bd m x
  le : 6 * n + m + 3 ≤ 9000
/-- all slopes within bounds -/
def Sl (s : Nat) (l : List Pt) : Prop := ∀ (i : Nat) (p q : Pt), l[i]? = some p → l[i + 1]? = some q → Bd s (slope p q)
theorem Sl.tail {s : Nat} {p : Pt} {t : List Pt} (h : Sl s (p :: t)) : Sl s t := fun i a b h1 h2 => h (i + 1) a b h1 h2
theorem Sl.cons {s : Nat} {p q : Pt} {t : List Pt} (h : Bd s (slope p q)) (k : Sl s (q :: t)) : Sl s (p :: q :: t) := fun i a b h1 h2 => by
  cases i with
  | zero => cases h1; cases h2; exact h
  | succ i => exact k i a b h1 h2
theorem Sl.mono {s s' : Nat} {l : List Pt} (h : Sl s l) (k : s ≤ s') : Sl s' l := fun i a b h1 h2 => (h i a b h1 h2).mono k
theorem inc_adj {l : List Pt} (h : Inc l) : ∀ {i : Nat} {p q : Pt}, l[i]? = some p → l[i + 1]? = some q → Lt2 p q := by
  induction h with
  | one p => intro i a b h1 h2; simp at h2
  | @cons p q t h r ih =>
    intro i a b h1 h2
    cases i with
    | zero =>
      cases h1
      cases h2
      exact h
    | succ i => exact ih h1 h2
theorem sl_of {n : Nat} {l : List Pt} (h : Inc l) (hb : PtsB n l) : Sl (4 * n + 2) l := fun i p q h1 h2 => bd_slope (hb p (List.mem_of_getElem? h1)) (hb q (List.mem_of_getElem? h2)) (inc_adj h h1 h2).1
/-- what the value needs, the slopes told apart -/
structure PrW (l : List Pt) (x : Rat) (n m s : Nat) : Prop where
  inc : Inc l
  two : 2 ≤ l.length
  pts : PtsB n l
  pl : Bd m x
  sl : Sl s l
  le4 : 4 * n + 2 ≤ 9000
  le : 2 * n + s + m + 1 ≤ 9000
theorem PrV.w {l : List Pt} {x : Rat} {n m : Nat} (h : PrV l x n m) : PrW l x n m (4 * n + 2) := ⟨h.inc, h.two, h.pts, h.pl, sl_of h.inc h.pts, by have := h.le; omega, by have := h.le; omega⟩
/-! without_flat -/
def uf : Pt → List Pt → List Pt
  | _, [] => []
  | _, [p] => [p]
  | b, p :: q :: r => if slope b p = slope p q then uf b (q :: r) else p :: uf p (q :: r)
def unflat : List Pt → List Pt
  | [] => []
  | p :: t => p :: uf p t
theorem Inc.skip {p q r : Pt} {t : List Pt} (h : Inc (p :: q :: r :: t)) : Inc (p :: r :: t) := .cons (h.head.trans h.tail.head) h.tail.tail
/-- no three in a row -/
inductive Turns : List Pt → Prop where
  | one (p : Pt) : Turns [p]
  | two (p q : Pt) : Turns [p, q]
  | cons {p q r : Pt} {t : List Pt} (h : slope p q ≠ slope q r) (k : Turns (q :: r :: t)) : Turns (p :: q :: r :: t)
theorem slope_add {p q r : Pt} (h1 : Lt2 p q) (h2 : Lt2 q r) (e : slope p q = slope q r) : slope p r = slope p q := by
  have e1 := slope_mul h1
  have e2 := slope_mul h2
  have e3 := slope_mul (h1.trans h2)
  have h3 : r.1 - p.1 ≠ 0 := by have := (h1.trans h2).1; grind
  rw [← e] at e2
  have e4 : slope p q * (r.1 - p.1) = r.2 - p.2 := by grind
  have e5 : (slope p r - slope p q) * (r.1 - p.1) = 0 := by grind
  rcases Rat.mul_eq_zero.mp e5 with z | z
  · grind
  · exact absurd z h3
theorem sl_uf {s : Nat} {b : Pt} : ∀ {t : List Pt}, Inc (b :: t) → Sl s (b :: t) → Sl s (b :: uf b t) := by
  intro t
  induction t generalizing b with
  | nil => intro _ h; exact h
  | cons q t ih =>
    intro hi h
    cases t with
    | nil => exact h
    | cons r t =>
      unfold uf
      split
      · rename_i e
        refine ih hi.skip (Sl.cons ?_ h.tail.tail)
        rw [slope_add hi.head hi.tail.head e]
        exact h 0 b q rfl rfl
      · exact Sl.cons (h 0 b q rfl rfl) (ih hi.tail h.tail)
theorem Sl.unflat {s : Nat} {l : List Pt} (hi : Inc l) (h : Sl s l) : Sl s (unflat l) := by
  cases l with
  | nil => exact h
  | cons p t => exact sl_uf hi h
end PM
set_option Elab.async false
set_option linter.all false
set_option maxRecDepth 100000
set_option maxHeartbeats 4000000
namespace PC
open PySem PySem.Spec
open PyProof.Rows hiding St
open L2 PL TX PM
section
variable {P : Program} {w : World} {K : Fg} {mg : PySem.Str → Option Value} {base : Heap}
def PrS (a : Pt × Pt × Unit) : Prop := ∃ n, PtB n a.1 ∧ PtB n a.2.1 ∧ 4 * n + 2 ≤ 9000 ∧ a.1.1 < a.2.1.1
def gAx (ax : Int) : Pt → Rat := if ax = 0 then Prod.fst else Prod.snd
def PrP (a : List Pt × Rat × Int × Unit) : Prop := 2 ≤ a.1.length ∧ a.1.length ≤ 1000 ∧ (a.2.2.1 = 0 ∨ a.2.2.1 = 1) ∧ ∃ n m, PtsB n a.1 ∧ Bd m a.2.1 ∧ n + m ≤ 9000
end
end PC
set_option Elab.async false
set_option linter.all false
set_option maxRecDepth 100000
set_option maxHeartbeats 4000000
namespace PC
open PySem PySem.Spec
open PyProof.Rows hiding St
open L2 PL TX PM
def PrVa (a : List Pt × Rat × Unit) : Prop := a.1.length ≤ 1000 ∧ ∃ n m s, PrW a.1 a.2.1 n m s
theorem PrV.va {l : List Pt} {v : Rat} {n m : Nat} (h : PrV l v n m) (hl : l.length ≤ 1000) : PrVa (l, v, ()) := ⟨hl, n, m, _, h.w⟩
theorem PrVa.pc {l : List Pt} {v : Rat} {n m s : Nat} (h1 : l.length ≤ 1000) (h : PrW l v n m s) (ax : Int) (hax : ax = 0 ∨ ax = 1) : PrP (l, v, ax, ()) := ⟨h.two, h1, hax, n, m, h.pts, h.pl, by have := h.le; omega⟩
section
variable {P : Program} {w : World} {K : Fg} {mg : PySem.Str → Option Value} {base : Heap}
def isShown (l : List Pt) (v : Rat) : Bool := match l with
  | [] => false
  | p :: t => decide (p.2 ≤ v) && decide (v ≤ (lastP p t).2)
theorem atI_0 {α : Type} {a : α} {t : List α} : atI (a :: t) 0 = some a := atI_nat (j := 0) rfl
end
end PC
set_option Elab.async false
set_option linter.all false
set_option maxRecDepth 100000
set_option maxHeartbeats 4000000
namespace PC
open PySem PySem.Spec
open PyProof.Rows hiding St
open L2 PL TX PM
theorem rangeL_get {lo : Int} {n i : Nat} {x : Int} (h : (rangeL lo n)[i]? = some x) : i < n ∧ x = lo + i := by
  have hl : i < n := by
    have := (List.getElem?_eq_some_iff.mp h).1
    rw [rangeL_len] at this
    exact this
  rw [rangeL_at hl] at h
  exact ⟨hl, (Option.some.inj h).symm⟩
def PrU (a : List Pt × Unit) : Prop := Inc a.1 ∧ 2 ≤ a.1.length ∧ a.1.length ≤ 1000 ∧ ∃ n, PtsB n a.1 ∧ 4 * n + 2 ≤ 9000
section
variable {X : Cx} {Γ : List Cell} {e e1 e2 tg : Expr} {pos p : Pos} {n m : Int}
theorem xi_r1 (hm : X.mg "range" = none) (h : XE X e Γ sInt (· = n)) (hb : -(2 ^ 62) ≤ n ∧ n < 2 ^ 62) (hg : Gl X "range" := by rfl) (hs : starEach [e] X.env = [(false, eval e X.env)] := by rfl) :
    XI X tg (.Call (.Name "range" p) [e] [] pos) Γ sInt (· = rangeL 0 n.toNat) := xi_imp (xi_range1 hm h (fun _ e => by subst e; exact hb) hg hs) fun xs h => by
  obtain ⟨a, e1, e3⟩ := h
  subst e1
  exact e3
end
section
variable {P : Program} {w : World} {K : Fg} {mg : PySem.Str → Option Value} {base : Heap}
end
end PC
set_option Elab.async false
set_option linter.all false
set_option maxRecDepth 100000
set_option maxHeartbeats 4000000
namespace PC
open PySem PySem.Spec
open PyProof.Rows hiding St
open L2 PL TX PM
theorem o2_neI : Op2 rNe sInt sInt sBl (fun _ _ => True) (fun a b c => c = !decide (a = b)) := fun H x y a b Q h1 h2 _ k => by
  cases h1
  cases h2
  refine ⟨rfl, k (!decide (a = b)) (.bl (!decide (V.int a = V.int b))) H rfl (Same.refl H) ?_⟩
  show V.bl _ = V.bl _
  congr 2
  simp
structure Good (l : List Pt) (n : Nat) : Prop where
  inc : Inc l
  two : 2 ≤ l.length
  len : l.length ≤ 1000
  pts : PtsB n l
  val : ∀ p ∈ l, isVal p.1 = true ∧ isVal p.2 = true
  lo : ∃ p t, l = p :: t ∧ p.1 = 0 ∧ (lastP p t).1 = 1
theorem inc_at {l : List Pt} (h : Inc l) : ∀ {i : Nat} {p q : Pt}, l[i]? = some p → l[i + 1]? = some q → Lt2 p q := by
  induction h with
  | one p => intro i a b h1 h2; simp at h2
  | @cons p q t h r ih =>
    intro i a b h1 h2
    cases i with
    | zero =>
      cases h1
      cases h2
      exact h
    | succ i => exact ih h1 h2
section
variable {P : Program} {w : World} {K : Fg} {mg : PySem.Str → Option Value} {base : Heap}
end
end PC
set_option linter.all false
set_option maxRecDepth 100000
namespace PM
/-! merged -/
def merge : List Rat → List Rat → List Rat
  | [], b => b
  | x :: a, [] => x :: a
  | x :: a, y :: b => if x = y then x :: merge a b else if x < y then x :: merge a (y :: b) else y :: merge (x :: a) b
termination_by a b => a.length + b.length
theorem merge_nil {b : List Rat} : merge [] b = b := by rw [merge]
theorem merge_nil' {a : List Rat} : merge a [] = a := by
  cases a with
  | nil => rw [merge]
  | cons x a => rw [merge]
theorem merge_cons {x y : Rat} {a b : List Rat} : merge (x :: a) (y :: b) = if x = y then x :: merge a b else if x < y then x :: merge a (y :: b) else y :: merge (x :: a) b := by rw [merge]
theorem merge_mem : ∀ {n : Nat} {a b : List Rat}, a.length + b.length ≤ n → ∀ z, z ∈ merge a b ↔ z ∈ a ∨ z ∈ b := by
  intro n
  induction n with
  | zero =>
    intro a b h z
    have h1 : a = [] := List.length_eq_zero_iff.mp (by omega)
    have h2 : b = [] := List.length_eq_zero_iff.mp (by omega)
    subst h1 h2
    rw [merge_nil]
    simp
  | succ n ih =>
    intro a b h z
    match a, b with
    | [], b => rw [merge_nil]; simp
    | x :: a, [] => rw [merge_nil']; simp
    | x :: a, y :: b =>
      simp only [List.length_cons] at h
      rw [merge_cons]
      split
      · rename_i e
        subst e
        rw [List.mem_cons, ih (by omega), List.mem_cons, List.mem_cons]
        grind
      · split
        · rw [List.mem_cons, ih (by simp only [List.length_cons]; omega)]
          simp only [List.mem_cons]
          grind
        · rw [List.mem_cons, ih (by simp only [List.length_cons]; omega)]
          simp only [List.mem_cons]
          grind
/-- strictly rising -/
def Asc (l : List Rat) : Prop := l.Pairwise (· < ·)
theorem merge_asc : ∀ {n : Nat} {a b : List Rat}, a.length + b.length ≤ n → Asc a → Asc b → Asc (merge a b) := by
  intro n
  induction n with
  | zero =>
    intro a b h _ hb
    have h1 : a = [] := List.length_eq_zero_iff.mp (by omega)
    subst h1
    rw [merge_nil]
    exact hb
  | succ n ih =>
    intro a b h ha hb
    match a, b with
    | [], b => rw [merge_nil]; exact hb
    | x :: a, [] => rw [merge_nil']; exact ha
    | x :: a, y :: b =>
      simp only [List.length_cons] at h
      have ha' := List.pairwise_cons.mp ha
      have hb' := List.pairwise_cons.mp hb
      rw [merge_cons]
      split
      · rename_i e
        subst e
        refine List.pairwise_cons.mpr ⟨fun z hz => ?_, ih (by omega) ha'.2 hb'.2⟩
        rcases (merge_mem (n := n) (by omega) z).mp hz with q | q
        · exact ha'.1 z q
        · exact hb'.1 z q
      · split
        · rename_i hlt
          refine List.pairwise_cons.mpr ⟨fun z hz => ?_, ih (by simp only [List.length_cons]; omega) ha'.2 hb⟩
          rcases (merge_mem (n := n) (by simp only [List.length_cons]; omega) z).mp hz with q | q
          · exact ha'.1 z q
          · rcases List.mem_cons.mp q with e | q
            · rw [e]; exact hlt
            · have := hb'.1 z q
              grind
        · rename_i hne hlt
          have hyx : y < x := by
            have := Rat.not_lt.mp hlt
            grind
          refine List.pairwise_cons.mpr ⟨fun z hz => ?_, ih (by simp only [List.length_cons]; omega) ha hb'.2⟩
          rcases (merge_mem (n := n) (by simp only [List.length_cons]; omega) z).mp hz with q | q
          · rcases List.mem_cons.mp q with e | q
            · rw [e]; exact hyx
            · have := ha'.1 z q
              grind
          · exact hb'.1 z q
theorem Inc.asc {l : List Pt} (h : Inc l) : Asc (l.map Prod.fst) := by
  induction h with
  | one p => exact List.pairwise_singleton _ _
  | @cons p q t h r ih =>
    refine List.pairwise_cons.mpr ⟨fun z hz => ?_, ih⟩
    obtain ⟨u, hu, e⟩ := List.mem_map.mp hz
    rw [← e]
    exact (Inc.lt (.cons h r) u hu).1
end PM
set_option Elab.async false
set_option linter.all false
set_option maxRecDepth 100000
set_option maxHeartbeats 4000000
namespace PC
open PySem PySem.Spec
open PyProof.Rows hiding St
open L2 PL TX PM
def mirror (l : List Pt) : List Pt := l.reverse.map fun p => (1 - p.1, 1 - p.2)
def innerOf (l r : List Pt) : List Rat := (r.filter fun c => isShown l c.1).map fun c => placeOf l c.1
def chain (l r : List Pt) : List Pt := (merge (l.map fun p => p.1) (innerOf l r)).map fun x => (x, valueAt r (valueAt l x))
def BdL (n : Nat) (l : List Rat) : Prop := ∀ x ∈ l, Bd n x
section
variable {P : Program} {w : World} {K : Fg} {mg : PySem.Str → Option Value} {base : Heap}
/-- what the curve of two needs -/
structure ChB (l r : List Pt) (n m s u : Nat) : Prop where
  gl : Good l n
  gr : Good r m
  sl : Sl s l
  sr : Sl u r
  len : l.length + r.length ≤ 100
  n4 : 4 * n + 2 ≤ 9000
  m4 : 4 * m + 2 ≤ 9000
  le1 : 4 * n + 2 * s + m + 5 ≤ 9000
  le2 : 4 * n + 2 * s + m + 2 * m + u + 5 ≤ 9000
def PrCh (l r : List Pt) : Prop := ∃ n m s u, ChB l r n m s u
end
end PC
set_option Elab.async false
set_option linter.all false
set_option maxRecDepth 100000
set_option maxHeartbeats 4000000
namespace PC
open PySem PySem.Spec
open PyProof.Rows hiding St
open L2 PL TX PM
def turnsOf (l : List Pt) : List Pt := (l.drop 1).dropLast
def sC (K : Fg) : Sh (List Pt) := fun H v l => ∃ p dx x y, v = .ref p ∧ H p = some (.ins (aGlo "Curve" K) dx [("spots", x), ("turns", y)]) ∧ sPs K H x l ∧ sPs K H y (turnsOf l)
instance {K : Fg} : Mo (sC K) := ⟨fun e ⟨p, dx, x, y, h1, h2, h3, h4⟩ => ⟨p, dx, x, y, h1, e _ _ h2, Mo.up e h3, Mo.up e h4⟩⟩
instance {K : Fg} : Lf (sC K) := ⟨fun {H D xs v a} hD ⟨p, dx, x, y, h1, h2, h3, h4⟩ => ⟨p, dx, x, y, h1, by rw [hide_ne fun z => (by rw [z, hD] at h2; cases h2)]; exact h2, Lf.lf hD h3, Lf.lf hD h4⟩⟩
section
variable {X : Cx} {Γ : List Cell} {α β : Type} {s : Sh α} {t : Sh β} {xs : List α} {ys : List β} {e1 e2 : Expr} {pos p : Pos} [Mo s] [Mo t] {elts : List Expr} {kk : Nat} {tpos : Pos}
end
section
variable {P : Program} {w : World} {K : Fg} {mg : PySem.Str → Option Value} {base : Heap}
def PrC (l : List Pt) : Prop := (∃ n, Good l n ∧ n ≤ 2000) ∧ l.length ≤ 26
def slopesOf (l : List Pt) : List Rat := (l.zip (l.drop 1)).map fun p => slope p.1 p.2
end
end PC
set_option linter.all false
set_option maxRecDepth 100000
namespace PM
theorem num_eq (q : Rat) : q * (q.den : Rat) = (q.num : Rat) := by
  have h : (q.num : Rat) / (q.den : Rat) = q := by
    have := Rat.num_divInt_den q
    rw [Rat.divInt_eq_div] at this
    exact this
  have hd : (q.den : Rat) ≠ 0 := by
    have := q.den_pos
    rw [Ne, Rat.natCast_eq_zero_iff]
    omega
  conv => lhs; lhs; rw [← h]
  exact Rat.div_mul_cancel hd
theorem grid_num {q : Rat} {W : Nat} (h : q.den ∣ W) : ∃ k : Int, q * (W : Rat) = (k : Rat) := by
  obtain ⟨c, rfl⟩ := h
  refine ⟨q.num * c, ?_⟩
  have := num_eq q
  rw [Rat.natCast_mul, ← Rat.mul_assoc, this, Rat.intCast_mul]
  rfl
theorem grid_of {q : Rat} {W : Nat} {k : Int} (hW : 0 < W) (h : q * (W : Rat) = (k : Rat)) : q.den ∣ W := by
  have hd : (W : Rat) ≠ 0 := by
    rw [Ne, Rat.natCast_eq_zero_iff]
    omega
  have e : q = Rat.divInt k (W : Int) := by
    rw [Rat.divInt_eq_div, ← h]
    exact (Rat.mul_div_cancel hd).symm
  rw [e, Rat.den_divInt, if_neg (by omega)]
  exact Nat.div_dvd_of_dvd (Int.gcd_dvd_natAbs_left (W : Int) k)
def hf : Rat := Rat.divInt 1 2
def midP (a b : Pt) : Pt := ((a.1 + b.1) * hf, (a.2 + b.2) * hf)
/-- a row of points on a grid -/
structure Row (Wx Wy : Nat) (l : List Pt) : Prop where
  inc : Inc l
  two : 2 ≤ l.length
  val : ∀ p ∈ l, (0 ≤ p.1 ∧ p.1 ≤ 1) ∧ 0 ≤ p.2 ∧ p.2 ≤ 1
  hd : ∃ p, l.head? = some p ∧ p.1 = 0
  ls : ∃ p, l.getLast? = some p ∧ p.1 = 1
  gx : ∀ p ∈ l, p.1.den ∣ Wx
  gy : ∀ p ∈ l, p.2.den ∣ Wy
/-- slopes of rows on grids -/
theorem bd_slope_grid {a b : Nat} {p q : Pt} {Wx Wy : Nat} (hx : 0 < Wx) (hy : 0 < Wy) (x1 : p.1.den ∣ Wx) (x2 : q.1.den ∣ Wx) (y1 : p.2.den ∣ Wy) (y2 : q.2.den ∣ Wy) (ux : 0 ≤ p.1 ∧ q.1 ≤ 1) (uy : 0 ≤ p.2 ∧ q.2 ≤ 1) (h : Lt2 p q) (hW : Wx < 2 ^ a) (hW2 : Wy < 2 ^ b) : Bd (a + b) (slope p q) := by
  obtain ⟨k1, e1⟩ := grid_num x1
  obtain ⟨k2, e2⟩ := grid_num x2
  obtain ⟨j1, f1⟩ := grid_num y1
  obtain ⟨j2, f2⟩ := grid_num y2
  have hX : (0 : Rat) < (Wx : Rat) := Rat.natCast_pos.mpr hx
  have hY : (0 : Rat) < (Wy : Rat) := Rat.natCast_pos.mpr hy
  have hD : 0 < q.1 - p.1 := by have := h.1; grind
  have hE : 0 < q.2 - p.2 := by have := h.2; grind
  have ek : (q.1 - p.1) * (Wx : Rat) = ((k2 - k1 : Int) : Rat) := by rw [Rat.intCast_sub, ← e1, ← e2]; grind
  have ej : (q.2 - p.2) * (Wy : Rat) = ((j2 - j1 : Int) : Rat) := by rw [Rat.intCast_sub, ← f1, ← f2]; grind
  have hD1 : q.1 - p.1 ≤ 1 := by grind
  have hE1 : q.2 - p.2 ≤ 1 := by grind
  generalize k2 - k1 = k at *
  generalize j2 - j1 = j at *
  unfold slope
  generalize q.1 - p.1 = D at *
  generalize q.2 - p.2 = E at *
  have kp : 0 < k := Rat.intCast_pos.mp (by rw [← ek]; exact Rat.mul_pos hD hX)
  have jp : 0 < j := Rat.intCast_pos.mp (by rw [← ej]; exact Rat.mul_pos hE hY)
  have k1' : k ≤ (Wx : Int) := Rat.intCast_le_intCast.mp (by
    rw [← ek]
    have := Rat.mul_le_mul_of_nonneg_right hD1 (Rat.le_of_lt hX)
    rw [Rat.one_mul] at this
    exact this)
  have j1' : j ≤ (Wy : Int) := Rat.intCast_le_intCast.mp (by
    rw [← ej]
    have := Rat.mul_le_mul_of_nonneg_right hE1 (Rat.le_of_lt hY)
    rw [Rat.one_mul] at this
    exact this)
  have pos : 0 < k * (Wy : Int) := Int.mul_pos kp (by omega)
  have e : E / D = Rat.divInt (j * (Wx : Int)) (k * (Wy : Int)) := by
    rw [Rat.divInt_eq_div]
    generalize hr : ((j * (Wx : Int) : Int) : Rat) / ((k * (Wy : Int) : Int) : Rat) = r
    have hne : ((k * (Wy : Int) : Int) : Rat) ≠ 0 := by
      have := Rat.intCast_pos.mpr pos
      grind
    have z : r * ((k * (Wy : Int) : Int) : Rat) = ((j * (Wx : Int) : Int) : Rat) := by rw [← hr]; exact Rat.div_mul_cancel hne
    have c1 : ((Wy : Int) : Rat) = (Wy : Rat) := rfl
    have c2 : ((Wx : Int) : Rat) = (Wx : Rat) := rfl
    rw [Rat.intCast_mul, Rat.intCast_mul, c1, c2, ← ek, ← ej] at z
    have z2 : (r * D - E) * ((Wx : Rat) * (Wy : Rat)) = 0 := by grind
    have z3 : (Wx : Rat) * (Wy : Rat) ≠ 0 := by
      have := Rat.mul_pos hX hY
      grind
    rcases Rat.mul_eq_zero.mp z2 with y | y
    · have : E = r * D := by grind
      rw [this, Rat.mul_div_cancel (by grind)]
    · exact absurd y z3
  rw [e]
  have w1 : j.natAbs ≤ Wy := by omega
  have w2 : k.natAbs ≤ Wx := by omega
  refine bd_divInt pos ?_ ?_
  · rw [Int.natAbs_mul, Nat.add_comm]
    exact mul_lt_pow (Nat.lt_of_le_of_lt w1 hW2) (show Wx < 2 ^ a from hW)
  · rw [Int.natAbs_mul]
    exact mul_lt_pow (Nat.lt_of_le_of_lt w2 hW) (show Wy < 2 ^ b from hW2)
theorem Row.sl {a b : Nat} {Wx Wy : Nat} {l : List Pt} (h : Row Wx Wy l) (hx : 0 < Wx) (hy : 0 < Wy) (hW : Wx < 2 ^ a) (hW2 : Wy < 2 ^ b) : Sl (a + b) l := fun i p q h1 h2 => by
  have m1 := List.mem_of_getElem? h1
  have m2 := List.mem_of_getElem? h2
  exact bd_slope_grid hx hy (h.gx p m1) (h.gx q m2) (h.gy p m1) (h.gy q m2) ⟨(h.val p m1).1.1, (h.val q m2).1.2⟩ ⟨(h.val p m1).2.1, (h.val q m2).2.2⟩ (inc_adj h.inc h1 h2) hW hW2
end PM
set_option linter.all false
set_option maxRecDepth 100000
namespace PM
end PM
set_option linter.all false
set_option maxRecDepth 100000
namespace PM
/-! ### curves as functions -/
/-- the line through p with the slope s -/
theorem on_eq {p q : Pt} {x : Rat} : onPiece (p, q) x = p.2 + slope p q * (x - p.1) := rfl
theorem slope_of {p q q' : Pt} {x : Rat} (hx : p.1 < x) (h : onPiece (p, q) x = onPiece (p, q') x) : slope p q = slope p q' := by
  rw [on_eq, on_eq] at h
  have h1 : (slope p q - slope p q') * (x - p.1) = 0 := by grind
  rcases Rat.mul_eq_zero.mp h1 with z | z
  · grind
  · exfalso
    grind
theorem lastP_lt {p : Pt} {t : List Pt} (h : Inc (p :: t)) (ht : t ≠ []) : p.1 < (lastP p t).1 := by
  cases t with
  | nil => exact absurd rfl ht
  | cons q t => exact (Inc.lt h _ (lastP_mem (p := q) (t := t))).1
theorem lastP_ge {p q : Pt} {t : List Pt} (h : Inc (p :: q :: t)) : q.1 ≤ (lastP p (q :: t)).1 := by
  cases t with
  | nil => exact Rat.le_refl
  | cons r t => exact Rat.le_of_lt (lastP_lt h.tail (List.cons_ne_nil _ _))
theorem va_first {p q : Pt} {t : List Pt} (x : Rat) (h : x ≤ q.1) : valueAt (p :: q :: t) x = onPiece (p, q) x := by
  cases t with
  | nil => rfl
  | cons r t => rw [va_split, if_neg (Rat.not_lt.mpr h)]
theorem va_next {p q : Pt} {t : List Pt} (hi : Inc (p :: q :: t)) (ht : t ≠ []) (x : Rat) (h : q.1 ≤ x) : valueAt (p :: q :: t) x = valueAt (q :: t) x := by
  cases t with
  | nil => exact absurd rfl ht
  | cons r t =>
    rw [va_split]
    split
    · rfl
    · rename_i hn
      have e : x = q.1 := Rat.le_antisymm (Rat.not_lt.mp hn) h
      subst e
      rw [on_end hi.head, va_first _ (Rat.le_of_lt hi.tail.head.1), on_start]
theorem turns_tail {p q : Pt} {t : List Pt} (h : Turns (p :: q :: t)) : Turns (q :: t) := by
  cases h with
  | two => exact .one q
  | cons _ k => exact k
theorem turns_head {p q r : Pt} {t : List Pt} (h : Turns (p :: q :: r :: t)) : slope p q ≠ slope q r := by
  cases h with
  | cons h _ => exact h
/-- two curves without flat corners that show the same, one of them turning first -/
theorem ext_no {p q q' : Pt} {t t' : List Pt} (hi : Inc (p :: q :: t)) (hi' : Inc (p :: q' :: t')) (tn : Turns (p :: q :: t)) (hl : (lastP p (q :: t)).1 = (lastP p (q' :: t')).1)
    (he : ∀ x, p.1 ≤ x → x ≤ (lastP p (q :: t)).1 → valueAt (p :: q :: t) x = valueAt (p :: q' :: t') x) (hlt : q.1 < q'.1) : False := by
  have g1 := lastP_ge hi'
  have hs : slope p q = slope p q' := by
    refine slope_of (x := q.1) hi.head.1 ?_
    rw [← va_first (t := t) q.1 Rat.le_refl, he q.1 (Rat.le_of_lt hi.head.1) (lastP_ge hi), va_first q.1 (Rat.le_of_lt hlt)]
  cases t with
  | nil =>
    have e : (lastP p [q]).1 = q.1 := rfl
    rw [e] at hl
    grind
  | cons r t =>
    have hr := hi.tail.head
    have g2 := lastP_ge hi.tail
    -- a place behind q, ahead of r and q'
    let z := if r.1 ≤ q'.1 then r.1 else q'.1
    have hz : q.1 < z ∧ z ≤ r.1 ∧ z ≤ q'.1 := by
      show q.1 < (if r.1 ≤ q'.1 then r.1 else q'.1) ∧ _
      have := hr.1
      split
      · rename_i h
        exact ⟨hr.1, by show (if r.1 ≤ q'.1 then r.1 else q'.1) ≤ _; rw [if_pos h]; exact Rat.le_refl, by show (if r.1 ≤ q'.1 then r.1 else q'.1) ≤ _; rw [if_pos h]; exact h⟩
      · rename_i h
        exact ⟨hlt, by show (if r.1 ≤ q'.1 then r.1 else q'.1) ≤ _; rw [if_neg h]; exact Rat.le_of_lt (Rat.not_le.mp h), by show (if r.1 ≤ q'.1 then r.1 else q'.1) ≤ _; rw [if_neg h]; exact Rat.le_refl⟩
    obtain ⟨z1, z2, z3⟩ := hz
    have e1 := he z (Rat.le_trans (Rat.le_of_lt hi.head.1) (Rat.le_of_lt z1)) (Rat.le_trans z2 g2)
    rw [va_next hi (List.cons_ne_nil _ _) z (Rat.le_of_lt z1), va_first z z2, va_first z z3] at e1
    refine turns_head tn ?_
    have e2 := slope_mul hi.head
    rw [on_eq, on_eq, ← hs] at e1
    have e3 : (slope p q - slope q r) * (z - q.1) = 0 := by grind
    rcases Rat.mul_eq_zero.mp e3 with h | h
    · grind
    · exfalso
      grind
theorem ext_pts : ∀ {t t' : List Pt} {p p' : Pt}, Inc (p :: t) → Inc (p' :: t') → Turns (p :: t) → Turns (p' :: t') → t ≠ [] → t' ≠ [] → p.1 = p'.1 → (lastP p t).1 = (lastP p' t').1 →
    (∀ x, p.1 ≤ x → x ≤ (lastP p t).1 → valueAt (p :: t) x = valueAt (p' :: t') x) → p :: t = p' :: t'
  | [], _, _, _, _, _, _, _, h, _, _, _, _ => absurd rfl h
  | _ :: _, [], _, _, _, _, _, _, _, h, _, _, _ => absurd rfl h
  | q :: t, q' :: t', p, p', hi, hi', tn, tn', _, _, h0, hl, he => by
    have ep : p = p' := by
      have e1 := he p.1 Rat.le_refl (Rat.le_of_lt (lastP_lt hi (List.cons_ne_nil _ _)))
      rw [va_pt hi (List.cons_ne_nil _ _) p List.mem_cons_self, h0, va_pt hi' (List.cons_ne_nil _ _) p' List.mem_cons_self] at e1
      exact Prod.ext h0 e1
    subst ep
    have eq1 : q.1 = q'.1 := by
      by_cases h : q.1 < q'.1
      · exact (ext_no hi hi' tn hl he h).elim
      · by_cases h2 : q'.1 < q.1
        · exact (ext_no hi' hi tn' hl.symm (fun x h1 h2 => (he x h1 (by rw [hl]; exact h2)).symm) h2).elim
        · grind
    have eq : q = q' := by
      have e1 := he q.1 (Rat.le_of_lt hi.head.1) (lastP_ge hi)
      rw [va_pt hi (List.cons_ne_nil _ _) q (List.mem_cons_of_mem _ List.mem_cons_self), eq1, va_pt hi' (List.cons_ne_nil _ _) q' (List.mem_cons_of_mem _ List.mem_cons_self)] at e1
      exact Prod.ext eq1 e1
    subst eq
    cases t with
    | nil =>
      cases t' with
      | nil => rfl
      | cons r t' =>
        have := lastP_lt hi'.tail (List.cons_ne_nil r t')
        have e : (lastP p [q]).1 = q.1 := rfl
        have e2 : lastP p (q :: r :: t') = lastP q (r :: t') := rfl
        rw [e, e2] at hl
        grind
    | cons r t =>
      cases t' with
      | nil =>
        have := lastP_lt hi.tail (List.cons_ne_nil r t)
        have e : (lastP p [q]).1 = q.1 := rfl
        have e2 : lastP p (q :: r :: t) = lastP q (r :: t) := rfl
        rw [e, e2] at hl
        grind
      | cons r' t' =>
        have ih := ext_pts hi.tail hi'.tail (turns_tail tn) (turns_tail tn') (List.cons_ne_nil _ _) (List.cons_ne_nil _ _) rfl hl fun x h1 h2 => by
          have e1 := he x (Rat.le_trans (Rat.le_of_lt hi.head.1) h1) h2
          rw [va_next hi (List.cons_ne_nil _ _) x h1, va_next hi' (List.cons_ne_nil _ _) x h1] at e1
          exact e1
        rw [ih]
/-! ### straight pieces -/
def Aff (f : Rat → Rat) (a b : Rat) : Prop := ∃ s c, ∀ x, a ≤ x → x ≤ b → f x = s * x + c
theorem Aff.sub {f : Rat → Rat} {a b a' b' : Rat} (h : Aff f a b) (h1 : a ≤ a') (h2 : b' ≤ b) : Aff f a' b' := by
  obtain ⟨s, c, e⟩ := h
  exact ⟨s, c, fun x g1 g2 => e x (Rat.le_trans h1 g1) (Rat.le_trans g2 h2)⟩
theorem Aff.congr {f g : Rat → Rat} {a b : Rat} (h : Aff f a b) (e : ∀ x, a ≤ x → x ≤ b → g x = f x) : Aff g a b := by
  obtain ⟨s, c, k⟩ := h
  exact ⟨s, c, fun x g1 g2 => (e x g1 g2).trans (k x g1 g2)⟩
theorem Aff.comp {f g : Rat → Rat} {a b : Rat} (h : Aff f a b) (hm : ∀ x, a ≤ x → x ≤ b → f a ≤ f x ∧ f x ≤ f b) (k : Aff g (f a) (f b)) : Aff (fun x => g (f x)) a b := by
  obtain ⟨s, c, e⟩ := h
  obtain ⟨s', c', e'⟩ := k
  refine ⟨s' * s, s' * c + c', fun x g1 g2 => ?_⟩
  show g (f x) = _
  rw [e' _ (hm x g1 g2).1 (hm x g1 g2).2, e x g1 g2]
  grind
/-- an affine function is the piece between its points -/
theorem Aff.on {f : Rat → Rat} {a b : Rat} (h : Aff f a b) (hab : a < b) {x : Rat} (h1 : a ≤ x) (h2 : x ≤ b) : onPiece ((a, f a), (b, f b)) x = f x := by
  obtain ⟨s, c, e⟩ := h
  rw [on_eq]
  have e1 : slope (a, f a) (b, f b) = s := by
    unfold slope
    show (f b - f a) / (b - a) = s
    rw [e b (Rat.le_of_lt hab) Rat.le_refl, e a Rat.le_refl (Rat.le_of_lt hab), show s * b + c - (s * a + c) = s * (b - a) by grind, Rat.mul_div_cancel (by grind)]
  rw [e1]
  show f a + s * (x - a) = f x
  rw [e x h1 h2, e a Rat.le_refl (Rat.le_of_lt hab)]
  grind
/-- f is the curve through its points at some places, if it is straight in between -/
theorem va_of {f : Rat → Rat} : ∀ {t : List Rat} {a b : Rat}, Asc (a :: b :: t) → (∀ i u v, (a :: b :: t)[i]? = some u → (a :: b :: t)[i + 1]? = some v → Aff f u v) → ∀ x, a ≤ x → (∃ z, (a :: b :: t).getLast? = some z ∧ x ≤ z) → valueAt ((a :: b :: t).map fun x => (x, f x)) x = f x
  | [], a, b, ha, h, x, h1, ⟨z, hz, h2⟩ => by
    cases hz
    exact (h 0 a b rfl rfl).on (List.rel_of_pairwise_cons ha List.mem_cons_self) h1 h2
  | c :: t, a, b, ha, h, x, h1, ⟨z, hz, h2⟩ => by
    have hab : a < b := List.rel_of_pairwise_cons ha List.mem_cons_self
    show valueAt ((a, f a) :: (b, f b) :: (c, f c) :: t.map fun x => (x, f x)) x = f x
    rw [va_split]
    split
    · rename_i hb
      exact va_of (List.Pairwise.of_cons ha) (fun i u v g1 g2 => h (i + 1) u v g1 g2) x (Rat.le_of_lt hb) ⟨z, hz, h2⟩
    · rename_i hb
      exact (h 0 a b rfl rfl).on hab h1 (Rat.not_lt.mp hb)
/-- between neighboring places nothing lies -/
theorem asc_gap : ∀ {l : List Rat}, Asc l → ∀ {i : Nat} {a b : Rat}, l[i]? = some a → l[i + 1]? = some b → a < b ∧ ∀ z ∈ l, ¬ (a < z ∧ z < b) := by
  intro l h i a b h1 h2
  have l1 := (List.getElem?_eq_some_iff.mp h1).1
  have l2 := (List.getElem?_eq_some_iff.mp h2).1
  have e1 := (List.getElem?_eq_some_iff.mp h1).2
  have e2 := (List.getElem?_eq_some_iff.mp h2).2
  have g := List.pairwise_iff_getElem.mp h
  refine ⟨by rw [← e1, ← e2]; exact g i (i + 1) l1 l2 (by omega), fun z hz => ?_⟩
  obtain ⟨j, hj, e⟩ := List.getElem_of_mem hz
  rintro ⟨z1, z2⟩
  rw [← e, ← e1] at z1
  rw [← e, ← e2] at z2
  rcases Nat.lt_trichotomy j i with q | q | q
  · have := g j i hj l1 q
    grind
  · subst q
    exact Rat.lt_irrefl z1
  · by_cases w : j = i + 1
    · subst w
      exact Rat.lt_irrefl z2
    · have := g (i + 1) j l2 hj (by omega)
      grind
end PM
set_option Elab.async false
set_option linter.all false
set_option maxRecDepth 100000
set_option maxHeartbeats 4000000
namespace PC
open PySem PySem.Spec
open PyProof.Rows hiding St
open L2 PL TX PM
theorem bd_grid {q : Rat} {W n : Nat} (h0 : 0 ≤ q) (h1 : q ≤ 1) (hW : 0 < W) (hn : W < 2 ^ n) (hd : q.den ∣ W) : Bd n q := by
  have h2 : q.den ≤ W := Nat.le_of_dvd hW hd
  have h3 : 0 ≤ q.num := Rat.num_nonneg.mpr h0
  have h4 : q.num ≤ (q.den : Int) := by have := (Rat.le_iff q 1).mp h1; simpa using this
  exact ⟨Nat.lt_of_le_of_lt (show q.num.natAbs ≤ W by omega) hn, Nat.lt_of_le_of_lt h2 hn⟩
/-- a curve at hand -/
structure Crv (n : Nat) (l : List Pt) : Prop where
  good : Good l n
  turns : Turns l
end PC
set_option Elab.async false
set_option linter.all false
set_option maxRecDepth 100000
set_option maxHeartbeats 4000000
namespace PC
open PySem PySem.Spec
open PyProof.Rows hiding St
open L2 PL TX PM
theorem inc_pw : ∀ {l : List Pt}, Inc l → l.Pairwise Lt2 := by
  intro l h
  induction h with
  | one p => exact List.pairwise_singleton _ _
  | cons h r ih => exact List.pairwise_cons.mpr ⟨fun q hq => Inc.lt (.cons h r) q hq, ih⟩
end PC
set_option Elab.async false
set_option linter.all false
set_option maxRecDepth 100000
set_option maxHeartbeats 4000000
namespace PC
open PM
theorem asc_head {l : List Rat} {a : Rat} (h : Asc l) (ha : a ∈ l) (hl : ∀ x ∈ l, a ≤ x) : l.head? = some a := by
  cases l with
  | nil => cases ha
  | cons x t =>
    rcases List.mem_cons.mp ha with e | ha
    · rw [e]; rfl
    · have h1 := (List.pairwise_cons.mp h).1 a ha
      have h2 := hl x List.mem_cons_self
      grind
theorem asc_last : ∀ {l : List Rat} {a : Rat}, Asc l → a ∈ l → (∀ x ∈ l, x ≤ a) → l.getLast? = some a
  | [], _, _, ha, _ => by cases ha
  | [x], a, _, ha, _ => by
    rcases List.mem_cons.mp ha with e | ha
    · rw [e]; rfl
    · cases ha
  | x :: y :: t, a, h, ha, hl => by
    rw [List.getLast?_cons_cons]
    have g := List.pairwise_cons.mp h
    refine asc_last g.2 ?_ fun z hz => hl z (List.mem_cons_of_mem _ hz)
    rcases List.mem_cons.mp ha with e | ha
    · have h1 := g.1 y List.mem_cons_self
      have h2 := hl y (List.mem_cons_of_mem _ List.mem_cons_self)
      grind
    · exact ha
theorem po_lt {p : Pt} {t : List Pt} (h : Inc (p :: t)) (ht : t ≠ []) {y z : Rat} (hy : p.2 ≤ y) (hyz : y < z) : placeOf (p :: t) y < placeOf (p :: t) z := by
  apply Rat.not_le.mp
  intro hle
  have h1 := va_le h ht hle
  rw [(va_po h ht hy).1, (va_po h ht (by grind)).1] at h1
  grind
end PC
set_option Elab.async false
set_option linter.all false
set_option maxRecDepth 100000
set_option maxHeartbeats 4000000
namespace PC
open PySem PySem.Spec
open PyProof.Rows hiding St
open L2 PL TX PM
/-! ### curves at work: rules for the law's expressions -/
section
variable {C : Addr} {α β : Type} {s : Sh α} {t : Sh β}
end
section
variable {X : Cx} {Γ : List Cell} {e e1 e2 o : Expr} {pos p apos : Pos} {l : List Pt} {a : Rat} (T : Tx ex fn X.K X.mg)
include T
end
end PC
set_option Elab.async false
set_option linter.all false
set_option maxRecDepth 100000
set_option maxHeartbeats 4000000
namespace PC
open PM
/-! ### good curves: what is at which place -/
section
variable {l : List Pt} {n : Nat}
theorem Good.cons (g : Good l n) : ∃ p t, l = p :: t ∧ t ≠ [] ∧ p.1 = 0 ∧ (lastP p t).1 = 1 ∧ Inc (p :: t) := by
  obtain ⟨p, t, rfl, h1, h2⟩ := g.lo
  refine ⟨p, t, rfl, fun z => ?_, h1, h2, g.inc⟩
  have := g.two
  rw [z] at this
  simp at this
theorem Good.ne (g : Good l n) : l ≠ [] := by
  obtain ⟨p, t, rfl, _⟩ := g.cons
  exact List.cons_ne_nil _ _
theorem Good.va (g : Good l n) {r : Pt} (h : r ∈ l) : valueAt l r.1 = r.2 := by
  obtain ⟨p, t, rfl, ht, _, _, hi⟩ := g.cons
  exact va_pt hi ht r h
theorem Good.po (g : Good l n) {r : Pt} (h : r ∈ l) : placeOf l r.2 = r.1 := by
  obtain ⟨p, t, rfl, ht, _, _, hi⟩ := g.cons
  exact po_pt hi ht r h
theorem isVal_iff {q : Rat} : isVal q = true ↔ 0 ≤ q ∧ q ≤ 1 := by
  unfold isVal
  exact decide_eq_true_iff
theorem Good.seen (g : Good l n) {x : Rat} (h : isVal x = true) : isShown l (valueAt l x) = true ∧ isVal (valueAt l x) = true ∧ placeOf l (valueAt l x) = x := by
  obtain ⟨p, t, rfl, ht, h0, h1, hi⟩ := g.cons
  obtain ⟨x0, x1⟩ := isVal_iff.mp h
  have a1 := (va_lo hi ht (by rw [h0]; exact x0)).1
  have a2 := va_hi hi ht (by rw [h1]; exact x1)
  obtain ⟨_, b1⟩ := g.val p List.mem_cons_self
  obtain ⟨_, b2⟩ := g.val _ (lastP_mem (p := p) (t := t))
  have b1 := isVal_iff.mp b1
  have b2 := isVal_iff.mp b2
  refine ⟨?_, isVal_iff.mpr ⟨Rat.le_trans b1.1 a1, Rat.le_trans a2 b2.2⟩, po_va hi ht (by rw [h0]; exact x0)⟩
  show (decide (p.2 ≤ valueAt (p :: t) x) && decide (valueAt (p :: t) x ≤ (lastP p t).2)) = true
  rw [decide_eq_true a1, decide_eq_true a2]
  rfl
theorem Good.back (g : Good l n) {y : Rat} (h : isShown l y = true) : valueAt l (placeOf l y) = y ∧ isVal (placeOf l y) = true := by
  obtain ⟨p, t, rfl, ht, h0, h1, hi⟩ := g.cons
  unfold isShown at h
  obtain ⟨a1, a2⟩ := Bool.and_eq_true_iff.mp h
  have a1 := of_decide_eq_true a1
  have a2 := of_decide_eq_true a2
  obtain ⟨c1, c2, _⟩ := va_po hi ht a1
  have c3 := po_hi hi ht a1 a2
  exact ⟨c1, isVal_iff.mpr ⟨by rw [← h0]; exact c2, by rw [← h1]; exact c3⟩⟩
theorem Good.lt (g : Good l n) {x y : Rat} (h : x < y) : valueAt l x < valueAt l y := by
  obtain ⟨p, t, rfl, ht, _, _, hi⟩ := g.cons
  exact va_lt hi ht h
end
end PC
set_option Elab.async false
set_option linter.all false
set_option maxRecDepth 100000
set_option maxHeartbeats 4000000
namespace PC
open PM
/-! ### curves as functions from the gray values to the gray values -/
theorem Good.le {l : List Pt} {n : Nat} (g : Good l n) {x y : Rat} (h : x ≤ y) : valueAt l x ≤ valueAt l y := by
  obtain ⟨p, t, rfl, ht, _, _, hi⟩ := g.cons
  exact va_le hi ht h
/-- the one curve that shows this -/
theorem Crv.ext {l r : List Pt} {n m : Nat} (c : Crv n l) (d : Crv m r) (h : ∀ x, 0 ≤ x → x ≤ 1 → valueAt l x = valueAt r x) : l = r := by
  obtain ⟨p, t, rfl, ht, h0, h1, hi⟩ := c.good.cons
  obtain ⟨q, u, rfl, hu, k0, k1, ki⟩ := d.good.cons
  exact ext_pts hi ki c.turns d.turns ht hu (h0.trans k0.symm) (h1.trans k1.symm) fun x a b => h x (by rw [← h0]; exact a) (by rw [← h1]; exact b)
/-- ascending places from 0 to 1 -/
structure Places (xs : List Rat) : Prop where
  asc : Asc xs
  zero : (0 : Rat) ∈ xs
  one : (1 : Rat) ∈ xs
  unit : ∀ x ∈ xs, 0 ≤ x ∧ x ≤ 1
theorem Places.cons {xs : List Rat} (h : Places xs) : ∃ b t, xs = 0 :: b :: t ∧ xs.getLast? = some 1 := by
  have hd := asc_head h.asc h.zero fun x hx => (h.unit x hx).1
  have ls := asc_last h.asc h.one fun x hx => (h.unit x hx).2
  match xs, hd, ls with
  | [a], hd, ls =>
    cases hd
    cases ls
  | a :: b :: t, hd, ls =>
    cases hd
    exact ⟨b, t, rfl, ls⟩
/-- f is the curve through its points at some places, if it is straight in between -/
theorem Places.va {xs : List Rat} (h : Places xs) {f : Rat → Rat} (k : ∀ a b, a ∈ xs → b ∈ xs → a < b → (∀ z ∈ xs, ¬ (a < z ∧ z < b)) → Aff f a b) {x : Rat} (h0 : 0 ≤ x) (h1 : x ≤ 1) : valueAt (xs.map fun x => (x, f x)) x = f x := by
  obtain ⟨b, t, rfl, ls⟩ := h.cons
  refine va_of h.asc (fun i u v e1 e2 => ?_) x h0 ⟨1, ls, h1⟩
  obtain ⟨g1, g2⟩ := asc_gap h.asc e1 e2
  exact k u v (List.mem_of_getElem? e1) (List.mem_of_getElem? e2) g1 g2
theorem Good.places {l : List Pt} {n : Nat} (g : Good l n) : Places (l.map fun p => p.1) := by
  obtain ⟨p, t, rfl, ht, h0, h1, hi⟩ := g.cons
  refine ⟨hi.asc, List.mem_map.mpr ⟨p, List.mem_cons_self, h0⟩, List.mem_map.mpr ⟨_, lastP_mem, h1⟩, fun x hx => ?_⟩
  obtain ⟨q, hq, rfl⟩ := List.mem_map.mp hx
  exact isVal_iff.mp (g.val q hq).1
theorem Places.merge {xs ys : List Rat} (h : Places xs) (k : Asc ys) (u : ∀ y ∈ ys, 0 ≤ y ∧ y ≤ 1) : Places (merge xs ys) := by
  have m := fun z => merge_mem (Nat.le_refl (xs.length + ys.length)) (a := xs) (b := ys) z
  refine ⟨merge_asc (Nat.le_refl _) h.asc k, (m _).mpr (.inl h.zero), (m _).mpr (.inl h.one), fun x hx => ?_⟩
  rcases (m x).mp hx with q | q
  · exact h.unit x q
  · exact u x q
theorem Good.inner {l r : List Pt} {n m : Nat} (gl : Good l n) (gr : Good r m) : Asc (innerOf l r) ∧ (∀ y ∈ innerOf l r, 0 ≤ y ∧ y ≤ 1) := by
  constructor
  · obtain ⟨p, t, rfl, ht, h0, h1, hi⟩ := gl.cons
    unfold innerOf Asc
    rw [List.pairwise_map]
    have hp : (r.filter fun c => isShown (p :: t) c.1).Pairwise Lt2 := List.Pairwise.sublist List.filter_sublist (inc_pw gr.inc)
    refine List.Pairwise.imp_of_mem (fun {a b} ha hb hab => po_lt hi ht ?_ hab.1) hp
    have := (List.mem_filter.mp ha).2
    exact of_decide_eq_true (Bool.and_eq_true_iff.mp this).1
  · intro y hy
    obtain ⟨c, hc, rfl⟩ := List.mem_map.mp hy
    exact isVal_iff.mp (gl.back (List.mem_filter.mp hc).2).2
/-! ### the order -/
def atMost (l r : List Pt) : Bool := (merge (l.map fun p => p.1) (r.map fun p => p.1)).all fun x => decide (valueAt l x ≤ valueAt r x)
/-! ### slopes -/
/-! ### curves at hand: bits of the points, bits of the slopes -/
structure Cu (n s : Nat) (l : List Pt) : Prop where
  crv : Crv n l
  sl : Sl s l
theorem Cu.good {n s : Nat} {l : List Pt} (c : Cu n s l) : Good l n := c.crv.good
end PC
set_option Elab.async false
set_option linter.all false
set_option maxRecDepth 100000
set_option maxHeartbeats 4000000
namespace PC
open PySem PySem.Spec
open PyProof.Rows hiding St
open L2 PL TX PM
section
variable {X : Cx} {Γ : List Cell} {e e1 e2 o : Expr} {pos p apos : Pos} {l r : List Pt} {a : Rat} (T : Tx ex fn X.K X.mg)
include T
end
end PC
set_option Elab.async false
set_option linter.all false
set_option maxRecDepth 100000
set_option maxHeartbeats 4000000
namespace PC
open PySem PySem.Spec
open PyProof.Rows hiding St
open L2 PL TX PM
/-! ### texts of fractions and curves -/
def txtI (i : Int) : PySem.Str := (toString i : String)
def strQ (q : Rat) : PySem.Str := if (q.den : Int) = 1 then txtI q.num else catS Str.empty [txtI q.num, "/", txtI (q.den : Int)]
def strP (p : Pt) : PySem.Str := catS Str.empty [strQ p.1, ":", strQ p.2]
def strC (l : List Pt) : PySem.Str := Txt.join " " (l.map strP)
theorem log2_of {i : Int} {n : Nat} (h : i.natAbs < 2 ^ n) (hn : n ≤ 1919) : i.natAbs.log2 < 1920 := by
  by_cases z : i.natAbs = 0
  · rw [z]
    decide
  · have := (Nat.log2_lt z).mpr h
    omega
theorem len_txtI {i : Int} (h : i.natAbs.log2 < 1920) : (txtI i).length ≤ 1921 := by
  have e := int_text_length_le (k := 1920) (by decide) h
  show (Str.ofString (toString i)).length ≤ 1921
  rw [PySem.ofString_length]
  exact e
theorem len_strQ {q : Rat} {n : Nat} (h : Bd n q) (hn : n ≤ 1919) : (strQ q).length ≤ 4000 := by
  have h1 := len_txtI (log2_of h.1 hn)
  have h2 := len_txtI (i := (q.den : Int)) (log2_of (n := n) h.2 hn)
  unfold strQ
  split
  · omega
  · show (((Str.empty ++ txtI q.num) ++ ("/" : PySem.Str)) ++ txtI (q.den : Int)).length ≤ 4000
    rw [len_app, len_app, len_app]
    have e1 : (Str.empty : PySem.Str).length = 0 := rfl
    have e2 : ("/" : PySem.Str).length = 1 := rfl
    omega
section
variable {P : Program} {w : World} {K : Fg} {mg : PySem.Str → Option Value} {base : Heap}
theorem c_F_str (T : Tx ex fn K mg) : FnR P w K mg base CX0 1 (aMet "Frac" "__str__" K) (spD (aC (sF K) aN) (fun a => Bd 1919 a.1) sStr (fun a => strQ a.1)) := by
  obtain ⟨fd, F⟩ := f_Frac___str__ T
  refine fn_x F sc_Frac___str__ (argC_cons argC_nil) (fun _ => rfl) (n := 0) (fun _ => rfl) (fun cdv A outer s H E hr ⟨q, _⟩ hp => ?_) (fun _ _ _ _ _ _ us hl => match us, hl with | [_], _ => rfl)
  have hp : Bd 1919 q := hp
  have l1 := log2_of hp.1 (Nat.le_refl _)
  have l2 := log2_of (i := (q.den : Int)) (n := 1919) hp.2 (Nat.le_refl _)
  have t1 := len_txtI l1
  have t2 := len_txtI l2
  have e1 : (Str.empty : PySem.Str).length = 0 := rfl
  have e2 : ("/" : PySem.Str).length = 1 := rfl
  refine xb_ifR (xt_cmpD (f := fun a b => decide (a = b)) op_eq o2_eqI (x_fld (fld_under T) (xv 0)) x_int trivial) (fun h => ?_) fun h => ?_
  · have h : (q.den : Int) = 1 := of_decide_eq_true h
    refine xb_ret (ef (xe_eq (x_strI (n_str T) (x_fld (fld_over T) (xv 0)) l1) ?_))
    show txtI q.num = strQ q
    unfold strQ
    rw [if_pos h]
  · have h : ¬ (q.den : Int) = 1 := of_decide_eq_false h
    refine xb_ret (ef (xe_eq (x_joined (ys := [txtI q.num, "/", txtI (q.den : Int)]) (.cons (x_fmtI (x_fld (fld_over T) (xv 0)) l1) (.cons x_str (.cons (x_fmtI (xe_eq (a' := (q.den : Int)) (x_fld (fld_under T) (xv 0)) rfl) l2) .nil))) ?_) ?_))
    · refine ⟨?_, ?_, ?_, trivial⟩
      · rw [len_app]
        omega
      · rw [len_app, len_app]
        omega
      · rw [len_app, len_app, len_app]
        omega
    · show catS Str.empty [txtI q.num, "/", txtI (q.den : Int)] = strQ q
      unfold strQ
      rw [if_neg h]
end
section
variable {X : Cx} {Γ : List Cell} {e : Expr} {pos p : Pos} {a : Rat} {l : List Pt} (T : Tx ex fn X.K X.mg)
include T
theorem x_strF (hr : Room 3 X.A) (h : XE X e Γ (sF X.K) (· = a)) (hb : Bd 1919 a) (hg : Gl X "str" := by rfl) (hst : starEach [e] X.env = (false, eval e X.env) :: starEach [] X.env := by rfl) (hpl : (backTo pos (starEach [] X.env)).any (·.1) = false := by rfl) : XE X (.Call (.Name "str" p) [e] [] pos) Γ sStr (· = strQ a) :=
  xe_eq (x_callT (f := fun a : Rat × Unit => strQ a.1) (str_own (c_F_str T) (m_Frac___str__ T) hr) (co_strOwn ins_F) (n_str T) rfl (xa h xa0 hst) hb hg (by decide) (by decide) hst hpl) rfl
end
section
variable {P : Program} {w : World} {K : Fg} {mg : PySem.Str → Option Value} {base : Heap}
end
section
variable {X : Cx} {Γ : List Cell} {e : Expr} {pos p : Pos} {a : Rat} {l : List Pt} (T : Tx ex fn X.K X.mg)
include T
end
end PC
set_option Elab.async false
set_option linter.all false
set_option maxRecDepth 100000
set_option maxHeartbeats 4000000
namespace PC
open PySem PySem.Spec
open PyProof.Rows hiding St
open L2 PL TX PM
/-! ### layers -/
inductive Mode where
  | normal
  | darken
  | lighten
  | multiply
  | screen
deriving DecidableEq
def Mode.str : Mode → PySem.Str
  | .normal => "normal"
  | .darken => "darken"
  | .lighten => "lighten"
  | .multiply => "multiply"
  | .screen => "screen"
def Mode.cls (K : Fg) : Mode → Addr
  | .normal => aGlo "Normal" K
  | .darken => aGlo "Darken" K
  | .lighten => aGlo "Lighten" K
  | .multiply => aGlo "Multiply" K
  | .screen => aGlo "Screen" K
structure Lay where
  mode : Mode
  tint : Rat
  cover : Rat
deriving DecidableEq
/-- what is shown at full opacity -/
def aim (m : Mode) (c x : Rat) : Rat := match m with
  | .normal => c
  | .darken => if x ≤ c then x else c
  | .lighten => if c ≤ x then x else c
  | .multiply => x * c
  | .screen => x + c - x * c
def seen (a : Lay) (x : Rat) : Rat := (1 - a.cover) * x + a.cover * aim a.mode a.tint x
/-- what a layer is -/
structure LayOk (k : Nat) (a : Lay) : Prop where
  tint : 0 ≤ a.tint ∧ a.tint ≤ 1
  cover : 0 < a.cover ∧ a.cover < 1
  bt : Bd k a.tint
  bc : Bd k a.cover
theorem LayOk.rest {k : Nat} {a : Lay} (h : LayOk k a) : Bd (k + 2) (1 - a.cover) := (bd_sub (n := 1) ⟨by decide, by decide⟩ h.bc).mono (by omega)
/-! shapes -/
def sLm (K : Fg) (m : Mode) : Sh (Rat × Rat) := fun H v a => ∃ p dx x y z, v = .ref p ∧ H p = some (.ins (m.cls K) dx [("tint", x), ("cover", y), ("rest", z)]) ∧ sF K H x a.1 ∧ sF K H y a.2 ∧ sF K H z (1 - a.2)
instance {K : Fg} {m : Mode} : Mo (sLm K m) := ⟨fun e ⟨p, dx, x, y, z, h1, h2, h3, h4, h5⟩ => ⟨p, dx, x, y, z, h1, e _ _ h2, Mo.up e h3, Mo.up e h4, Mo.up e h5⟩⟩
instance {K : Fg} {m : Mode} : Lf (sLm K m) := ⟨fun {H D xs v a} hD ⟨p, dx, x, y, z, h1, h2, h3, h4, h5⟩ => ⟨p, dx, x, y, z, h1, by rw [hide_ne fun z => (by rw [z, hD] at h2; cases h2)]; exact h2, Lf.lf hD h3, Lf.lf hD h4, Lf.lf hD h5⟩⟩
theorem ins_Lm {K : Fg} {m : Mode} : InsS (m.cls K) (sLm K m) := fun H v a ⟨p, dx, x, y, z, h1, h2, _⟩ => ⟨p, dx, _, h1, h2⟩
def sLy (K : Fg) : Sh Lay := fun H v a => sLm K a.mode H v (a.tint, a.cover)
instance {K : Fg} : Mo (sLy K) := ⟨fun e h => Mo.up (s := sLm K _) e h⟩
instance {K : Fg} : Lf (sLy K) := ⟨fun e h => Lf.lf (s := sLm K _) e h⟩
def sMd : Sh Mode := fun _ v m => v = .str m.str
instance : Mo sMd := ⟨fun _ h => h⟩
instance : Lf sMd := ⟨fun _ h => h⟩
theorem str_inj {m n : Mode} : (m.str = n.str) ↔ m = n := by
  constructor
  · intro h
    revert h
    cases m <;> cases n <;> first | (intro _; rfl) | (intro h; exact absurd h (by decide))
  · intro h
    rw [h]
section
variable {X : Cx} {Γ : List Cell} {e : Expr} {m : Mode} {a : Lay}
theorem x_mdS (h : XE X e Γ sMd (· = m)) : XE X e Γ sStr (· = m.str) := xe_sh h fun b hb => ⟨_, by rw [hb], fun H v hv => hv⟩
theorem x_mdOf {y : PySem.Str} (h : XE X e Γ sStr (· = y)) (k : y = m.str) : XE X e Γ sMd (· = m) := xe_sh h fun b hb => ⟨m, rfl, fun H v hv => by rw [hb, k] at hv; exact hv⟩
theorem x_asM (h : XE X e Γ (sLy X.K) (· = a)) : XE X e Γ (sLm X.K a.mode) (· = (a.tint, a.cover)) := xe_sh h fun b hb => ⟨_, rfl, fun H v hv => by rw [hb] at hv; exact hv⟩
theorem x_ofM {q : Rat × Rat} (h : XE X e Γ (sLm X.K m) (· = q)) : XE X e Γ (sLy X.K) (· = ⟨m, q.1, q.2⟩) := xe_sh h fun b hb => ⟨_, rfl, fun H v hv => by rw [hb] at hv; exact hv⟩
end
section
variable {P : Program} {w : World} {K : Fg} {mg : PySem.Str → Option Value} {base : Heap}
/-! facts of the five classes -/
theorem clL (T : Tx ex fn K mg) : ∀ m : Mode, ClsX K (m.cls K)
  | .normal => c_Normal T
  | .darken => c_Darken T
  | .lighten => c_Lighten T
  | .multiply => c_Multiply T
  | .screen => c_Screen T
theorem naTint (T : Tx ex fn K mg) : ∀ m : Mode, NoAttr K (m.cls K) "tint"
  | .normal => a_Normal_tint T
  | .darken => a_Darken_tint T
  | .lighten => a_Lighten_tint T
  | .multiply => a_Multiply_tint T
  | .screen => a_Screen_tint T
theorem naCover (T : Tx ex fn K mg) : ∀ m : Mode, NoAttr K (m.cls K) "cover"
  | .normal => a_Normal_cover T
  | .darken => a_Darken_cover T
  | .lighten => a_Lighten_cover T
  | .multiply => a_Multiply_cover T
  | .screen => a_Screen_cover T
theorem naRest (T : Tx ex fn K mg) : ∀ m : Mode, NoAttr K (m.cls K) "rest"
  | .normal => a_Normal_rest T
  | .darken => a_Darken_rest T
  | .lighten => a_Lighten_rest T
  | .multiply => a_Multiply_rest T
  | .screen => a_Screen_rest T
theorem mkL (T : Tx ex fn K mg) : ∀ m : Mode, Mk K (m.cls K) (aMet "Layer" "__init__" K)
  | .normal => by rw [← e_Normal___init__ T]; exact (c_Normal T).mkr
  | .darken => by rw [← e_Darken___init__ T]; exact (c_Darken T).mkr
  | .lighten => by rw [← e_Lighten___init__ T]; exact (c_Lighten T).mkr
  | .multiply => by rw [← e_Multiply___init__ T]; exact (c_Multiply T).mkr
  | .screen => by rw [← e_Screen___init__ T]; exact (c_Screen T).mkr
theorem neqF (T : Tx ex fn K mg) : ∀ m : Mode, aGlo "Frac" K ≠ m.cls K
  | .normal => fun z => q_Normal_Frac T z.symm
  | .darken => fun z => q_Darken_Frac T z.symm
  | .lighten => fun z => q_Lighten_Frac T z.symm
  | .multiply => fun z => q_Multiply_Frac T z.symm
  | .screen => fun z => q_Screen_Frac T z.symm
theorem conMode (T : Tx ex fn K mg) : ∀ m : Mode, ∃ u, Con K (m.cls K) "MODE" (.str m.str) u
  | .normal => k_Normal_MODE T
  | .darken => k_Darken_MODE T
  | .lighten => k_Lighten_MODE T
  | .multiply => k_Multiply_MODE T
  | .screen => k_Screen_MODE T
theorem kitL (T : Tx ex fn K mg) : ∀ m : Mode, PySem.W.kitOne K (.ref (m.cls K)) (.ref (aGlo "Layer" K)) = some true
  | .normal => kit_Normal_Layer T
  | .darken => kit_Darken_Layer T
  | .lighten => kit_Lighten_Layer T
  | .multiply => kit_Multiply_Layer T
  | .screen => kit_Screen_Layer T
theorem tyL (T : Tx ex fn K mg) (m : Mode) : TyS K (sLm K m) (.ref (m.cls K)) := tyS_ins (clL T m) ins_Lm
theorem fld_tint (T : Tx ex fn K mg) : Fld K (sLy K) "tint" (sF K) Lay.tint := fun H v a ⟨p, dx, x, y, z, h1, h2, h3, h4, h5⟩ => ⟨p, _, dx, _, _, h1, h2, (clL T _).cl, naTint T _, rfl, h3⟩
theorem fld_cover (T : Tx ex fn K mg) : Fld K (sLy K) "cover" (sF K) Lay.cover := fun H v a ⟨p, dx, x, y, z, h1, h2, h3, h4, h5⟩ => ⟨p, _, dx, _, _, h1, h2, (clL T _).cl, naCover T _, rfl, h4⟩
theorem fld_rest (T : Tx ex fn K mg) : Fld K (sLy K) "rest" (sF K) (fun a => 1 - a.cover) := fun H v a ⟨p, dx, x, y, z, h1, h2, h3, h4, h5⟩ => ⟨p, _, dx, _, _, h1, h2, (clL T _).cl, naRest T _, rfl, h5⟩
theorem con_mode (T : Tx ex fn K mg) : FldC K (sLy K) "MODE" sMd Lay.mode := fun H v a ⟨p, dx, x, y, z, h1, h2, h3, h4, h5⟩ => by
  obtain ⟨u, c⟩ := conMode T a.mode
  exact ⟨p, _, dx, _, _, u, h1, h2, (clL T _).cl, c, rfl, rfl⟩
end
section
variable {X : Cx} {Γ : List Cell} {e e1 e2 : Expr} {pos p : Pos} {a b : Rat} {l : Lay} (T : Tx ex fn X.K X.mg)
include T
theorem x_bot (hr : Room 2 X.A) (h : XE X e Γ (sF X.K) (· = a)) (hab : attributeBase e "bottom" X.env (eval e X.env) = eval e X.env := by rfl) : XE X (.Attribute e "bottom" pos) Γ sInt (· = (a.den : Int)) := xe_eq (x_prop ins_F (c_Frac T).cl (p_Frac_bottom T) (c_F_bottom T) hr h trivial hab) rfl
theorem x_tint (h : XE X e Γ (sLy X.K) (· = l)) (hb : attributeBase e "tint" X.env (eval e X.env) = eval e X.env := by rfl) : XE X (.Attribute e "tint" pos) Γ (sF X.K) (· = l.tint) := x_fld (fld_tint T) h hb
theorem x_cover (h : XE X e Γ (sLy X.K) (· = l)) (hb : attributeBase e "cover" X.env (eval e X.env) = eval e X.env := by rfl) : XE X (.Attribute e "cover" pos) Γ (sF X.K) (· = l.cover) := x_fld (fld_cover T) h hb
theorem x_rest (h : XE X e Γ (sLy X.K) (· = l)) (hb : attributeBase e "rest" X.env (eval e X.env) = eval e X.env := by rfl) : XE X (.Attribute e "rest" pos) Γ (sF X.K) (· = 1 - l.cover) := xe_eq (x_fld (fld_rest T) h hb) rfl
theorem x_mode (h : XE X e Γ (sLy X.K) (· = l)) (hb : attributeBase e "MODE" X.env (eval e X.env) = eval e X.env := by rfl) : XE X (.Attribute e "MODE" pos) Γ sMd (· = l.mode) := x_con (con_mode T) h hb
theorem xt_geF (hr : Room 1 X.A) (h1 : XE X e1 Γ (sF X.K) (· = a)) (h2 : XE X e2 Γ (sF X.K) (· = b)) (hp : Ok2 a b) (hb : behindInMarks .GtE e2 = false := by first | exact nomark _ | rfl) : XT X (.Compare e1 [.GtE] [e2] pos) Γ (· = decide (b ≤ a)) := xt_cmpD (f := fun a b => decide (b ≤ a)) (cmp_own rfl (c_F_ge T) (m_Frac___ge__ T) hr) (o2_own ins_F ins_F) h1 h2 hp hb
end
section
variable {P : Program} {w : World} {K : Fg} {mg : PySem.Str → Option Value} {base : Heap}
theorem c_lesser (T : Tx ex fn K mg) : FnR P w K mg base CX0 2 (aGlo "lesser" K) (spD (aC (sF K) (aC (sF K) aN)) (fun a => Ok2 a.1 a.2.1) (sF K) (fun a => if a.1 ≤ a.2.1 then a.1 else a.2.1)) := by
  obtain ⟨fd, F⟩ := f_lesser T
  refine fn_x F sc_lesser (argC_cons (argC_cons argC_nil)) (fun _ => rfl) (n := 0) (fun _ => rfl) (fun cdv A outer s H E hr ⟨a, b, _⟩ hp => ?_) (fun _ _ _ _ _ _ us hl => match us, hl with | [_, _], _ => rfl)
  refine xb_ret (ef (x_ifE (Pc := fun c => c = decide (a ≤ b)) (xt_leF T hr (xv 0) (xv 1) hp) (fun h => xe_eq (xv 0) ?_) fun h => xe_eq (xv 1) ?_))
  · exact (if_pos (of_decide_eq_true h.symm)).symm
  · exact (if_neg (of_decide_eq_false h.symm)).symm
theorem c_greater (T : Tx ex fn K mg) : FnR P w K mg base CX0 2 (aGlo "greater" K) (spD (aC (sF K) (aC (sF K) aN)) (fun a => Ok2 a.1 a.2.1) (sF K) (fun a => if a.2.1 ≤ a.1 then a.1 else a.2.1)) := by
  obtain ⟨fd, F⟩ := f_greater T
  refine fn_x F sc_greater (argC_cons (argC_cons argC_nil)) (fun _ => rfl) (n := 0) (fun _ => rfl) (fun cdv A outer s H E hr ⟨a, b, _⟩ hp => ?_) (fun _ _ _ _ _ _ us hl => match us, hl with | [_, _], _ => rfl)
  refine xb_ret (ef (x_ifE (Pc := fun c => c = decide (b ≤ a)) (xt_geF T hr (xv 0) (xv 1) hp) (fun h => xe_eq (xv 0) ?_) fun h => xe_eq (xv 1) ?_))
  · exact (if_pos (of_decide_eq_true h.symm)).symm
  · exact (if_neg (of_decide_eq_false h.symm)).symm
/-- what target needs -/
def PrT (c x : Rat) : Prop := ∃ n m, Bd n c ∧ Bd m x ∧ 2 * n + 2 * m + 1 ≤ 9000
theorem c_target (T : Tx ex fn K mg) : FnR P w K mg base CX0 6 (aGlo "target" K) (spD (aC sMd (aC (sF K) (aC (sF K) aN))) (fun a => PrT a.2.1 a.2.2.1) (sF K) (fun a => aim a.1 a.2.1 a.2.2.1)) := by
  obtain ⟨fd, F⟩ := f_target T
  refine fn_x F sc_target (argC_cons (argC_cons (argC_cons argC_nil))) (fun _ => rfl) (n := 0) (fun _ => rfl) (fun cdv A outer s H E hr ⟨m, c, x, _⟩ hp => ?_) (fun _ _ _ _ _ _ us hl => match us, hl with | [_, _, _], _ => rfl)
  obtain ⟨n, k, bc, bx, hnk⟩ := hp
  have bc : Bd n c := bc
  have bx : Bd k x := bx
  have h2 : Room 2 _ := hr.mono (by decide)
  have tst : ∀ (n : Mode) {y : PySem.Str}, y = n.str → decide (m.str = y) = decide (m = n) := fun n y hy => by rw [hy, decide_eq_decide]; exact str_inj
  refine xb_ifR (xt_eq (xt_cmpD (f := fun a b => decide (a = b)) op_eq o2_eqS (x_mdS (xv 0)) x_str trivial) (tst .darken rfl)) (fun h => ?_) fun h1 => ?_
  · have h := of_decide_eq_true h
    subst h
    exact xb_ret (ef (xe_eq (x_call (c_lesser T) h2 (g_lesser T) (k_lesser T) (xa (xv 2) (xa (xv 1) xa0)) (.mk' bx bc (by omega))) rfl))
  refine xb_ifR (xt_eq (xt_cmpD (f := fun a b => decide (a = b)) op_eq o2_eqS (x_mdS (xv 0)) x_str trivial) (tst .lighten rfl)) (fun h => ?_) fun h3 => ?_
  · have h := of_decide_eq_true h
    subst h
    exact xb_ret (ef (xe_eq (x_call (c_greater T) h2 (g_greater T) (k_greater T) (xa (xv 2) (xa (xv 1) xa0)) (.mk' bx bc (by omega))) rfl))
  refine xb_ifR (xt_eq (xt_cmpD (f := fun a b => decide (a = b)) op_eq o2_eqS (x_mdS (xv 0)) x_str trivial) (tst .multiply rfl)) (fun h => ?_) fun h4 => ?_
  · have h := of_decide_eq_true h
    subst h
    exact xb_ret (ef (xe_eq (x_mulF T hr (xv 2) (xv 1) (.mk' bx bc (by omega))) rfl))
  refine xb_ifR (xt_eq (xt_cmpD (f := fun a b => decide (a = b)) op_eq o2_eqS (x_mdS (xv 0)) x_str trivial) (tst .screen rfl)) (fun h => ?_) fun h5 => ?_
  · have h := of_decide_eq_true h
    subst h
    exact xb_ret (ef (xe_eq (x_subF T hr (x_addF T hr (xv 2) (xv 1) (.mk' bx bc (by omega))) (x_mulF T hr (xv 2) (xv 1) (.mk' bx bc (by omega))) (.mk' (bd_add bx bc) (bd_mul bx bc) (by omega))) rfl))
  · refine xb_ret (ef (xe_eq (xv 1) ?_))
    have h1 := of_decide_eq_false h1
    have h3 := of_decide_eq_false h3
    have h4 := of_decide_eq_false h4
    have h5 := of_decide_eq_false h5
    cases m <;> first | rfl | contradiction
theorem bd_aim {m : Mode} {c x : Rat} {n k : Nat} (bc : Bd n c) (bx : Bd k x) : Bd (2 * n + 2 * k + 2) (aim m c x) := by
  cases m
  · exact bc.mono (by omega)
  · show Bd _ (if x ≤ c then x else c)
    split
    · exact bx.mono (by omega)
    · exact bc.mono (by omega)
  · show Bd _ (if c ≤ x then x else c)
    split
    · exact bx.mono (by omega)
    · exact bc.mono (by omega)
  · exact (bd_mul bx bc).mono (by omega)
  · exact (bd_sub (bd_add bx bc) (bd_mul bx bc)).mono (by omega)
/-- what a layer over a backdrop needs -/
def PrSe (a : Lay) (x : Rat) : Prop := ∃ k n, Bd k a.tint ∧ Bd k a.cover ∧ Bd n x ∧ 4 * k + 3 * n + 10 ≤ 9000
theorem c_seen_over (T : Tx ex fn K mg) : FnR P w K mg base CX0 7 (aGlo "seen_over" K) (spD (aC (sLy K) (aC (sF K) aN)) (fun a => PrSe a.1 a.2.1) (sF K) (fun a => seen a.1 a.2.1)) := by
  obtain ⟨fd, F⟩ := f_seen_over T
  refine fn_x F sc_seen_over (argC_cons (argC_cons argC_nil)) (fun _ => rfl) (n := 0) (fun _ => rfl) (fun cdv A outer s H E hr ⟨a, x, _⟩ hp => ?_) (fun _ _ _ _ _ _ us hl => match us, hl with | [_, _], _ => rfl)
  obtain ⟨k, n, bt, bc, bx, hkn⟩ := hp
  have bt : Bd k a.tint := bt
  have bc : Bd k a.cover := bc
  have bx : Bd n x := bx
  have h5 : Room 5 _ := hr.mono (by decide)
  have br : Bd (k + 2) (1 - a.cover) := (bd_sub (n := 1) ⟨by decide, by decide⟩ bc).mono (by omega)
  have ba := bd_aim (m := a.mode) bt bx
  exact xb_ret (ef (xe_eq (x_addF T h5 (x_mulF T h5 (x_rest T (xv 0)) (xv 1) (.mk' br bx (by omega))) (x_mulF T h5 (x_cover T (xv 0)) (x_call (c_target T) hr (g_target T) (k_target T) (xa (x_mode T (xv 0)) (xa (x_tint T (xv 0)) (xa (xv 1) xa0))) ⟨k, n, bt, bx, by omega⟩) (.mk' bc ba (by omega))) (.mk' (bd_mul br bx) (bd_mul bc ba) (by omega))) rfl))
end
end PC
set_option Elab.async false
set_option linter.all false
set_option maxRecDepth 100000
set_option maxHeartbeats 4000000
namespace PC
open PySem PySem.Spec
open PyProof.Rows hiding St
open L2 PL TX PM
/-! ### texts of fractions, layers and stacks, and what is read back -/
def spS : PySem.Str := " "
def coS : PySem.Str := ", "
def slS : PySem.Str := "/"
def strL (a : Lay) : PySem.Str := Txt.join spS [a.mode.str, strQ a.tint, strQ a.cover]
def strS (as : List Lay) : PySem.Str := if as = [] then "-" else Txt.join coS (as.map strL)
open TL
theorem tl_txt {i : Int} (h : 0 ≤ i) : tl (txtI i) = numL i.toNat := by
  obtain ⟨n, rfl⟩ := Int.eq_ofNat_of_zero_le h
  rw [Int.toNat_natCast]
  exact tl_num n
theorem tl_empty : tl Str.empty = [] := rfl
theorem strQ_one {q : Rat} (h : q.den = 1) : strQ q = txtI q.num := by
  unfold strQ
  rw [if_pos (by omega)]
theorem strQ_two {q : Rat} (h : q.den ≠ 1) : strQ q = txtI q.num ++ slS ++ txtI (q.den : Int) := by
  unfold strQ
  rw [if_neg (by omega)]
  refine ext_tl ?_
  show tl (((Str.empty ++ txtI q.num) ++ slS) ++ txtI (q.den : Int)) = _
  rw [tl_append, tl_append, tl_append, tl_append, tl_append, tl_empty, List.nil_append]
theorem tl_sl : tl slS = [47] := by decide +kernel
theorem tl_sp : tl spS = [32] := by decide +kernel
theorem tl_co : tl coS = [44, 32] := by decide +kernel
theorem num_nat {q : Rat} (h : 0 ≤ q) : 0 ≤ q.num := Rat.num_nonneg.mpr h
/-- the signs of a fraction -/
theorem signs_Q {q : Rat} (h : 0 ≤ q) {c : Nat} (hc : c ∈ tl (strQ q)) : c = 47 ∨ 48 ≤ c ∧ c ≤ 57 := by
  have hn := num_nat h
  by_cases hd : q.den = 1
  · rw [strQ_one hd, tl_txt hn] at hc
    exact .inr (numL_digits _ c hc)
  · rw [strQ_two hd, tl_append, tl_append, tl_txt hn, tl_txt (by omega), tl_sl] at hc
    simp only [List.mem_append, List.mem_singleton] at hc
    rcases hc with (hc | hc) | hc
    · exact .inr (numL_digits _ c hc)
    · exact .inl hc
    · exact .inr (numL_digits _ c hc)
theorem part_one {q : Rat} (h : 0 ≤ q) (hd : q.den = 1) : Txt.partition (strQ q) slS = (strQ q, Str.empty, Str.empty) :=
  partition_none tl_sl (by rw [strQ_one hd, tl_txt (num_nat h)]; exact numL_free (by decide))
theorem part_two {q : Rat} (h : 0 ≤ q) (hd : q.den ≠ 1) : Txt.partition (strQ q) slS = (txtI q.num, slS, txtI (q.den : Int)) := by
  rw [strQ_two hd]
  exact partition_app tl_sl (by rw [tl_txt (num_nat h)]; exact numL_free (by decide))
theorem len_num {n k : Nat} (h : n < 2 ^ k) (hk : k ≤ 400) : (numL n).length ≤ 121 :=
  numL_len (by decide) (Nat.lt_of_lt_of_le h (Nat.le_trans (Nat.pow_le_pow_right (by decide) hk) (by decide)))
theorem int_txt {n k : Nat} (h : n < 2 ^ k) (hk : k ≤ 400) : PySem.intText? (txtI (n : Int)) = some (n : Int) ∧ (txtI (n : Int)).length ≤ 640 := by
  have hl := len_num h hk
  refine ⟨int_num (by omega), ?_⟩
  rw [len_tl, tl_txt (by omega), Int.toNat_natCast]
  omega
theorem num_head : ∀ (n : Nat), 0 < n → ∀ c, (numL n).head? = some c → c ≠ 48 := by
  intro n
  induction n using Nat.strongRecOn with
  | _ n ih =>
    intro hn c hc
    by_cases h : n < 10
    · rw [numL_lt h] at hc
      cases hc
      omega
    · rw [numL_step (by omega)] at hc
      cases hl : numL (n / 10) with
      | nil => exact absurd hl (numL_ne _)
      | cons d t =>
        rw [hl] at hc
        refine ih (n / 10) (by omega) (by omega) c ?_
        rw [hl]
        exact hc
theorem num_zero : txtI (0 : Int) = "0" := by decide +kernel
theorem cut_mem {z : PySem.Str} {lo hi : Option Int} {c : Nat} (h : c ∈ tl (cutS z lo hi)) : c ∈ tl z := List.mem_of_mem_drop (List.mem_of_mem_take h)
theorem cut_all {z : PySem.Str} : cutS z (some 0) none = z := by
  refine ext_tl ?_
  show ((tl z).drop (HT.sIx z.length 0 (some 0))).take (HT.sIx z.length z.length none - HT.sIx z.length 0 (some 0)) = _
  have e : HT.sIx z.length 0 (some 0) = 0 := by
    have := HT.sIx_nat z.length 0 0
    rw [Nat.zero_min] at this
    exact this
  rw [e, HT.sIx_none, List.drop_zero, Nat.sub_zero, len_tl, List.take_length]
/-- the signs of a layer -/
theorem tl_join3 (x y z : PySem.Str) : tl (Txt.join spS [x, y, z]) = tl x ++ ([32] ++ (tl y ++ ([32] ++ tl z))) := by
  rw [join_eq, tl_join, tl_sp]
  rfl
theorem mode_signs (m : Mode) {c : Nat} (h : c ∈ tl m.str) : 97 ≤ c := by
  have : ∀ m : Mode, (tl m.str).all (fun c => decide (97 ≤ c)) = true := by intro m; cases m <;> decide +kernel
  have h2 := List.all_eq_true.mp (this m) c h
  exact of_decide_eq_true h2
theorem signs_L {a : Lay} (h : 0 ≤ a.tint ∧ 0 ≤ a.cover) {c : Nat} (hc : c ∈ tl (strL a)) : c = 32 ∨ 47 ≤ c := by
  unfold strL at hc
  rw [tl_join3] at hc
  simp only [List.mem_append, List.mem_singleton] at hc
  rcases hc with hc | hc | hc | hc | hc
  · exact .inr (by have := mode_signs _ hc; omega)
  · exact .inl hc
  · exact .inr (by have := signs_Q h.1 hc; omega)
  · exact .inl hc
  · exact .inr (by have := signs_Q h.2 hc; omega)
theorem split_L {a : Lay} (h : 0 ≤ a.tint ∧ 0 ≤ a.cover) : Txt.split (strL a) spS = [a.mode.str, strQ a.tint, strQ a.cover] := by
  refine split_join tl_sp (by decide +kernel) (by simp) fun p hp hm => ?_
  simp only [List.mem_cons, List.not_mem_nil, or_false] at hp
  rcases hp with e | e | e <;> subst e
  · have := mode_signs _ hm; omega
  · have := signs_Q h.1 hm; omega
  · have := signs_Q h.2 hm; omega
theorem split_S {as : List Lay} (h : ∀ a ∈ as, 0 ≤ a.tint ∧ 0 ≤ a.cover) (hne : as ≠ []) : Txt.split (strS as) coS = as.map strL := by
  unfold strS
  rw [if_neg hne]
  refine split_join tl_co (by decide +kernel) (by simpa using hne) fun p hp hm => ?_
  obtain ⟨a, ha, rfl⟩ := List.mem_map.mp hp
  have := signs_L (h a ha) hm
  omega
theorem mode_ne (m : Mode) : ∃ c t, tl m.str = c :: t ∧ 97 ≤ c := by
  cases m <;> exact ⟨_, _, by rfl, by decide⟩
theorem strS_dash {as : List Lay} (hne : as ≠ []) : strS as ≠ "-" := by
  intro e
  unfold strS at e
  rw [if_neg hne] at e
  obtain ⟨a, t, rfl⟩ := List.exists_cons_of_ne_nil hne
  have h1 := congrArg tl e
  rw [join_eq, List.map_cons] at h1
  obtain ⟨c, u, hc, hc2⟩ := mode_ne a.mode
  have hl : ∃ w, tl (strL a) = c :: w := by
    unfold strL
    rw [tl_join3, hc]
    exact ⟨_, rfl⟩
  obtain ⟨w, hw⟩ := hl
  have h3 : ∃ v, tl (Str.join coS (strL a :: t.map strL)) = c :: v := by
    rw [tl_join, List.map_cons, hw]
    cases t.map strL with
    | nil => exact ⟨_, rfl⟩
    | cons d r => exact ⟨_, rfl⟩
  obtain ⟨v, hv⟩ := h3
  rw [hv] at h1
  have : tl (("-" : String) : PySem.Str) = [45] := by decide +kernel
  rw [this] at h1
  injection h1 with h1 _
  omega
theorem len_L {a : Lay} {k : Nat} (h : LayOk k a) (hk : k ≤ 400) : (strL a).length ≤ 8020 := by
  have h1 := len_strQ h.bt (by omega)
  have h2 := len_strQ h.bc (by omega)
  have h3 : (tl a.mode.str).length ≤ 8 := by cases a.mode <;> decide +kernel
  rw [len_tl] at h1 h2 ⊢
  unfold strL
  rw [tl_join3]
  simp only [List.length_append, List.length_cons, List.length_nil]
  omega
theorem len_joinL (s : List Nat) : ∀ (l : List (List Nat)) (n : Nat), (∀ p ∈ l, p.length ≤ n) → (joinL s l).length ≤ l.length * (n + s.length)
  | [], n, _ => Nat.zero_le _
  | [p], n, h => by
    have := h p List.mem_cons_self
    show p.length ≤ 1 * _
    omega
  | p :: q :: r, n, h => by
    have h1 := h p List.mem_cons_self
    have h2 := len_joinL s (q :: r) n fun z hz => h z (List.mem_cons_of_mem _ hz)
    show (p ++ (s ++ joinL s (q :: r))).length ≤ _
    rw [List.length_append, List.length_append, List.length_cons, Nat.succ_mul]
    omega
theorem len_S {as : List Lay} {k : Nat} (h : ∀ a ∈ as, LayOk k a) (hk : k ≤ 400) (hl : as.length ≤ 24) : (strS as).length ≤ 200000 := by
  unfold strS
  split
  · show (1 : Nat) ≤ _
    decide
  · rw [len_tl, join_eq, tl_join]
    refine Nat.le_trans (len_joinL _ _ 8020 fun p hp => ?_) ?_
    · rw [List.map_map] at hp
      obtain ⟨a, ha, rfl⟩ := List.mem_map.mp hp
      have := len_L (h a ha) hk
      rw [len_tl] at this
      exact this
    · rw [tl_co, List.length_map, List.length_map]
      show as.length * 8022 ≤ 200000
      omega
end PC
set_option Elab.async false
set_option linter.all false
set_option maxRecDepth 100000
set_option maxHeartbeats 4000000
namespace PC
open PySem PySem.Spec
open PyProof.Rows hiding St
open L2 PL TX PM
/-- a pool: a state, digits, a count -/
def okPool (as : List Int) : Prop := ∃ a d n : Int, as = [a, d, n] ∧ 0 ≤ a ∧ 0 ≤ d
section
variable {P : Program} {w : World} {K : Fg} {mg : PySem.Str → Option Value} {base : Heap}
theorem co_divmod : CallOp (fun xs H Q => ∃ i j, xs = [.int i, .int j] ∧ CDivP i j ∧ ∀ p, H p = none → Q (.ref p) (upd H p (.tup [.int (i / j), .int (i % j)]))) (aC sInt (aC sInt aN)) (sP K sInt sInt) (fun a => CDivP a.1 a.2.1) (fun a c => c = (a.1 / a.2.1, a.1 % a.2.1)) := fun H xs a Q ⟨v, w, e, h1, v2, w2, e2, h2, h3⟩ hp q => by
  cases h3
  cases h1
  cases h2
  subst e2 e
  refine ⟨a.1, a.2.1, rfl, hp, fun p hn => ?_⟩
  exact q _ _ _ rfl (Same.new hn) ⟨p, _, _, rfl, SqT.of upd_same, rfl, rfl⟩
theorem c_draw (T : Tx ex fn K mg) : FnR P w K mg base CX0 1 (aGlo "_law_draw" K) (spG (aC (sBox okPool) (aC sInt aN)) (fun a => 0 < a.2.1 ∧ a.2.1.natAbs < 2 ^ 9000) sInt (fun a r => 0 ≤ r ∧ r < a.2.1)) := by
  obtain ⟨fd, F⟩ := f__law_draw T
  refine fn_xd (n := 2) (ok := okPool) (pre := fun a : Int × Unit => 0 < a.1 ∧ a.1.natAbs < 2 ^ 9000) (post := fun a r => 0 ≤ r ∧ r < a.1) F sc__law_draw (argC_cons argC_nil) (fun _ => rfl) (fun _ => rfl) (fun H D ws a _ h => h) (fun cdv A outer s H E hr ⟨many, _⟩ hp as hok D => ?_) (fun _ _ _ _ _ _ us hl => match us, hl with | [_, _], _ => rfl)
  obtain ⟨a, d, n, rfl, ha, hd⟩ := hok
  have hp : 0 < many ∧ many.natAbs < 2 ^ 9000 := hp
  obtain ⟨hm, hm2⟩ := hp
  have rd : ∀ {X : Cx} {Γ : List Cell} {as : List Int} {e : Expr} {v : Int}, XE X e (Γ.set 0 (Ce (sL X.K sInt) as)) sInt (· = v) → EF X e Γ (Oi as) sInt (· = v) := fun h => efr h
  refine xd_put 2 (rd (x_opD (f := fun a b => a + b) op_add o2_I0 (x_ixL (a := n) (xv 0) x_int (atI_nat (j := 2) rfl)) x_int trivial)) (by show 2 < 3; decide) ?_
  refine xd_set 2 sc__law_draw.nd (rd (x_ixL (a := a) (xv 0) x_int (atI_nat (j := 0) rfl))) ?_
  refine xd_put 0 (rd (x_opD (f := fun a b => a % b) op_mod o2_I (x_opD (f := fun a b => a + b) op_add o2_I0 (x_opD (f := fun a b => a + b) op_add o2_I0 (x_opD (f := fun a b => a * b) op_mul o2_I (xv 2) (x_opD (f := fun a b => a + b) op_add o2_I0 (x_opD (f := fun a b => a % b) op_mod o2_I (xv 2) x_int (by decide)) x_int trivial) ?_) (x_opD (f := fun a b => a * b) op_mul o2_I x_int (x_ixL (a := n + 1) (xv 0) x_int (atI_nat (j := 2) rfl)) (.inl ⟨by decide, by decide⟩)) trivial) x_int trivial) x_int (by decide))) (by show 0 < 3; decide) ?_
  · have h1 := Int.emod_nonneg a (show (46007 : Int) ≠ 0 by decide)
    have h2 := Int.emod_lt_of_pos a (show (0 : Int) < 46007 by decide)
    refine .inr ⟨?_, ?_⟩
    · show -(2 ^ 64) < a % 46007 + 20011
      omega
    · show a % 46007 + 20011 < 2 ^ 64
      omega
  generalize hs : (a * (a % 46007 + 20011) + 60013 * (n + 1) + 5) % 1000000007 = st
  have hst : 0 ≤ st := by rw [← hs]; exact Int.emod_nonneg _ (by decide)
  have hcd : CDivP d many := ⟨hm, PyProof.noPylong_of_log2 (wide_div (i := d) hm hm2 (by decide) (by decide)).2⟩
  refine xd_if (b := decide (0 < d)) (etr (xt_cmpD (f := fun a b => decide (b < a)) op_gt o2_B0 (x_ixL (a := d) (xv 0) x_int (atI_nat (j := 1) rfl)) x_int trivial)) (fun h => ?_) fun _ => ?_
  · refine xd_unp 1 3 rfl sc__law_draw.nd ?_ (by show 1 < 3; decide) (v := d / many) (u := d % many) ?_
    · exact efr (xe_eq (x_callB call_divmodW (co_divmod (K := K)) (n_divmod T) rfl (xa (x_ixL (a := d) (xv 0) x_int (atI_nat (j := 1) rfl)) (xa (xv 1) xa0)) hcd) rfl)
    · refine xd_ret (ef (xv 3)) ⟨⟨Int.emod_nonneg _ (by omega), Int.emod_lt_of_pos _ hm⟩, st, d / many, n + 1, rfl, hst, Int.ediv_nonneg hd (by omega)⟩
  · refine xd_ret (r := st / 32 % many) (rd (x_opD (f := fun a b => a % b) op_mod o2_I (x_opD (f := fun a b => a / b) op_fdiv o2_I (x_ixL (a := st) (xv 0) x_int (atI_nat (j := 0) rfl)) x_int ⟨by decide, by decide⟩) (xv 1) hm)) ⟨⟨Int.emod_nonneg _ (by omega), Int.emod_lt_of_pos _ hm⟩, st, d, n + 1, rfl, hst, hd⟩
theorem c_pool (T : Tx ex fn K mg) : FnR P w K mg base CX0 1 (aGlo "_law_pool" K) (spG (aC sInt aN) (fun _ => True) (sBox okPool) (fun _ _ => True)) := by
  obtain ⟨fd, F⟩ := f__law_pool T
  refine fnR_newbox (FnR.imp (FnOk.raw (fd := fd) (ps := ["_law_cell_here"]) (sp := fun vs H Q _ => ∃ a : Int × Unit, aC sInt aN H vs a ∧ True ∧ ∀ D as H', okPool as → Same H H' → H' D = none → Q (.ref D) (upd H' D (.lst (as.map V.int)))) ?_ (FunD.bindsN F (fun _ _ _ _ _ _ us hl => match us, hl with | [_], _ => rfl)) .nil) fun vs H Q E h => by rw [List.append_nil]; exact h)
  refine FunD.ok F sc__law_pool (fun vs H Q E ⟨a, ha, _⟩ => (argC_cons (s := sInt) argC_nil).len ha) fun cdv A outer s H vs Q E hr ⟨⟨c, _⟩, ha, _, q⟩ => ?_
  have E0 := env_start (N := N__law_pool) (n := 1) (argC_cons (s := sInt) argC_nil) ha rfl
  have key : ∀ d : Int, 0 ≤ d → PSs (cxOf CX0 P w K mg base N__law_pool d__law_pool.qual (defScope s__law_pool) (aGlo "_law_pool" K) cdv A outer s H E).nox [(defBody s__law_pool).getD 2 (.Pass ⟨0, 0, 0, 0⟩)] (fun D σ H' => Env H' σ [Ce sInt c, Ce sInt d] ∧ ∀ D' as H'', okPool as → Same H' H'' → H'' D' = none → D.rt (.ref D') (upd H'' D' (.lst (as.map V.int)))) := fun d hd => by
    refine weakB (pss_one (ps_ret (pe_lst (xs (Γ := [Ce sInt c, Ce sInt d]) (x_opD (f := fun a b => a % b) op_mod o2_I (xv 0) x_int (by decide)) (xs (xv 1) (xs x_int xs_nil)))))) fun D σ H' ⟨E1, k⟩ => ⟨E1, fun as vs H2 pa sm sv => ?_⟩
    subst pa
    have := Paired.int sv
    subst this
    exact ⟨by show 3 ≤ sizeLine; decide, fun p hp => k p _ H2 ⟨c % 1000000007, d, 0, rfl, Int.emod_nonneg _ (by decide), hd⟩ sm hp⟩
  refine ⟨_, (pss_cons (ps_set (i := 1) sc__law_pool.nd rfl (Or.inl rfl) pe_int) (pss_cons (ps_if (xw_pt (xw_or (Γ := [Ce sInt c, Ce sInt 0]) (xt_cmpD (f := fun a b => decide (a < b)) op_lt o2_B0 (xv 0) x_int trivial) fun _ => xw_or1 (xt_cmpD (f := fun a b => decide (b ≤ a)) op_ge o2_B0 (xv 0) (x_opD (f := fun i j : Int => i ^ j.toNat) op_pow o2_I x_int x_int ⟨by decide, by decide, by decide⟩) trivial))) (pss_one (ps_set (i := 1) sc__law_pool.nd rfl (Or.inl rfl) (x_callB (Γ := [Ce sInt c, Ce sInt 0]) call_abs co_abs (n_abs T) rfl (xa (xv 0) xa0) trivial))) pss_nil) (exB (ι := { d : Int // 0 ≤ d }) fun d => key d.1 d.2))).nox, ?_⟩
  have E1 : Env H ((L2.start N__law_pool vs).set 1 (some (.int 0))) [Ce sInt c, Ce sInt 0] := E0.set (i := 1) (s := sInt) (m := inferInstance) (a := 0) rfl
  refine ⟨E1, fun b H1 pb sm => ?_⟩
  cases b with
  | true => exact ⟨E1.up sm, fun v w' H2 pv sm2 sv => ⟨⟨(c.natAbs : Int), by omega⟩, by
      subst pv
      exact (E1.up (sm.trans sm2)).set (i := 1) (s := sInt) sv, fun D' as H'' hok sm3 hn => q D' as H'' hok ((sm.trans sm2).trans sm3) hn⟩⟩
  | false => exact ⟨⟨0, by decide⟩, E1.up sm, fun D' as H'' hok sm3 hn => q D' as H'' hok (sm.trans sm3) hn⟩
end
end PC
set_option Elab.async false
set_option linter.all false
set_option maxRecDepth 100000
set_option maxHeartbeats 4000000
namespace PC
open PySem PySem.Spec
open PyProof.Rows hiding St
open L2 PL TX PM
/-! fractions as pairs of whole numbers -/
def sQ (K : Fg) : Sh Rat := fun H v q => sP K sInt sInt H v (q.num, (q.den : Int))
instance {K : Fg} : Mo (sQ K) := ⟨fun e h => Mo.up (s := sP K sInt sInt) e h⟩
instance {K : Fg} : Lf (sQ K) := ⟨fun e h => Lf.lf (s := sP K sInt sInt) e h⟩
/-- .. of any pair of numbers -/
def sG (K : Fg) : Sh Rat := fun H v q => ∃ ab : Int × Int, sP K sInt sInt H v ab ∧ 0 < ab.2 ∧ ab.2.natAbs < 2 ^ 9000 ∧ q = Rat.divInt ab.1 ab.2
instance {K : Fg} : Mo (sG K) := ⟨fun e ⟨ab, h, k⟩ => ⟨ab, Mo.up e h, k⟩⟩
instance {K : Fg} : Lf (sG K) := ⟨fun e ⟨ab, h, k⟩ => ⟨ab, Lf.lf e h, k⟩⟩
theorem sG_of {K : Fg} {H : Hp} {v : V} {q : Rat} (hb : q.den < 2 ^ 9000) (h : sQ K H v q) : sG K H v q := ⟨_, h, PM.den_pos q, hb, (Rat.num_divInt_den q).symm⟩
section
variable {X : Cx} {Γ : List Cell} {e : Expr} {pos p2 : Pos} {q : Rat} {j : Nat}
theorem x_toQ {ab : Int × Int} (h : XE X e Γ (sP X.K sInt sInt) (· = ab)) (hq : ab = (q.num, (q.den : Int))) : XE X e Γ (sQ X.K) (· = q) := xe_sh h fun a ha => ⟨q, rfl, fun H v hv => by
  subst ha
  rw [hq] at hv
  exact hv⟩
theorem x_ofQ (h : XE X e Γ (sQ X.K) (· = q)) : XE X e Γ (sP X.K sInt sInt) (· = (q.num, (q.den : Int))) := xe_sh h fun a ha => ⟨_, rfl, fun H v hv => by
  subst ha
  exact hv⟩
end
section
variable {P : Program} {w : World} {K : Fg} {mg : PySem.Str → Option Value} {base : Heap}
theorem c_low (T : Tx ex fn K mg) : FnR P w K mg base CX0 1 (aGlo "_law_low" K) (spD (aC sInt (aC sInt aN)) (fun a => 0 < a.2.1 ∧ a.2.1.natAbs < 2 ^ 9000) (sQ K) (fun a => Rat.divInt a.1 a.2.1)) := by
  obtain ⟨fd, F⟩ := f__law_low T
  refine fn_x F sc__law_low (argC_cons (argC_cons argC_nil)) (fun _ => rfl) (n := 3) (fun _ => rfl) (fun cdv A outer s H E hr ⟨u, b, _⟩ hp => ?_) (fun _ _ _ _ _ _ us hl => match us, hl with | [_, _], _ => rfl)
  obtain ⟨hb, hb2⟩ := hp
  have hb : 0 < b := hb
  have hb2 : b.natAbs < 2 ^ 9000 := hb2
  refine xb_par2 2 3 rfl sc__law_low.nd (x_callB call_abs co_abs (n_abs T) rfl (xa (xv 0) xa0) trivial) (x_callB call_abs co_abs (n_abs T) rfl (xa (xv 1) xa0) trivial) ?_
  refine xb_while (I := fun m Γ o => o = .no ∧ ∃ x y : Int, Γ = [Ce sInt u, Ce sInt b, Ce sInt x, Ce sInt y, .no] ∧ 0 ≤ x ∧ 0 ≤ y ∧ Int.gcd x y = Int.gcd u b ∧ m = y.natAbs) (N := fun Γ o => o = .no ∧ ∃ x : Int, Γ = [Ce sInt u, Ce sInt b, Ce sInt x, Ce sInt 0, .no] ∧ 0 ≤ x ∧ Int.gcd x 0 = Int.gcd u b)
    (Pc := fun Γ o c => ∃ x y : Int, Γ = [Ce sInt u, Ce sInt b, Ce sInt x, Ce sInt y, .no] ∧ c = decide (0 < y)) PassesOwn.never b.natAbs ⟨rfl, (u.natAbs : Int), (b.natAbs : Int), rfl, by omega, by omega, rfl, rfl⟩ ?_ ?_ ?_ ?_
  · rintro m Γ o ⟨rfl, x, y, rfl, hx, hy, hg, rfl⟩
    refine et (xt_imp (xt_cmpD op_gt o2_B0 (xv 3) x_int trivial) fun c hc => ⟨x, y, rfl, hc⟩)
  · rintro m Γ o ⟨rfl, x, y, rfl, hx, hy, hg, rfl⟩ ⟨x', y', he, hc⟩
    cases he
    have hpos : 0 < y := of_decide_eq_true hc.symm
    refine xb_par2 2 3 rfl sc__law_low.nd (xv 3) (x_opD op_mod o2_I (xv 2) (xv 3) hpos) (xb_nil ?_)
    refine ⟨(x % y).natAbs, ?_, rfl, y, x % y, rfl, hy, Int.emod_nonneg _ (by omega), ?_, rfl⟩
    · have := Int.emod_lt_of_pos x hpos
      have := Int.emod_nonneg x (show y ≠ 0 by omega)
      omega
    · rw [← hg, gcd_emod, Int.gcd_comm y]
  · rintro m Γ o ⟨rfl, x, y, rfl, hx, hy, hg, rfl⟩ ⟨x', y', he, hc⟩
    cases he
    have h0 : y = 0 := by
      have : ¬ 0 < y := of_decide_eq_false hc.symm
      omega
    subst h0
    exact ⟨rfl, x, rfl, hx, hg⟩
  · rintro Γ o ⟨rfl, x, rfl, hx, hg⟩
    have e1 : Int.gcd x 0 = x.natAbs := by simp
    have hgc : x = (Int.gcd b u : Int) := by
      rw [Int.gcd_comm b u, ← hg, e1]
      omega
    have hpos : 0 < Int.gcd b u := Int.gcd_pos_of_ne_zero_left _ (by omega)
    have hle : Int.gcd b u ≤ b.natAbs := Nat.le_of_dvd (by omega) (Int.gcd_dvd_natAbs_left b u)
    have hmax : max 1 x = x := by omega
    have hdiv : ∀ i, CDivW i x := fun i => by
      rw [hgc]
      exact wide_div (b := 9000) (by omega) (Nat.lt_of_le_of_lt hle hb2) (by decide) (by decide)
    refine xb_setP (s := sInt) (P := (· = 1)) 4 sc__law_low.nd (ef (x_ifE (Pc := (· = false)) (xt_eq (xt_cmpD (f := fun a b => decide (a < b)) op_lt o2_B0 (xv 1) x_int trivial) (decide_eq_false (by omega))) (fun h => by cases h) fun _ => x_int)) fun z hz => ?_
    subst hz
    refine xb_ret (ef (x_toQ (q := Rat.divInt u b) (x_tup2D (x_opD (f := fun a b => a / b) (b := x) op_fdivW o2_I (x_opD (f := fun a b => a * b) op_mul o2_I (xv 4) (xv 0) (.inl ⟨by decide, by decide⟩)) (xe_eq (x_callB (call_max2 rfl) co_max2 (n_max T) rfl (xa x_int (xa (xv 2) xa0)) trivial) hmax) (hdiv _)) (x_opD (f := fun a b => a / b) (b := x) op_fdivW o2_I (x_callB call_abs co_abs (n_abs T) rfl (xa (xv 1) xa0) trivial) (xe_eq (x_callB (call_max2 rfl) co_max2 (n_max T) rfl (xa x_int (xa (xv 2) xa0)) trivial) hmax) (hdiv _))) ?_))
    show (1 * u / x, (b.natAbs : Int) / x) = ((Rat.divInt u b).num, ((Rat.divInt u b).den : Int))
    rw [Rat.num_divInt, Rat.den_divInt, if_neg (by omega), Int.sign_eq_one_of_pos hb, Int.one_mul, hgc, Int.natCast_ediv]
theorem c_fracP (T : Tx ex fn K mg) : FnR P w K mg base CX0 5 (aGlo "_law_frac" K) (spD (aC (sP K sInt sInt) aN) (fun a => 0 < a.1.2 ∧ a.1.2.natAbs < 2 ^ 9000) (sF K) (fun a => Rat.divInt a.1.1 a.1.2)) := by
  obtain ⟨fd, F⟩ := f__law_frac T
  refine fn_x F sc__law_frac (argC_cons argC_nil) (fun _ => rfl) (n := 0) (fun _ => rfl) (fun cdv A outer s H E hr ⟨x, _⟩ hp => ?_) (fun _ _ _ _ _ _ us hl => match us, hl with | [_], _ => rfl)
  exact xb_ret (ef (xe_eq (x_F2 T hr (x_p0 (xv 0)) (x_p1 (xv 0)) hp.1 hp.2) rfl))
theorem c_fracG (T : Tx ex fn K mg) : FnR P w K mg base CX0 5 (aGlo "_law_frac" K) (spD (aC (sG K) aN) (fun _ => True) (sF K) (fun a => a.1)) :=
  FnR.imp (c_fracP T) fun vs H Q E ⟨a, ⟨v, w, e, ⟨ab, h1, h2, h3, h4⟩, h5⟩, _, k⟩ => ⟨(ab, ()), ⟨v, w, e, h1, h5⟩, ⟨h2, h3⟩, fun r v H' pr => k r v H' (pr.trans h4.symm)⟩
theorem c_frac (T : Tx ex fn K mg) : FnR P w K mg base CX0 5 (aGlo "_law_frac" K) (spD (aC (sQ K) aN) (fun a => Bd 9000 a.1) (sF K) (fun a => a.1)) :=
  FnR.imp (c_fracG T) fun vs H Q E ⟨a, ⟨v, w, e, h1, h5⟩, hb, k⟩ => ⟨a, ⟨v, w, e, sG_of hb.2 h1, h5⟩, trivial, k⟩
/-- what a drawn gray value is -/
def Gray (n : Nat) (q : Rat) : Prop := isVal q = true ∧ Bd n q
theorem gray_of {i j : Int} {n : Nat} (h0 : 0 ≤ i) (h1 : i ≤ j) (hj : 0 < j) (hn : j.natAbs < 2 ^ n) : Gray n (Rat.divInt i j) := by
  refine ⟨?_, bd_divInt hj (by omega) hn⟩
  unfold isVal
  rw [decide_eq_true_eq]
  have hjq : (0 : Rat) < (j : Rat) := Rat.intCast_pos.mpr hj
  have hij : (i : Rat) ≤ (j : Rat) := Rat.intCast_le_intCast.mpr h1
  refine ⟨Rat.divInt_nonneg h0 (Int.le_of_lt hj), ?_⟩
  rw [Rat.divInt_eq_div]
  have e : (i : Rat) / (j : Rat) * (j : Rat) = (i : Rat) := Rat.div_mul_cancel (by grind)
  exact Rat.le_of_mul_le_mul_right (by rw [e, Rat.one_mul]; exact hij) hjq
theorem c_gray (T : Tx ex fn K mg) : FnR P w K mg base CX0 2 (aGlo "_law_gray" K) (spG (aC (sBox okPool) aN) (fun _ => True) (sQ K) (fun _ r => Gray 41 r)) := by
  obtain ⟨fd, F⟩ := f__law_gray T
  refine fn_x F sc__law_gray (argC_cons argC_nil) (fun _ => rfl) (n := 1) (fun _ => rfl) (fun cdv A outer s H E hr ⟨_, _⟩ hp => ?_) (fun _ _ _ _ _ _ us hl => match us, hl with | [_], _ => rfl)
  have dr : ∀ (m : Int) (k : Nat), 0 < m → m < 2 ^ 60 → 0 < m ∧ m.natAbs < 2 ^ 9000 := fun m k h1 h2 => ⟨h1, Nat.lt_of_lt_of_le (show m.natAbs < 2 ^ 60 by omega) (Nat.pow_le_pow_right (by decide) (by decide))⟩
  refine xb_setP (s := sInt) (P := fun b => 1 ≤ b ∧ b ≤ 10 ^ 12) 1 sc__law_gray.nd (ef (x_ixLG (x_lstG (xs_consG (x_op op_add o2_I0 x_int (x_callP (c_draw T) hr (g__law_draw T) (k__law_draw T) (xa (xv 0) (xa x_int xa0)) (dr 4 0 (by decide) (by decide))) (fun _ _ _ _ => trivial)) (xs_consG (x_op op_add o2_I0 x_int (x_callP (c_draw T) hr (g__law_draw T) (k__law_draw T) (xa (xv 0) (xa x_int xa0)) (dr 12 0 (by decide) (by decide))) (fun _ _ _ _ => trivial)) (xs_consG (x_op op_add o2_I0 x_int (x_callP (c_draw T) hr (g__law_draw T) (k__law_draw T) (xa (xv 0) (xa (xe_eq (a' := 10 ^ 12) (x_opD (f := fun i j : Int => i ^ j.toNat) op_pow o2_I x_int x_int ⟨by decide, by decide, by decide⟩) rfl) xa0)) (dr (10 ^ 12) 0 (by decide) (by decide))) (fun _ _ _ _ => trivial)) xs_nil))) ?_) (x_callP (c_draw T) hr (g__law_draw T) (k__law_draw T) (xa (xv 0) (xa x_int xa0)) (dr 3 0 (by decide) (by decide))) ?_)) fun b hb => ?_
  · rintro as ⟨b1, bs, rfl, _, b2, bs2, rfl, _, b3, bs3, rfl, _, rfl⟩
    show 3 ≤ sizeLine
    decide
  · rintro as i ⟨b1, bs, rfl, ⟨u1, v1, e1, p1, q1⟩, b2, bs2, rfl, ⟨u2, v2, e2, p2, q2⟩, b3, bs3, rfl, ⟨u3, v3, e3, p3, q3⟩, rfl⟩ ⟨h0, h3⟩
    have h0 : 0 ≤ i := h0
    have h3 : i < 3 := h3
    have p1 : 0 ≤ v1 ∧ v1 < 4 := p1
    have p2 : 0 ≤ v2 ∧ v2 < 12 := p2
    have p3 : 0 ≤ v3 ∧ v3 < 10 ^ 12 := p3
    have q1 : b1 = u1 + v1 := q1
    have q2 : b2 = u2 + v2 := q2
    have q3 : b3 = u3 + v3 := q3
    subst e1 e2 e3
    have hi : i = 0 ∨ i = 1 ∨ i = 2 := by omega
    rcases hi with z | z | z <;> subst z
    · exact ⟨_, rfl, by omega, by omega⟩
    · exact ⟨_, rfl, by omega, by omega⟩
    · exact ⟨_, rfl, by omega, by omega⟩
  · obtain ⟨hb1, hb2⟩ := hb
    refine xb_ret (ef (xe_imp (x_callG (c_low T) (hr.mono (by decide)) (g__law_low T) (k__law_low T) (xa_consG (x_callP (c_draw T) hr (g__law_draw T) (k__law_draw T) (xa (xv 0) (xa (x_opD (f := fun a b => a + b) op_add o2_I0 (xv 1) x_int trivial) xa0)) (dr (b + 1) 0 (by omega) (by omega))) (xa (xv 1) xa0)) fun a ha => ?_) fun r h => ?_))
    · obtain ⟨h1, h2⟩ := ha
      rw [h2]
      exact dr b 0 (by omega) (by omega)
    · obtain ⟨a, ⟨h1, h2⟩, h3⟩ := h
      have h1 : 0 ≤ a.1 ∧ a.1 < b + 1 := h1
      have h3 : r = Rat.divInt a.1 a.2.1 := h3
      rw [h2] at h3
      rw [h3]
      exact gray_of h1.1 (by show a.1 ≤ b; omega) (show 0 < b by omega) (by show b.natAbs < 2 ^ 41; omega)
end
end PC
set_option Elab.async false
set_option linter.all false
set_option maxRecDepth 100000
set_option maxHeartbeats 4000000
namespace PC
open PySem PySem.Spec
open PyProof.Rows hiding St
open L2 PL TX PM
/-! fractions as pairs of whole numbers -/
section
variable {P : Program} {w : World} {K : Fg} {mg : PySem.Str → Option Value} {base : Heap}
end
end PC
set_option Elab.async false
set_option linter.all false
set_option maxRecDepth 100000
set_option maxHeartbeats 4000000
namespace PC
open PySem PySem.Spec
open PyProof.Rows hiding St
open L2 PL TX PM
/-! ### the law's own fractions: sums, products, the less one -/
section
variable {X : Cx}
end
def PrQ (a : Rat × Rat × Unit) : Prop := Bd 4000 a.1 ∧ Bd 4000 a.2.1
section
variable {P : Program} {w : World} {K : Fg} {mg : PySem.Str → Option Value} {base : Heap}
end
end PC
set_option Elab.async false
set_option linter.all false
set_option maxRecDepth 100000
set_option maxHeartbeats 4000000
namespace PC
open PySem PySem.Spec
open PyProof.Rows hiding St
open L2 PL TX PM
/-! ### making layers -/
section
variable {X : Cx} {Γ : List Cell} {e : Expr} {a : Lay} {α : Type} {s : Sh α} {x : α}
theorem x_someL (h : XE X e Γ (sLy X.K) (· = a)) : XE X e Γ (sOpt (sLy X.K)) (· = some a) := xe_sh h fun b hb => ⟨some a, rfl, fun H v hv => by
  rw [hb] at hv
  obtain ⟨p, dx, y1, y2, y3, e1, _⟩ := id hv
  exact ⟨(by rw [e1]; intro z; cases z), hv⟩⟩
end
theorem ins_LM {K : Fg} {m : Mode} {g : PySem.Str} (h1 : (g == ("tint" : PySem.Str)) = false) (h2 : (g == ("cover" : PySem.Str)) = false) (h3 : (g == ("rest" : PySem.Str)) = false) : ∀ (H : Hp) (v : V) (a : Rat × Rat), sLm K m H v a → ∃ p dx fs, v = .ref p ∧ H p = some (.ins (m.cls K) dx fs) ∧ fs.lookup g = none := fun H v a ⟨p, dx, x, y, z, e, q, _⟩ => ⟨p, dx, _, e, q, by
  rw [List.lookup_cons, h1, List.lookup_cons, h2, List.lookup_cons, h3]
  rfl⟩
/-- the Normal layer that looks the same -/
def plainOf (a : Lay) : Option Lay := match a.mode with
  | .normal => some a
  | .darken => if a.tint.num = 0 then some ⟨.normal, a.tint, a.cover⟩ else none
  | .lighten => if a.tint = 1 then some ⟨.normal, a.tint, a.cover⟩ else none
  | .multiply => if 0 < (a.cover * (1 - a.tint)).num then some ⟨.normal, 0, a.cover * (1 - a.tint)⟩ else none
  | .screen => if 0 < (a.cover * a.tint).num then some ⟨.normal, 1, a.cover * a.tint⟩ else none
section
variable {P : Program} {w : World} {K : Fg} {mg : PySem.Str → Option Value} {base : Heap}
def PrLy (m : Mode) (a : Rat × Rat × Unit) : Prop := ∃ k, LayOk k ⟨m, a.1, a.2.1⟩ ∧ k + 10 ≤ 9000
theorem cov_num {c : Rat} (h : 0 < c ∧ c < 1) : c.num ≠ 0 ∧ c.num ≠ (c.den : Int) := by
  have cn0 : 0 < c.num := by have := (Rat.lt_iff 0 c).mp h.1; simpa using this
  have cn1 : c.num < (c.den : Int) := by have := (Rat.lt_iff c 1).mp h.2; simpa using this
  omega
theorem c_Layer_init (T : Tx ex fn K mg) (m : Mode) : FnR P w K mg base CX0 6 (aMet "Layer" "__init__" K) (spI (m.cls K) (aC (sF K) (aC (sF K) aN)) (PrLy m) (sLy K) (fun a r => r = ⟨m, a.1, a.2.1⟩)) := by
  obtain ⟨fd, F⟩ := f_Layer___init__ T
  refine fn_initN (n := 0) (Fin := fun a Φ => Φ = [(("tint" : PySem.Str), Ce (sF K) a.1), (("cover" : PySem.Str), Ce (sF K) a.2.1), (("rest" : PySem.Str), Ce (sF K) (1 - a.2.1))]) F sc_Layer___init__ (argC_cons (argC_cons argC_nil)) (fun _ => rfl) (fun _ => rfl) (fun cdv A outer s H E hr ⟨t, c, _⟩ hp x dx => ?_) (fun a H x dx fs Φ hf hx ho => ?_) (fun _ _ _ _ _ _ us hl => match us, hl with | [_, _, _], _ => rfl)
  · obtain ⟨k, L, hk⟩ := hp
    have ht : 0 ≤ t ∧ t ≤ 1 := L.tint
    have hc : 0 < c ∧ c < 1 := L.cover
    have bc : Bd k c := L.bc
    have h1 : Room 1 _ := hr.mono (by decide)
    have h2 : Room 2 _ := hr.mono (by decide)
    have h4 : Room 4 _ := hr.mono (by decide)
    refine xn_skip (xt_eq (xt_not (xt_val (x_smeth (pl := _) (c_Frac T).rd (p_Frac_is_value T) (c_F_is_value T) h1 (g_Frac T) (xa (xv 1) xa0) trivial))) ?_) ?_
    · show (!isVal t) = false
      rw [show isVal t = true from decide_eq_true ht]
      rfl
    refine xn_skip (xt_eq (xw_pt (xw_or (pp := false) (q := false) (xt_eq (xt_not (xt_val (x_smeth (pl := _) (c_Frac T).rd (p_Frac_is_value T) (c_F_is_value T) h1 (g_Frac T) (xa (xv 2) xa0) trivial))) ?_) fun _ => xw_eq (xw_or (pp := false) (q := false) (xt_eq (xt_cmpD (f := fun a b => decide (a = b)) op_eq o2_eqI (x_top T h2 (xv 2)) x_int trivial) ?_) fun _ => xw_or1 (xt_eq (xt_cmpD (f := fun a b => decide (a = b)) op_eq o2_eqI (x_top T h2 (xv 2)) (x_bot T h2 (xv 2)) trivial) ?_)) rfl)) rfl) ?_
    · show (!isVal c) = false
      rw [show isVal c = true from decide_eq_true ⟨Rat.le_of_lt hc.1, Rat.le_of_lt hc.2⟩]
      rfl
    · exact decide_eq_false (cov_num hc).1
    · exact decide_eq_false (cov_num hc).2
    refine xn_set (xv 1) (ncs_F (neqF T m)) (fun u hu => ?_) (clL T m).cl (naTint T m)
    subst hu
    refine xn_set (xv 2) (ncs_F (neqF T m)) (fun c' hu => ?_) (clL T m).cl (naCover T m) (hl := by show 1 < 1000; decide)
    subst hu
    refine xn_set (P := (· = 1 - c')) (xe_eq (x_subF T hr (x_F1 T h4 x_int) (xv 2) (.mk' (n := 1) ⟨by decide, by decide⟩ bc (by omega))) rfl) (ncs_F (neqF T m)) (fun u hu => ?_) (clL T m).cl (naRest T m) (hl := by show 2 < 1000; decide)
    subst hu
    exact xn_nil rfl
  · subst hf
    refine ⟨_, rfl, x, dx, ?_⟩
    cases ho with
    | cons h1 t =>
      cases t with
      | cons h2 t =>
        cases t with
        | cons h3 t =>
          cases t
          obtain ⟨v1, e1, q1⟩ := h1
          obtain ⟨v2, e2, q2⟩ := h2
          obtain ⟨v3, e3, q3⟩ := h3
          cases e1
          cases e2
          cases e3
          exact ⟨_, _, _, rfl, hx, q1, q2, q3⟩
end
end PC
namespace PC
open PySem PySem.Spec
open PyProof.Rows hiding St
open L2 PL TX PM
section
variable {X : Cx} {Γ : List Cell} {e1 e2 : Expr} {p pos : Pos} {t c : Rat} (T : Tx ex fn X.K X.mg)
include T
/-- Normal(color, opacity) and the like -/
theorem x_lay (m : Mode) {x : PySem.Str} (hx : X.mg x = some (.ref (m.cls X.K))) (hr : Room 7 X.A) (h : XE X e1 Γ (sF X.K) (· = t)) (h2 : XE X e2 Γ (sF X.K) (· = c)) (hp : ∃ k, LayOk k ⟨m, t, c⟩ ∧ k + 10 ≤ 9000) (hg : Gl X x := by rfl) (hst : starEach [e1, e2] X.env = (false, eval e1 X.env) :: starEach [e2] X.env := by rfl) (hst2 : starEach [e2] X.env = (false, eval e2 X.env) :: starEach [] X.env := by rfl)
    (hpl : (backTo pos (starEach [e2] X.env)).any (·.1) = false := by rfl) (hd : (x == ("__debug__" : PySem.Str)) = false := by decide) : XE X (.Call (.Name x p) [e1, e2] [] pos) Γ (sLy X.K) (· = ⟨m, t, c⟩) :=
  xe_eq (x_make (mkL T m) (c_Layer_init T m) hr hx (xa h (xa h2 xa0 hst2) hst) hp hg hd hst hpl) rfl
end
end PC
set_option Elab.async false
set_option linter.all false
set_option maxRecDepth 100000
set_option maxHeartbeats 4000000
namespace PC
open PM
/-! ### what a layer does: plain laws -/
structure Lk (a : Lay) : Prop where
  tint : 0 ≤ a.tint ∧ a.tint ≤ 1
  cover : 0 < a.cover ∧ a.cover < 1
theorem LayOk.lk {k : Nat} {a : Lay} (h : LayOk k a) : Lk a := ⟨h.tint, h.cover⟩
def Mode.bends : Mode → Bool
  | .darken => true
  | .lighten => true
  | _ => false
theorem aim_mono {m : Mode} {c x y : Rat} (hc : 0 ≤ c ∧ c ≤ 1) (h : x ≤ y) : aim m c x ≤ aim m c y := by
  cases m
  · exact Rat.le_refl
  · show (if x ≤ c then x else c) ≤ (if y ≤ c then y else c)
    split <;> split <;> grind
  · show (if c ≤ x then x else c) ≤ (if c ≤ y then y else c)
    split <;> split <;> grind
  · exact Rat.mul_le_mul_of_nonneg_right h hc.1
  · show x + c - x * c ≤ y + c - y * c
    have := Rat.mul_nonneg (show 0 ≤ y - x by grind) (show 0 ≤ 1 - c by grind)
    grind
theorem aim_in {m : Mode} {c x : Rat} (hc : 0 ≤ c ∧ c ≤ 1) (hx : 0 ≤ x ∧ x ≤ 1) : 0 ≤ aim m c x ∧ aim m c x ≤ 1 := by
  have h1 := Rat.mul_nonneg hx.1 hc.1
  have h2 := Rat.mul_nonneg hx.1 (show 0 ≤ 1 - c by grind)
  have h3 := Rat.mul_nonneg (show 0 ≤ 1 - x by grind) hc.1
  have h4 := Rat.mul_nonneg (show 0 ≤ 1 - x by grind) (show 0 ≤ 1 - c by grind)
  cases m
  · exact hc
  · show 0 ≤ (if x ≤ c then x else c) ∧ (if x ≤ c then x else c) ≤ 1
    split <;> grind
  · show 0 ≤ (if c ≤ x then x else c) ∧ (if c ≤ x then x else c) ≤ 1
    split <;> grind
  · show 0 ≤ x * c ∧ x * c ≤ 1
    constructor <;> grind
  · show 0 ≤ x + c - x * c ∧ x + c - x * c ≤ 1
    constructor <;> grind
theorem seen_lt {a : Lay} (h : Lk a) {x y : Rat} (hxy : x < y) : seen a x < seen a y := by
  have h1 := aim_mono (m := a.mode) h.tint (Rat.le_of_lt hxy)
  have h2 := Rat.mul_le_mul_of_nonneg_left h1 (Rat.le_of_lt h.cover.1)
  have h3 := Rat.mul_lt_mul_of_pos_left hxy (show 0 < 1 - a.cover by have := h.cover.2; grind)
  show (1 - a.cover) * x + a.cover * aim a.mode a.tint x < (1 - a.cover) * y + a.cover * aim a.mode a.tint y
  grind
theorem seen_in {a : Lay} (h : Lk a) {x : Rat} (hx : 0 ≤ x ∧ x ≤ 1) : 0 ≤ seen a x ∧ seen a x ≤ 1 := by
  have h1 := aim_in (m := a.mode) h.tint hx
  have c := h.cover
  have g1 := Rat.mul_nonneg (show 0 ≤ 1 - a.cover by grind) hx.1
  have g2 := Rat.mul_nonneg (Rat.le_of_lt c.1) h1.1
  have g3 := Rat.mul_nonneg (show 0 ≤ 1 - a.cover by grind) (show 0 ≤ 1 - x by grind)
  have g4 := Rat.mul_nonneg (Rat.le_of_lt c.1) (show 0 ≤ 1 - aim a.mode a.tint x by grind)
  show 0 ≤ (1 - a.cover) * x + a.cover * aim a.mode a.tint x ∧ (1 - a.cover) * x + a.cover * aim a.mode a.tint x ≤ 1
  constructor <;> grind
/-- straight, but at the color of a bending layer -/
theorem seen_aff {a : Lay} {u v : Rat} (h : a.mode.bends = true → ¬ (u < a.tint ∧ a.tint < v)) : Aff (seen a) u v := by
  obtain ⟨m, t, c⟩ := a
  cases m
  · exact ⟨1 - c, c * t, fun x _ _ => rfl⟩
  · by_cases z : t ≤ u
    · refine ⟨1 - c, c * t, fun x h1 h2 => ?_⟩
      show (1 - c) * x + c * (if x ≤ t then x else t) = _
      split
      · have : x = t := by grind
        rw [this]
      · rfl
    · refine ⟨1, 0, fun x h1 h2 => ?_⟩
      have : v ≤ t := Rat.not_lt.mp fun q => h rfl ⟨Rat.not_le.mp z, q⟩
      show (1 - c) * x + c * (if x ≤ t then x else t) = _
      rw [if_pos (Rat.le_trans h2 this)]
      grind
  · by_cases z : t ≤ u
    · refine ⟨1, 0, fun x h1 h2 => ?_⟩
      show (1 - c) * x + c * (if t ≤ x then x else t) = _
      rw [if_pos (Rat.le_trans z h1)]
      grind
    · refine ⟨1 - c, c * t, fun x h1 h2 => ?_⟩
      have : v ≤ t := Rat.not_lt.mp fun q => h rfl ⟨Rat.not_le.mp z, q⟩
      show (1 - c) * x + c * (if t ≤ x then x else t) = _
      split
      · have : x = t := by grind
        rw [this]
      · rfl
  · exact ⟨1 - c + c * t, 0, fun x _ _ => by show (1 - c) * x + c * (x * t) = _; grind⟩
  · exact ⟨1 - c + c * (1 - t), c * t, fun x _ _ => by show (1 - c) * x + c * (x + t - x * t) = _; grind⟩
/-! ### through layers -/
def thru (as : List Lay) (x : Rat) : Rat := as.foldl (fun x a => seen a x) x
theorem thru_snoc (as : List Lay) (a : Lay) (x : Rat) : thru (as ++ [a]) x = seen a (thru as x) := by
  unfold thru
  rw [List.foldl_append]
  rfl
theorem thru_in {as : List Lay} (h : ∀ a ∈ as, Lk a) : ∀ {x : Rat}, 0 ≤ x ∧ x ≤ 1 → 0 ≤ thru as x ∧ thru as x ≤ 1 := by
  induction as with
  | nil => exact fun h => h
  | cons a t ih => exact fun hx => ih (fun b hb => h b (List.mem_cons_of_mem _ hb)) (seen_in (h a List.mem_cons_self) hx)
theorem thru_lt {as : List Lay} (h : ∀ a ∈ as, Lk a) : ∀ {x y : Rat}, x < y → thru as x < thru as y := by
  induction as with
  | nil => exact fun h => h
  | cons a t ih => exact fun hx => ih (fun b hb => h b (List.mem_cons_of_mem _ hb)) (seen_lt (h a List.mem_cons_self) hx)
/-! ### the points -/
def crossP (l r : Pt) (c : Rat) : Rat := l.1 + (c - l.2) / (r.2 - l.2) * (r.1 - l.1)
def bendGo (c : Rat) : Pt → List Pt → List Pt
  | _, [] => []
  | l, r :: t => if l.2 < c ∧ c < r.2 then (crossP l r c, c) :: r :: bendGo c r t else r :: bendGo c r t
def withBend (ps : List Pt) (c : Rat) : List Pt := match ps with
  | [] => []
  | p :: t => p :: bendGo c p t
def stepP (ps : List Pt) (a : Lay) : List Pt := (if a.mode.bends = true then withBend ps a.tint else ps).map fun p => (p.1, seen a p.2)
def ptsOf (as : List Lay) : List Pt := as.foldl stepP [(0, 0), (1, 1)]
theorem ptsOf_snoc (as : List Lay) (a : Lay) : ptsOf (as ++ [a]) = stepP (ptsOf as) a := by
  unfold ptsOf
  rw [List.foldl_append]
  rfl
/-- the graph of f, straight between its points -/
inductive Gr (f : Rat → Rat) : List Pt → Prop where
  | one (x : Rat) : Gr f [(x, f x)]
  | cons {x y : Rat} {t : List Pt} (h : x < y) (k : f x < f y) (a : Aff f x y) (r : Gr f ((y, f y) :: t)) : Gr f ((x, f x) :: (y, f y) :: t)
theorem Gr.inc {f : Rat → Rat} {l : List Pt} (h : Gr f l) : Inc l := by
  induction h with
  | one x => exact .one _
  | cons h k _ _ ih => exact .cons ⟨h, k⟩ ih
theorem Gr.pt {f : Rat → Rat} {l : List Pt} (h : Gr f l) : ∀ p ∈ l, p.2 = f p.1 := by
  induction h with
  | one x => intro p hp; rw [List.mem_singleton.mp hp]
  | cons h k _ _ ih =>
    intro p hp
    rcases List.mem_cons.mp hp with e | hp
    · rw [e]
    · exact ih p hp
theorem Gr.head {f : Rat → Rat} {p : Pt} {t : List Pt} (h : Gr f (p :: t)) : p.2 = f p.1 := h.pt p List.mem_cons_self
/-- the curve through them is f -/
theorem Gr.va {f : Rat → Rat} : ∀ {l : List Pt}, Gr f l → ∀ {p : Pt} {t : List Pt}, l = p :: t → t ≠ [] → ∀ x, p.1 ≤ x → x ≤ (lastP p t).1 → valueAt l x = f x := by
  intro l h
  induction h with
  | one x =>
    intro p t e ht
    cases e
    exact absurd rfl ht
  | @cons x y t hxy k a r ih =>
    intro p t' e _ z h1 h2
    cases e
    cases t with
    | nil => exact a.on hxy h1 h2
    | cons q t =>
      rw [va_split]
      split
      · rename_i hq
        exact ih rfl (List.cons_ne_nil _ _) z (Rat.le_of_lt hq) h2
      · rename_i hq
        exact a.on hxy h1 (Rat.not_lt.mp hq)
/-- through a layer -/
theorem Gr.map {f : Rat → Rat} {a : Lay} (ha : Lk a) : ∀ {l : List Pt}, Gr f l → (a.mode.bends = true → ∀ (i : Nat) (p q : Pt), l[i]? = some p → l[i + 1]? = some q → ¬ (p.2 < a.tint ∧ a.tint < q.2)) → Gr (fun x => seen a (f x)) (l.map fun p => (p.1, seen a p.2)) := by
  intro l h
  induction h with
  | one x => exact fun _ => .one x
  | @cons x y t hxy k af r ih =>
    intro hb
    have A : Aff (seen a) (f x) (f y) := seen_aff fun z => hb z 0 _ _ rfl rfl
    refine .cons hxy (seen_lt ha k) (af.comp (fun z h1 h2 => ?_) A) (ih fun z i p q h1 h2 => hb z (i + 1) p q h1 h2)
    -- an affine function that rises keeps between its ends
    obtain ⟨s, c, e⟩ := af
    have e1 := e x Rat.le_refl (Rat.le_of_lt hxy)
    have e2 := e y (Rat.le_of_lt hxy) Rat.le_refl
    have e3 := e z h1 h2
    have hs : 0 ≤ s := by
      apply Rat.not_lt.mp
      intro hs
      have := Rat.mul_lt_mul_of_pos_left hxy (show 0 < -s by grind)
      grind
    have g1 := Rat.mul_nonneg hs (show 0 ≤ z - x by grind)
    have g2 := Rat.mul_nonneg hs (show 0 ≤ y - z by grind)
    constructor <;> grind
end PC
set_option Elab.async false
set_option linter.all false
set_option maxRecDepth 100000
set_option maxHeartbeats 4000000
namespace PC
open PM PL
/-! ### a bend -/
theorem pos_fac {a b : Rat} (hb : 0 < b) (h : 0 < a * b) : 0 < a := by
  apply Rat.not_le.mp
  intro ha
  have := Rat.mul_nonneg (show 0 ≤ -a by grind) (Rat.le_of_lt hb)
  grind
theorem cross_at {f : Rat → Rat} {x y c : Rat} (h : x < y) (a : Aff f x y) (h1 : f x < c) (h2 : c < f y) :
    x < crossP (x, f x) (y, f y) c ∧ crossP (x, f x) (y, f y) c < y ∧ f (crossP (x, f x) (y, f y) c) = c := by
  obtain ⟨s, k, e⟩ := a
  have e1 := e x Rat.le_refl (Rat.le_of_lt h)
  have e2 := e y (Rat.le_of_lt h) Rat.le_refl
  have hp : 0 < f y - f x := by grind
  have hd : (c - f x) / (f y - f x) * (f y - f x) = c - f x := Rat.div_mul_cancel (by grind)
  have d0 : 0 < (c - f x) / (f y - f x) := pos_fac hp (by rw [hd]; grind)
  have d1 : 0 < 1 - (c - f x) / (f y - f x) := pos_fac hp (by rw [show (1 - (c - f x) / (f y - f x)) * (f y - f x) = (f y - f x) - (c - f x) / (f y - f x) * (f y - f x) by grind, hd]; grind)
  show x < x + (c - f x) / (f y - f x) * (y - x) ∧ x + (c - f x) / (f y - f x) * (y - x) < y ∧ f (x + (c - f x) / (f y - f x) * (y - x)) = c
  generalize (c - f x) / (f y - f x) = d at hd d0 d1 ⊢
  have g1 := Rat.mul_pos d0 (show 0 < y - x by grind)
  have g2 := Rat.mul_pos d1 (show 0 < y - x by grind)
  have g3 : x < x + d * (y - x) := by grind
  have g4 : x + d * (y - x) < y := by grind
  refine ⟨g3, g4, ?_⟩
  rw [e _ (Rat.le_of_lt g3) (Rat.le_of_lt g4)]
  rw [e1, e2] at hd
  grind
/-- no straight piece crosses a value -/
def NoS (c : Rat) : List Pt → Prop
  | p :: q :: t => ¬ (p.2 < c ∧ c < q.2) ∧ NoS c (q :: t)
  | _ => True
theorem nos_at {c : Rat} : ∀ {l : List Pt}, NoS c l → ∀ (i : Nat) (p q : Pt), l[i]? = some p → l[i + 1]? = some q → ¬ (p.2 < c ∧ c < q.2)
  | [], _, _, _, _, h, _ => by cases h
  | [_], _, i, _, _, _, h => by cases i <;> cases h
  | a :: b :: t, h, 0, p, q, h1, h2 => by cases h1; cases h2; exact h.1
  | a :: b :: t, h, i + 1, p, q, h1, h2 => nos_at (l := b :: t) h.2 i p q h1 h2
theorem bend_hi {f : Rat → Rat} {c : Rat} {l : List Pt} (h : Gr f l) : ∀ {p : Pt} {t : List Pt}, l = p :: t → c ≤ p.2 → bendGo c p t = t := by
  induction h with
  | one x => intro p t e _; cases e; rfl
  | @cons x y t hx hk _ _ ih =>
    intro p t' e hc
    cases e
    have hc : c ≤ f x := hc
    show (if f x < c ∧ c < f y then _ else _) = _
    rw [if_neg fun z => by grind, ih rfl (show c ≤ f y by grind)]
theorem gr_bend {f : Rat → Rat} {c : Rat} {l : List Pt} (h : Gr f l) : ∀ {p : Pt} {t : List Pt}, l = p :: t →
    Gr f (p :: bendGo c p t) ∧ NoS c (p :: bendGo c p t) ∧ lastP p (bendGo c p t) = lastP p t ∧ (bendGo c p t).length ≤ t.length + 1 ∧ t.length ≤ (bendGo c p t).length
    ∧ ∀ q ∈ bendGo c p t, q ∈ t ∨ (q.2 = c ∧ ∃ u ∈ p :: t, ∃ v ∈ p :: t, u.1 < q.1 ∧ q.1 < v.1) := by
  induction h with
  | one x =>
    intro p t e
    cases e
    exact ⟨.one x, trivial, rfl, Nat.zero_le _, Nat.le_refl _, fun q hq => by cases hq⟩
  | @cons x y t hx hk a r ih =>
    intro p t' e
    cases e
    obtain ⟨i1, i2, i3, i4, i6, i5⟩ := ih rfl
    have i5' : ∀ q ∈ bendGo c (y, f y) t, q ∈ (y, f y) :: t ∨ (q.2 = c ∧ ∃ u ∈ (x, f x) :: (y, f y) :: t, ∃ v ∈ (x, f x) :: (y, f y) :: t, u.1 < q.1 ∧ q.1 < v.1) := by
      intro q hq
      rcases i5 q hq with k | ⟨k1, u, hu, v, hv, k⟩
      · exact .inl (List.mem_cons_of_mem _ k)
      · exact .inr ⟨k1, u, List.mem_cons_of_mem _ hu, v, List.mem_cons_of_mem _ hv, k⟩
    by_cases hc : f x < c ∧ c < f y
    · have eb : bendGo c (x, f x) ((y, f y) :: t) = (crossP (x, f x) (y, f y) c, c) :: (y, f y) :: bendGo c (y, f y) t := if_pos hc
      rw [eb]
      obtain ⟨z1, z2, z3⟩ := cross_at hx a hc.1 hc.2
      generalize hz : crossP (x, f x) (y, f y) c = z at z1 z2 z3 ⊢
      have et : bendGo c (y, f y) t = t := bend_hi r rfl (Rat.le_of_lt hc.2)
      refine ⟨?_, ?_, ?_, ?_, ?_, ?_⟩
      · have : (z, c) = (z, f z) := by rw [z3]
        rw [this]
        exact .cons z1 (by rw [z3]; exact hc.1) (a.sub Rat.le_refl (Rat.le_of_lt z2)) (.cons z2 (by rw [z3]; exact hc.2) (a.sub (Rat.le_of_lt z1) Rat.le_refl) i1)
      · exact ⟨fun k => absurd k.2 (Rat.not_lt.mpr Rat.le_refl), fun k => absurd k.1 (Rat.not_lt.mpr Rat.le_refl), i2⟩
      · exact i3
      · rw [et]
        simp only [List.length_cons]
        omega
      · simp only [List.length_cons]
        omega
      · intro q hq
        rcases List.mem_cons.mp hq with e | hq
        · rw [e]
          exact .inr ⟨rfl, _, List.mem_cons_self, _, List.mem_cons_of_mem _ List.mem_cons_self, z1, z2⟩
        · rcases List.mem_cons.mp hq with e | hq
          · exact .inl (by rw [e]; exact List.mem_cons_self)
          · exact i5' q hq
    · have eb : bendGo c (x, f x) ((y, f y) :: t) = (y, f y) :: bendGo c (y, f y) t := if_neg hc
      rw [eb]
      refine ⟨.cons hx hk a i1, ⟨hc, i2⟩, i3, ?_, ?_, ?_⟩
      · simp only [List.length_cons]
        omega
      · simp only [List.length_cons]
        omega
      · intro q hq
        rcases List.mem_cons.mp hq with e | hq
        · exact .inl (by rw [e]; exact List.mem_cons_self)
        · exact i5' q hq
/-! ### the grids -/
def dOf (a : Lay) : Nat := a.tint.den * a.cover.den
def prodD : List Lay → Nat
  | [] => 1
  | a :: t => dOf a * prodD t
theorem prodD_app {as bs : List Lay} : prodD (as ++ bs) = prodD as * prodD bs := by
  induction as with
  | nil => exact (Nat.one_mul _).symm
  | cons a t ih => show dOf a * prodD (t ++ bs) = dOf a * prodD t * prodD bs; rw [ih, Nat.mul_assoc]
theorem prodD_snoc {as : List Lay} {a : Lay} : prodD (as ++ [a]) = prodD as * dOf a := by
  rw [prodD_app]
  show _ * (dOf a * 1) = _
  rw [Nat.mul_one]
theorem dOf_pos {a : Lay} : 0 < dOf a := Nat.mul_pos a.tint.den_pos a.cover.den_pos
theorem prodD_pos : ∀ {as : List Lay}, 0 < prodD as
  | [] => Nat.one_pos
  | _ :: _ => Nat.mul_pos dOf_pos prodD_pos
theorem seen_grid {a : Lay} {x : Rat} {W : Nat} (hW : 0 < W) (h : x.den ∣ W) : (seen a x).den ∣ W * dOf a := by
  obtain ⟨k, ek⟩ := grid_num h
  have et := num_eq a.tint
  have ec := num_eq a.cover
  have key : ∀ j : Int, aim a.mode a.tint x * ((W : Rat) * (a.tint.den : Rat)) = (j : Rat) → seen a x * ((W * dOf a : Nat) : Rat) = (((a.cover.den : Int) - a.cover.num) * (k * (a.tint.den : Int)) + a.cover.num * j : Int) := by
    intro j hj
    have e1 : seen a x = (1 - a.cover) * x + a.cover * aim a.mode a.tint x := rfl
    rw [e1]
    show _ * ((W * (a.tint.den * a.cover.den) : Nat) : Rat) = _
    rw [Rat.natCast_mul, Rat.natCast_mul, Rat.intCast_add, Rat.intCast_mul, Rat.intCast_mul, Rat.intCast_mul, Rat.intCast_sub, Rat.intCast_natCast, Rat.intCast_natCast, ← hj, ← ek, ← ec]
    grind
  have fin : ∀ j : Int, aim a.mode a.tint x * ((W : Rat) * (a.tint.den : Rat)) = (j : Rat) → (seen a x).den ∣ W * dOf a := fun j hj => grid_of (Nat.mul_pos hW dOf_pos) (key j hj)
  have g1 : x * ((W : Rat) * (a.tint.den : Rat)) = ((k * (a.tint.den : Int) : Int) : Rat) := by
    rw [Rat.intCast_mul, Rat.intCast_natCast, ← ek]
    grind
  have g2 : a.tint * ((W : Rat) * (a.tint.den : Rat)) = ((a.tint.num * (W : Int) : Int) : Rat) := by
    rw [Rat.intCast_mul, Rat.intCast_natCast, ← et]
    grind
  have g3 : (x * a.tint) * ((W : Rat) * (a.tint.den : Rat)) = ((k * a.tint.num : Int) : Rat) := by
    rw [Rat.intCast_mul, ← ek, ← et]
    grind
  obtain ⟨m, t, c⟩ := a
  cases m
  · exact fin _ g2
  · refine (show (if x ≤ t then x else t) = x ∨ (if x ≤ t then x else t) = t by split <;> simp).elim (fun e => fin (k * (t.den : Int)) ?_) fun e => fin (t.num * (W : Int)) ?_
    · show (if x ≤ t then x else t) * _ = _
      rw [e]
      exact g1
    · show (if x ≤ t then x else t) * _ = _
      rw [e]
      exact g2
  · refine (show (if t ≤ x then x else t) = x ∨ (if t ≤ x then x else t) = t by split <;> simp).elim (fun e => fin (k * (t.den : Int)) ?_) fun e => fin (t.num * (W : Int)) ?_
    · show (if t ≤ x then x else t) * _ = _
      rw [e]
      exact g1
    · show (if t ≤ x then x else t) * _ = _
      rw [e]
      exact g2
  · exact fin _ g3
  · refine fin (k * (t.den : Int) + t.num * (W : Int) - k * t.num) ?_
    show (x + t - x * t) * _ = _
    rw [Rat.intCast_sub, Rat.intCast_add, ← g1, ← g2, ← g3]
    grind
theorem thru_grid : ∀ {as : List Lay} {x : Rat} {W : Nat}, 0 < W → x.den ∣ W → (thru as x).den ∣ W * prodD as
  | [], x, W, _, h => by rw [show prodD [] = 1 from rfl, Nat.mul_one]; exact h
  | a :: t, x, W, hW, h => by
    show (thru t (seen a x)).den ∣ W * (dOf a * prodD t)
    rw [← Nat.mul_assoc]
    exact thru_grid (Nat.mul_pos hW dOf_pos) (seen_grid hW h)
/-- a straight piece, back -/
theorem back_lin {x y : Rat} {W : Nat} {td q p r : Int} (e : (p : Rat) * x = y * (q : Rat) * (td : Rat) - (r : Rat)) (hW : 0 < W) (hp : 0 < p) (h : y.den ∣ W) : x.den ∣ W * p.toNat := by
  obtain ⟨k, ek⟩ := grid_num h
  refine grid_of (k := k * q * td - r * (W : Int)) (Nat.mul_pos hW (by omega)) ?_
  have e2 : ((p.toNat : Nat) : Rat) = (p : Rat) := by
    have : ((p.toNat : Int) : Rat) = (p : Rat) := by rw [Int.toNat_of_nonneg (Int.le_of_lt hp)]
    rw [← this, Rat.intCast_natCast]
  rw [Rat.natCast_mul, e2, Rat.intCast_sub, Rat.intCast_mul, Rat.intCast_mul, Rat.intCast_mul, Rat.intCast_natCast, ← ek]
  grind
theorem seen_back {a : Lay} (ha : Lk a) {x : Rat} {W : Nat} (hW : 0 < W) (h : (seen a x).den ∣ W) : ∃ S, 0 < S ∧ S ≤ dOf a ∧ x.den ∣ W * S := by
  obtain ⟨m, t, c⟩ := a
  have et := num_eq t
  have ec := num_eq c
  obtain ⟨⟨t0, t1⟩, c0, c1⟩ := ha
  have t0 : 0 ≤ t := t0
  have t1 : t ≤ 1 := t1
  have c0 : 0 < c := c0
  have c1 : c < 1 := c1
  have tn0 : 0 ≤ t.num := Rat.num_nonneg.mpr t0
  have tn1 : t.num ≤ (t.den : Int) := by have := (Rat.le_iff t 1).mp t1; simpa using this
  have cn0 : 0 < c.num := by have := (Rat.lt_iff 0 c).mp c0; simpa using this
  have cn1 : c.num < (c.den : Int) := by have := (Rat.lt_iff c 1).mp c1; simpa using this
  have td : 0 < (t.den : Int) := by have := t.den_pos; omega
  have cd : 0 < (c.den : Int) := by have := c.den_pos; omega
  have ed : ((dOf ⟨m, t, c⟩ : Nat) : Int) = (t.den : Int) * (c.den : Int) := by show ((t.den * c.den : Nat) : Int) = _; rw [Int.natCast_mul]
  have fin : ∀ {p r : Int}, 0 < p → p ≤ (t.den : Int) * (c.den : Int) → (p : Rat) * x = seen ⟨m, t, c⟩ x * ((c.den : Int) : Rat) * ((t.den : Int) : Rat) - (r : Rat) → ∃ S, 0 < S ∧ S ≤ dOf ⟨m, t, c⟩ ∧ x.den ∣ W * S := fun {p r} h1 h2 e => ⟨p.toNat, by omega, by omega, back_lin e hW h1 h⟩
  -- toward the color
  have pull : seen ⟨m, t, c⟩ x = (1 - c) * x + c * t → ∃ S, 0 < S ∧ S ≤ dOf ⟨m, t, c⟩ ∧ x.den ∣ W * S := by
    intro e
    have h1 : 0 < ((c.den : Int) - c.num) * (t.den : Int) := Int.mul_pos (by omega) td
    refine fin (p := ((c.den : Int) - c.num) * (t.den : Int)) (r := c.num * t.num) h1 ?_ ?_
    · rw [Int.mul_comm (t.den : Int)]
      exact Int.mul_le_mul_of_nonneg_right (by omega) (by omega)
    · rw [e, Rat.intCast_mul, Rat.intCast_mul, Rat.intCast_sub, Rat.intCast_natCast, Rat.intCast_natCast, ← et, ← ec]
      grind
  have stay : seen ⟨m, t, c⟩ x = x → ∃ S, 0 < S ∧ S ≤ dOf ⟨m, t, c⟩ ∧ x.den ∣ W * S := fun e => ⟨1, Nat.one_pos, dOf_pos, by rw [Nat.mul_one]; rw [e] at h; exact h⟩
  cases m
  · exact pull rfl
  · by_cases z : x ≤ t
    · exact stay (by show (1 - c) * x + c * (if x ≤ t then x else t) = _; rw [if_pos z]; grind)
    · exact pull (by show (1 - c) * x + c * (if x ≤ t then x else t) = _; rw [if_neg z])
  · by_cases z : t ≤ x
    · exact stay (by show (1 - c) * x + c * (if t ≤ x then x else t) = _; rw [if_pos z]; grind)
    · exact pull (by show (1 - c) * x + c * (if t ≤ x then x else t) = _; rw [if_neg z])
  · have h1 : 0 < ((c.den : Int) - c.num) * (t.den : Int) := Int.mul_pos (by omega) td
    have h2 : 0 ≤ c.num * t.num := Int.mul_nonneg (by omega) tn0
    have h3 : c.num * t.num ≤ c.num * (t.den : Int) := Int.mul_le_mul_of_nonneg_left tn1 (by omega)
    have h4 : ((c.den : Int) - c.num) * (t.den : Int) = (c.den : Int) * (t.den : Int) - c.num * (t.den : Int) := Int.sub_mul ..
    refine fin (p := ((c.den : Int) - c.num) * (t.den : Int) + c.num * t.num) (r := 0) (by omega) (by rw [Int.mul_comm (t.den : Int)]; omega) ?_
    show _ = ((1 - c) * x + c * (x * t)) * _ * _ - _
    rw [Rat.intCast_add, Rat.intCast_mul, Rat.intCast_mul, Rat.intCast_sub, Rat.intCast_natCast, Rat.intCast_natCast, ← et, ← ec]
    show _ = _ - (0 : Rat)
    grind
  · have h2 : c.num * t.num ≤ c.num * (t.den : Int) := Int.mul_le_mul_of_nonneg_left tn1 (by omega)
    have h3 : c.num * (t.den : Int) < (c.den : Int) * (t.den : Int) := Int.mul_lt_mul_of_pos_right cn1 td
    have h4 : 0 ≤ c.num * t.num := Int.mul_nonneg (by omega) tn0
    refine fin (p := (c.den : Int) * (t.den : Int) - c.num * t.num) (r := c.num * t.num) (by omega) (by rw [Int.mul_comm (t.den : Int)]; omega) ?_
    show _ = ((1 - c) * x + c * (x + t - x * t)) * _ * _ - _
    rw [Rat.intCast_sub, Rat.intCast_mul, Rat.intCast_mul, Rat.intCast_natCast, Rat.intCast_natCast, ← et, ← ec]
    grind
theorem thru_back : ∀ {as : List Lay}, (∀ a ∈ as, Lk a) → ∀ {x : Rat} {W : Nat}, 0 < W → (thru as x).den ∣ W → ∃ V, 0 < V ∧ V ≤ W * prodD as ∧ x.den ∣ V
  | [], _, x, W, hW, h => ⟨W, hW, by rw [show prodD [] = 1 from rfl, Nat.mul_one]; exact Nat.le_refl _, h⟩
  | a :: t, ha, x, W, hW, h => by
    obtain ⟨V, v1, v2, v3⟩ := thru_back (fun b hb => ha b (List.mem_cons_of_mem _ hb)) hW (show (thru t (seen a x)).den ∣ W from h)
    obtain ⟨S, s1, s2, s3⟩ := seen_back (ha a List.mem_cons_self) v1 v3
    refine ⟨V * S, Nat.mul_pos v1 s1, ?_, s3⟩
    show _ ≤ W * (dOf a * prodD t)
    rw [Nat.mul_comm (dOf a), ← Nat.mul_assoc]
    exact Nat.mul_le_mul v2 s2
end PC
set_option Elab.async false
set_option linter.all false
set_option maxRecDepth 100000
set_option maxHeartbeats 4000000
namespace PC
open PM PL
/-! ### the points of a stack -/
structure Pts (as : List Lay) (l : List Pt) : Prop where
  gr : Gr (thru as) l
  hd : ∃ p t, l = p :: t ∧ p.1 = 0 ∧ (lastP p t).1 = 1
  two : 2 ≤ l.length
  len : l.length ≤ as.length + 2
  gx : ∀ p ∈ l, 0 ≤ p.1 ∧ p.1 ≤ 1 ∧ ∃ W, 0 < W ∧ W ≤ prodD as ∧ p.1.den ∣ W
  gy : ∀ p ∈ l, ∃ W, 0 < W ∧ W ≤ prodD as ∧ p.2.den ∣ W
theorem lastP_map {g : Pt → Pt} : ∀ {t : List Pt} {p : Pt}, lastP (g p) (t.map g) = g (lastP p t)
  | [], _ => rfl
  | q :: t, p => lastP_map (t := t) (p := q)
theorem seen_color {a : Lay} (h : a.mode.bends = true) : seen a a.tint = a.tint := by
  obtain ⟨m, t, c⟩ := a
  cases m
  · cases h
  · show (1 - c) * t + c * (if t ≤ t then t else t) = t
    rw [if_pos Rat.le_refl]
    grind
  · show (1 - c) * t + c * (if t ≤ t then t else t) = t
    rw [if_pos Rat.le_refl]
    grind
  · cases h
  · cases h
/-- one layer more -/
theorem Pts.step {as : List Lay} {l : List Pt} {a : Lay} (has : ∀ b ∈ as, Lk b) (ha : Lk a) (h : Pts as l) : Pts (as ++ [a]) (stepP l a) := by
  obtain ⟨p, t, rfl, h0, h1⟩ := h.hd
  have pd : prodD (as ++ [a]) = prodD as * dOf a := prodD_snoc
  have ef : thru (as ++ [a]) = fun x => seen a (thru as x) := funext fun x => thru_snoc as a x
  -- the points before the layer
  have key : ∃ t', stepP (p :: t) a = (p :: t').map (fun q => (q.1, seen a q.2)) ∧ Gr (thru as) (p :: t') ∧ (a.mode.bends = true → NoS a.tint (p :: t')) ∧ (lastP p t').1 = 1 ∧ t'.length ≤ t.length + 1 ∧ t.length ≤ t'.length
      ∧ ∀ q ∈ t', q ∈ t ∨ (a.mode.bends = true ∧ q.2 = a.tint ∧ ∃ u ∈ p :: t, ∃ v ∈ p :: t, u.1 < q.1 ∧ q.1 < v.1) := by
    by_cases z : a.mode.bends = true
    · obtain ⟨g1, g2, g3, g4, g6, g5⟩ := gr_bend (c := a.tint) h.gr rfl
      refine ⟨bendGo a.tint p t, ?_, g1, fun _ => g2, by rw [g3]; exact h1, g4, g6, fun q hq => (g5 q hq).imp id fun k => ⟨z, k⟩⟩
      show List.map _ (if a.mode.bends = true then _ else _) = _
      rw [if_pos z]
      rfl
    · refine ⟨t, ?_, h.gr, fun k => absurd k z, h1, by omega, Nat.le_refl _, fun q hq => .inl hq⟩
      show List.map _ (if a.mode.bends = true then _ else _) = _
      rw [if_neg z]
  obtain ⟨t', e, g, ns, ls, le, ge, mem⟩ := key
  have tw := h.two
  have ln := h.len
  rw [List.length_cons] at tw ln
  have inx : ∀ q ∈ p :: t', (q ∈ p :: t) ∨ (a.mode.bends = true ∧ q.2 = a.tint ∧ ∃ u ∈ p :: t, ∃ v ∈ p :: t, u.1 < q.1 ∧ q.1 < v.1) := by
    intro q hq
    rcases List.mem_cons.mp hq with e | hq
    · exact .inl (by rw [e]; exact List.mem_cons_self)
    · exact (mem q hq).imp (List.mem_cons_of_mem _) id
  rw [e]
  refine ⟨by rw [ef]; exact g.map ha fun z i u v h1 h2 => nos_at (ns z) i u v h1 h2, ⟨(p.1, seen a p.2), t'.map fun q => (q.1, seen a q.2), rfl, h0, ?_⟩, ?_, ?_, ?_, ?_⟩
  · exact (congrArg Prod.fst (lastP_map (g := fun q : Pt => (q.1, seen a q.2)))).trans ls
  · rw [List.length_map, List.length_cons]
    omega
  · rw [List.length_map, List.length_cons, List.length_append, List.length_singleton]
    omega
  · intro q hq
    obtain ⟨q', hq', rfl⟩ := List.mem_map.mp hq
    show 0 ≤ q'.1 ∧ q'.1 ≤ 1 ∧ _
    rcases inx q' hq' with k | ⟨z, k2, u, hu, v, hv, k3, k4⟩
    · obtain ⟨b1, b2, W, b3, b4, b5⟩ := h.gx q' k
      refine ⟨b1, b2, W, b3, ?_, b5⟩
      rw [pd]
      exact Nat.le_trans b4 (Nat.le_mul_of_pos_right _ dOf_pos)
    · have b1 := (h.gx u hu).1
      have b2 := (h.gx v hv).2.1
      refine ⟨by grind, by grind, ?_⟩
      have ev : thru as q'.1 = a.tint := (g.pt q' hq').symm.trans k2
      obtain ⟨V, v1, v2, v3⟩ := thru_back has (x := q'.1) (W := a.tint.den) a.tint.den_pos (by rw [ev]; exact Nat.dvd_refl _)
      refine ⟨V, v1, Nat.le_trans v2 ?_, v3⟩
      rw [pd, Nat.mul_comm]
      exact Nat.mul_le_mul_left _ (Nat.le_mul_of_pos_right _ a.cover.den_pos)
  · intro q hq
    obtain ⟨q', hq', rfl⟩ := List.mem_map.mp hq
    show ∃ W, 0 < W ∧ W ≤ _ ∧ (seen a q'.2).den ∣ W
    rcases inx q' hq' with k | ⟨z, k2, _⟩
    · obtain ⟨W, b1, b2, b3⟩ := h.gy q' k
      refine ⟨W * dOf a, Nat.mul_pos b1 dOf_pos, ?_, seen_grid b1 b3⟩
      rw [pd]
      exact Nat.mul_le_mul_right _ b2
    · rw [k2, seen_color z]
      refine ⟨a.tint.den, a.tint.den_pos, ?_, Nat.dvd_refl _⟩
      rw [pd]
      exact Nat.le_trans (Nat.le_mul_of_pos_right _ a.cover.den_pos) (Nat.le_mul_of_pos_left _ prodD_pos)
theorem pts_go : ∀ {as pre : List Lay} {l : List Pt}, (∀ a ∈ pre ++ as, Lk a) → Pts pre l → Pts (pre ++ as) (as.foldl stepP l)
  | [], pre, l, _, h => by rw [List.append_nil]; exact h
  | a :: t, pre, l, ha, h => by
    have e : pre ++ a :: t = (pre ++ [a]) ++ t := by simp
    rw [e]
    exact pts_go (by rw [← e]; exact ha) (h.step (fun b hb => ha b (List.mem_append_left _ hb)) (ha a (List.mem_append_right _ List.mem_cons_self)))
theorem pts0 : Pts [] [(0, 0), (1, 1)] := by
  refine ⟨.cons (by decide) (by decide) ⟨1, 0, fun x _ _ => by show x = _; grind⟩ (.one 1), ⟨_, _, rfl, rfl, rfl⟩, by decide, by decide, ?_, ?_⟩
  · intro p hp
    rcases List.mem_cons.mp hp with e | hp
    · rw [e]; exact ⟨by decide, by decide, 1, Nat.one_pos, by decide, by decide⟩
    · rw [List.mem_singleton.mp hp]; exact ⟨by decide, by decide, 1, Nat.one_pos, by decide, by decide⟩
  · intro p hp
    rcases List.mem_cons.mp hp with e | hp
    · rw [e]; exact ⟨1, Nat.one_pos, by decide, by decide⟩
    · rw [List.mem_singleton.mp hp]; exact ⟨1, Nat.one_pos, by decide, by decide⟩
theorem pts_of {as : List Lay} (h : ∀ a ∈ as, Lk a) : Pts as (ptsOf as) := pts_go (pre := []) h pts0
theorem Pts.good {as : List Lay} {l : List Pt} (h : Pts as l) (ha : ∀ a ∈ as, Lk a) {n : Nat} (hn : prodD as < 2 ^ n) (hl : as.length ≤ 900) : Good l n := by
  have y01 : ∀ p ∈ l, 0 ≤ p.2 ∧ p.2 ≤ 1 := fun p hp => by
    obtain ⟨b1, b2, _⟩ := h.gx p hp
    rw [h.gr.pt p hp]
    exact thru_in ha ⟨b1, b2⟩
  refine ⟨h.gr.inc, h.two, Nat.le_trans h.len (by omega), fun p hp => ?_, fun p hp => ?_, h.hd⟩
  · obtain ⟨b1, b2, W, b3, b4, b5⟩ := h.gx p hp
    obtain ⟨c1, c2⟩ := y01 p hp
    obtain ⟨V, c3, c4, c5⟩ := h.gy p hp
    exact ⟨bd_grid b1 b2 b3 (Nat.lt_of_le_of_lt b4 hn) b5, bd_grid c1 c2 c3 (Nat.lt_of_le_of_lt c4 hn) c5⟩
  · obtain ⟨b1, b2, _⟩ := h.gx p hp
    obtain ⟨c1, c2⟩ := y01 p hp
    exact ⟨decide_eq_true ⟨b1, b2⟩, decide_eq_true ⟨c1, c2⟩⟩
/-- the curve of a stack -/
def curveOf (as : List Lay) : List Pt := unflat (ptsOf as)
theorem Pts.va {as : List Lay} {l : List Pt} (h : Pts as l) {x : Rat} (h0 : 0 ≤ x) (h1 : x ≤ 1) : valueAt l x = thru as x := by
  obtain ⟨p, t, rfl, e0, e1⟩ := h.hd
  refine h.gr.va rfl (fun z => ?_) x (by rw [e0]; exact h0) (by rw [e1]; exact h1)
  have := h.two
  rw [z] at this
  exact absurd this (by show ¬ 2 ≤ 1; decide)
/-- the first place over which two stacks differ -/
def diffOf (as bs : List Lay) : Option Rat := ((ptsOf as ++ ptsOf bs).map Prod.fst).find? fun x => !decide (thru as x = thru bs x)
theorem diff_none {as bs : List Lay} (ha : ∀ a ∈ as, Lk a) (hb : ∀ a ∈ bs, Lk a) (h : ∀ x, 0 ≤ x → x ≤ 1 → thru as x = thru bs x) : diffOf as bs = none := by
  refine List.find?_eq_none.mpr fun x hx => ?_
  obtain ⟨p, hp, rfl⟩ := List.mem_map.mp hx
  have : 0 ≤ p.1 ∧ p.1 ≤ 1 := by
    rcases List.mem_append.mp hp with k | k
    · exact ⟨((pts_of ha).gx p k).1, ((pts_of ha).gx p k).2.1⟩
    · exact ⟨((pts_of hb).gx p k).1, ((pts_of hb).gx p k).2.1⟩
  rw [h _ this.1 this.2]
  simp
end PC
set_option Elab.async false
set_option linter.all false
set_option maxRecDepth 100000
set_option maxHeartbeats 4000000
namespace PC
open PySem PySem.Spec
open PyProof.Rows hiding St
open L2 PL TX PM
/-! ### crossing and bending: the code -/
/-- what a piece gives -/
def bendOne (c : Rat) (q : Pt × Pt) : List Pt := if q.1.2 < c ∧ c < q.2.2 then [(crossP q.1 q.2 c, c), q.2] else [q.2]
def bendL (l : List Pt) (c : Rat) : List Pt := match l with
  | [] => []
  | p :: t => p :: (((p :: t).zip t).map (bendOne c)).flatten
theorem bendGo_eq {c : Rat} : ∀ {t : List Pt} {p : Pt}, bendGo c p t = (((p :: t).zip t).map (bendOne c)).flatten
  | [], _ => rfl
  | r :: t, l => by
    show (if l.2 < c ∧ c < r.2 then (crossP l r c, c) :: r :: bendGo c r t else r :: bendGo c r t) = bendOne c (l, r) ++ (((r :: t).zip t).map (bendOne c)).flatten
    rw [bendGo_eq]
    unfold bendOne
    split <;> rfl
theorem bendL_eq {l : List Pt} {c : Rat} : bendL l c = withBend l c := by
  cases l with
  | nil => rfl
  | cons p t => exact congrArg (p :: ·) bendGo_eq.symm
section
variable {P : Program} {w : World} {K : Fg} {mg : PySem.Str → Option Value} {base : Heap}
def PrX (a : Pt × Pt × Rat × Unit) : Prop := ∃ n, PtB n a.1 ∧ PtB n a.2.1 ∧ Bd n a.2.2.1 ∧ a.1.2 < a.2.1.2 ∧ 7 * n + 20 ≤ 9000
theorem c_crossing (T : Tx ex fn K mg) : FnR P w K mg base CX0 6 (aGlo "crossing" K) (spD (aC (sPt K) (aC (sPt K) (aC (sF K) aN))) PrX (sF K) (fun a => crossP a.1 a.2.1 a.2.2.1)) := by
  obtain ⟨fd, F⟩ := f_crossing T
  refine fn_x F sc_crossing (argC_cons (argC_cons (argC_cons argC_nil))) (fun _ => rfl) (n := 1) (fun _ => rfl) (fun cdv A outer s H E hr ⟨l, r, c, _⟩ hp => ?_) (fun _ _ _ _ _ _ us hl => match us, hl with | [_, _, _], _ => rfl)
  obtain ⟨n, hl, hr', hc, hlt, hn⟩ := hp
  have hl : PtB n l := hl
  have hr' : PtB n r := hr'
  have hc : Bd n c := hc
  have hlt : l.2 < r.2 := hlt
  have b1 := bd_sub hc hl.2
  have b2 := bd_sub hr'.2 hl.2
  have hp : 0 < r.2 - l.2 := by grind
  have b3 := bd_div b1 b2 hp
  have b4 := bd_sub hr'.1 hl.1
  refine xb_set 3 (a := (c - l.2) / (r.2 - l.2)) sc_crossing.nd (x_quoF T hr (x_subF T hr (xv 2) (x_p1 (xv 0)) (.mk' hc hl.2 (by omega))) (x_subF T hr (x_p1 (xv 1)) (x_p1 (xv 0)) (.mk' hr'.2 hl.2 (by omega))) (.mk' b1 b2 (by omega)) hp) ?_
  exact xb_ret (ef (xe_eq (x_addF T hr (x_p0 (xv 0)) (x_mulF T hr (xv 3) (x_subF T hr (x_p0 (xv 1)) (x_p0 (xv 0)) (.mk' hr'.1 hl.1 (by omega))) (.mk' b3 b4 (by omega))) (.mk' hl.1 (bd_mul b3 b4) (by omega))) rfl))
theorem take_snoc {α : Type} {l : List α} {i : Nat} {x : α} (h : l[i]? = some x) : l.take (i + 1) = l.take i ++ [x] := by
  rw [List.take_add_one, h]
  rfl
theorem c_with_bend (T : Tx ex fn K mg) : FnR P w K mg base CX0 7 (aGlo "with_bend" K) (spD (aC (sL K (sPt K)) (aC (sF K) aN)) (fun a => a.1 ≠ [] ∧ a.1.length ≤ 1000 ∧ Inc a.1 ∧ ∃ n, PtsB n a.1 ∧ Bd n a.2.1 ∧ 7 * n + 20 ≤ 9000) (sL K (sPt K)) (fun a => bendL a.1 a.2.1)) := by
  obtain ⟨fd, F⟩ := f_with_bend T
  refine fn_x F sc_with_bend (argC_cons (argC_cons argC_nil)) (fun _ => rfl) (n := 3) (fun _ => rfl) (fun cdv A outer s H E hr ⟨l, c, _⟩ hp => ?_) (fun _ _ _ _ _ _ us hl => match us, hl with | [_, _], _ => rfl)
  obtain ⟨h0, h1000, hinc, n, hb, hc, hn⟩ := hp
  have h0 : l ≠ [] := h0
  have h1000 : l.length ≤ 1000 := h1000
  have hinc : Inc l := hinc
  have hb : PtsB n l := hb
  have hc : Bd n c := hc
  obtain ⟨p0, l0, rfl⟩ : ∃ p0 l0, l = p0 :: l0 := match l, h0 with | p :: t, _ => ⟨p, t, rfl⟩
  have hl0 : l0.length ≤ 999 := by rw [List.length_cons] at h1000; omega
  have hzl : ((p0 :: l0).zip l0).length = l0.length := by rw [List.length_zip, List.length_cons]; omega
  have hbnd : ∀ k, (((((p0 :: l0).zip l0).take k).map (bendOne c)).flatten).length ≤ 2 * k := by
    intro k
    induction k with
    | zero => simp
    | succ k ih =>
      cases hk : ((p0 :: l0).zip l0)[k]? with
      | none =>
        have : ((p0 :: l0).zip l0).length ≤ k := List.getElem?_eq_none_iff.mp hk
        rw [List.take_of_length_le (by omega)] at ih ⊢
        omega
      | some q =>
        rw [take_snoc hk, List.map_append, List.flatten_append, List.length_append]
        have : (List.map (bendOne c) [q]).flatten.length ≤ 2 := by
          show (bendOne c q ++ []).length ≤ 2
          rw [List.append_nil]
          unfold bendOne
          split <;> simp
        omega
  refine xb_own 2 sc_with_bend.nd (xs (x_ixL (a := p0) (xv 0) x_int atI_0) xs_nil) ?_ (hl := by show 1 ≤ 16777216; decide) (hiΓ := by show 2 < 5; decide)
  refine xb_for (Pl := fun xs => xs = (p0 :: l0).zip l0) (vs := [3, 4]) (gt := gTup K 2 (gCons (gName 3) (gCons (gName 4) gNil)))
    (I := fun xs i Γ o => o = .at_ 2 (sPt K) inferInstance (p0 :: ((((p0 :: l0).zip l0).take i).map (bendOne c)).flatten) ∧ ∃ c3 c4, Γ = [Ce (sL K (sPt K)) (p0 :: l0), Ce (sF K) c, .no, c3, c4])
    (N := fun Γ o => o = .at_ 2 (sPt K) inferInstance (bendL (p0 :: l0) c) ∧ ∃ c3 c4, Γ = [Ce (sL K (sPt K)) (p0 :: l0), Ce (sF K) c, .no, c3, c4])
    PassesOwn.never rfl (ei (xi_imp (xi_zip (P := (· = p0 :: l0)) (R := (· = l0)) (n_zip T) (xv 0) (xe_eq (x_slL (as := p0 :: l0) (xv 0) (xo_some x_int) xo_none) (cutA_from (i := 1)))) fun zs ⟨xs, ys, e1, e2, e3⟩ => by subst e1 e2; exact e3)) (pg_tup rfl (pgs_cons (pg_name sc_with_bend.nd rfl (Or.inl rfl)) (pgs_cons (pg_name sc_with_bend.nd rfl (Or.inl rfl)) pgs_nil))) (tgt_pair 3 4) ?_ ?_ ?_ ?_
  · rintro xs rfl
    exact ⟨rfl, _, _, rfl⟩
  · rintro xs rfl i ⟨l, r⟩ Γ o hx ⟨rfl, c3, c4, rfl⟩
    refine ⟨fun j hj => ?_, ?_⟩
    · rcases List.mem_cons.mp hj with e | hj
      · rw [e]; rfl
      · rw [List.mem_singleton.mp hj]; rfl
    have hil : i < l0.length := by
      have := (List.getElem?_eq_some_iff.mp hx).1
      omega
    obtain ⟨hl1, hr1⟩ := List.getElem?_zip_eq_some.mp hx
    have hl1 : (p0 :: l0)[i]? = some l := hl1
    have hr2 : (p0 :: l0)[i + 1]? = some r := hr1
    have hlt : Lt2 l r := inc_at hinc hl1 hr2
    have bl := hb l (List.mem_of_getElem? hl1)
    have br := hb r (List.mem_of_getElem? hr2)
    rw [take_snoc hx, List.map_append, List.flatten_append]
    have e1 : (List.map (bendOne c) [(l, r)]).flatten = bendOne c (l, r) := by show bendOne c (l, r) ++ [] = _; rw [List.append_nil]
    rw [e1]
    have hlen := hbnd i
    generalize ((((p0 :: l0).zip l0).take i).map (bendOne c)).flatten = acc at hlen ⊢
    have hr1' : Room 1 _ := hr.mono (by decide)
    by_cases hc2 : l.2 < c ∧ c < r.2
    · have e2 : bendOne c (l, r) = [(crossP l r c, c), r] := if_pos hc2
      rw [e2]
      refine xb_ifP (N := fun Γ o => o = .at_ 2 (sPt K) inferInstance (p0 :: (acc ++ [(crossP l r c, c)])) ∧ Γ = [Ce (sL K (sPt K)) (p0 :: l0), Ce (sF K) c, .no, Ce (sPt K) l, Ce (sPt K) r]) (Pc := (· = true)) (etr (xt_eq (xw_pt (xw_and (xt_ltF T hr1' (x_p1 (xv 3)) (xv 1) (.mk' bl.2 hc (by omega))) fun _ => xw_and1 (xt_ltF T hr1' (xv 1) (x_p1 (xv 4)) (.mk' hc br.2 (by omega))))) (by show (decide (l.2 < c) && decide (c < r.2)) = true; rw [decide_eq_true hc2.1, decide_eq_true hc2.2]; rfl))) (fun _ => ?_) (fun h => by cases h) ?_
      · refine xb_append (P := (· = (crossP l r c, c))) (ef (x_tup2D (a := crossP l r c) (b := c) (xe_eq (x_call (c_crossing T) hr (g_crossing T) (k_crossing T) (xa (xv 3) (xa (xv 4) (xa (xv 1) xa0))) ⟨n, bl, br, hc, hlt.2, hn⟩) rfl) (xv 1))) (fun a ha => ?_) (by show (p0 :: acc).length < 16777216; rw [List.length_cons]; omega)
        subst ha
        exact xb_nil ⟨rfl, rfl⟩
      · rintro Γ' o' ⟨rfl, rfl⟩
        refine xb_append (P := (· = r)) (ef (xv 4)) (fun a ha => ?_) (by show (p0 :: (acc ++ [(crossP l r c, c)])).length < 16777216; simp only [List.length_cons, List.length_append, List.length_nil]; omega)
        subst ha
        exact xb_nil ⟨by simp, _, _, rfl⟩
    · have e2 : bendOne c (l, r) = [r] := if_neg hc2
      rw [e2]
      refine xb_ifP (N := fun Γ o => o = .at_ 2 (sPt K) inferInstance (p0 :: acc) ∧ Γ = [Ce (sL K (sPt K)) (p0 :: l0), Ce (sF K) c, .no, Ce (sPt K) l, Ce (sPt K) r]) (Pc := (· = false)) (etr (xt_eq (xw_pt (xw_and (xt_ltF T hr1' (x_p1 (xv 3)) (xv 1) (.mk' bl.2 hc (by omega))) fun _ => xw_and1 (xt_ltF T hr1' (xv 1) (x_p1 (xv 4)) (.mk' hc br.2 (by omega))))) (by
        show (decide (l.2 < c) && decide (c < r.2)) = false
        rw [Bool.and_eq_false_iff, decide_eq_false_iff_not, decide_eq_false_iff_not]
        exact (Decidable.em (l.2 < c)).elim (fun z => .inr fun y => hc2 ⟨z, y⟩) .inl))) (fun h => by cases h) (fun _ => xb_nil ⟨rfl, rfl⟩) ?_
      rintro Γ' o' ⟨rfl, rfl⟩
      refine xb_append (P := (· = r)) (ef (xv 4)) (fun a ha => ?_) (by show (p0 :: acc).length < 16777216; simp only [List.length_cons]; omega)
      subst ha
      exact xb_nil ⟨rfl, _, _, rfl⟩
  · rintro xs rfl Γ o ⟨rfl, c3, c4, rfl⟩
    refine ⟨?_, c3, c4, rfl⟩
    rw [List.take_length]
    rfl
  · rintro Γ o ⟨rfl, c3, c4, rfl⟩
    exact xb_retL (xe_eq (xv 2) rfl)
end
end PC
set_option Elab.async false
set_option linter.all false
set_option maxRecDepth 100000
set_option maxHeartbeats 4000000
namespace PC
open PySem PySem.Spec
open PyProof.Rows hiding St
open L2 PL TX PM
/-! ### class Stack -/
/-- layers of a stack: every number is on a grid -/
structure StOk (n : Nat) (as : List Lay) : Prop where
  lk : ∀ a ∈ as, Lk a
  len : as.length ≤ 24
  pd : prodD as < 2 ^ n
theorem prodD_mem : ∀ {as : List Lay} {a : Lay}, a ∈ as → dOf a ≤ prodD as
  | b :: t, a, h => by
    show _ ≤ dOf b * prodD t
    rcases List.mem_cons.mp h with e | h
    · rw [e]
      exact Nat.le_mul_of_pos_right _ prodD_pos
    · exact Nat.le_trans (prodD_mem h) (Nat.le_mul_of_pos_left _ dOf_pos)
theorem StOk.lay {n : Nat} {as : List Lay} (h : StOk n as) {a : Lay} (ha : a ∈ as) : LayOk n a := by
  have l := h.lk a ha
  have d := Nat.lt_of_le_of_lt (prodD_mem ha) h.pd
  have d1 : a.tint.den ≤ dOf a := Nat.le_mul_of_pos_right _ a.cover.den_pos
  have d2 : a.cover.den ≤ dOf a := Nat.le_mul_of_pos_left _ a.tint.den_pos
  exact ⟨l.tint, l.cover, bd_grid l.tint.1 l.tint.2 a.tint.den_pos (by omega) (Nat.dvd_refl _), bd_grid (Rat.le_of_lt l.cover.1) (Rat.le_of_lt l.cover.2) a.cover.den_pos (by omega) (Nat.dvd_refl _)⟩
def sS (K : Fg) : Sh (List Lay) := fun H v as => ∃ p dx x, v = .ref p ∧ H p = some (.ins (aGlo "Stack" K) dx [("laid", x)]) ∧ sU K (sLy K) H x as
instance {K : Fg} : Mo (sS K) := ⟨fun e ⟨p, dx, x, h1, h2, h3⟩ => ⟨p, dx, x, h1, e _ _ h2, Mo.up e h3⟩⟩
instance {K : Fg} : Lf (sS K) := ⟨fun {H D xs v a} hD ⟨p, dx, x, h1, h2, h3⟩ => ⟨p, dx, x, h1, by rw [hide_ne fun z => (by rw [z, hD] at h2; cases h2)]; exact h2, Lf.lf hD h3⟩⟩
theorem ins_S {K : Fg} : InsS (aGlo "Stack" K) (sS K) := fun H v a ⟨p, dx, x, h1, h2, _⟩ => ⟨p, dx, _, h1, h2⟩
section
variable {P : Program} {w : World} {K : Fg} {mg : PySem.Str → Option Value} {base : Heap}
theorem neqS (T : Tx ex fn K mg) : ∀ m : Mode, m.cls K ≠ aGlo "Stack" K
  | .normal => q_Normal_Stack T
  | .darken => q_Darken_Stack T
  | .lighten => q_Lighten_Stack T
  | .multiply => q_Multiply_Stack T
  | .screen => q_Screen_Stack T
theorem ncs_Ly {K : Fg} {C : Addr} (h : ∀ m : Mode, m.cls K ≠ C) (hF : aGlo "Frac" K ≠ C) : NcS C (sLy K) := fun H x dx fs v a h1 h2 ⟨p, dy, y1, y2, y3, e, q, g1, g2, g3⟩ => ⟨p, dy, y1, y2, y3, e, by
  rw [hide_ne fun z => (by rw [z, h2] at q; cases q), hide_ne fun z => (by rw [z, h1] at q; cases q; exact h _ rfl)]
  exact q, ncs_F hF _ _ _ _ _ _ h1 h2 g1, ncs_F hF _ _ _ _ _ _ h1 h2 g2, ncs_F hF _ _ _ _ _ _ h1 h2 g3⟩
theorem ncs_laid (T : Tx ex fn K mg) : NcS (aGlo "Stack" K) (sU K (sLy K)) := ncs_tup (ncs_Ly (neqS T) (q_Frac_Stack T))
theorem ty_S (T : Tx ex fn K mg) : TyS K (sS K) (.ref (aGlo "Stack" K)) := tyS_ins (c_Stack T) ins_S
theorem fld_laid (T : Tx ex fn K mg) : Fld K (sS K) "laid" (sU K (sLy K)) (fun l => l) := fun H v a ⟨p, dx, x, h1, h2, h3⟩ => ⟨p, _, dx, _, _, h1, h2, (c_Stack T).cl, a_Stack_laid T, rfl, h3⟩
theorem c_check_layers (T : Tx ex fn K mg) : FnR P w K mg base CX0 2 (aGlo "check_layers" K) (spG (aC (sU K (sLy K)) aN) (fun a => a.1.length ≤ 24) sNon (fun _ _ => True)) := by
  obtain ⟨fd, F⟩ := f_check_layers T
  refine fn_x F sc_check_layers (argC_cons argC_nil) (fun _ => rfl) (n := 2) (fun _ => rfl) (fun cdv A outer s H E hr ⟨l, _⟩ hp => ?_) (fun _ _ _ _ _ _ us hl => match us, hl with | [_], _ => rfl)
  have hp : l.length ≤ 24 := hp
  refine xb_for (Pl := fun xs => xs = enumL l) (vs := [1, 2]) (gt := gTup K 2 (gCons (gName 1) (gCons (gName 2) gNil))) (I := fun xs i Γ o => o = .no ∧ ∃ c1 c2, Γ = [Ce (sU K (sLy K)) l, c1, c2]) (N := fun Γ o => o = .no ∧ ∃ c1 c2, Γ = [Ce (sU K (sLy K)) l, c1, c2])
    PassesOwn.never rfl (ei (xi_imp (xi_enumT (P := (· = l)) (n_enumerate T) (xv 0)) fun zs ⟨xs, e1, e2⟩ => by subst e1; exact e2)) (pg_tup rfl (pgs_cons (pg_name sc_check_layers.nd rfl (Or.inl rfl)) (pgs_cons (pg_name sc_check_layers.nd rfl (Or.inl rfl)) pgs_nil))) (tgt_pair 1 2) ?_ ?_ ?_ ?_
  · rintro xs rfl
    exact ⟨rfl, _, _, rfl⟩
  · rintro xs rfl i ⟨k, a⟩ Γ o hx ⟨rfl, c1, c2, rfl⟩
    refine ⟨fun j hj => rfl, ?_⟩
    refine xb_ifR (b := false) (xt_eq (xt_not (xt_val (x_isC (tyL T a.mode) (r := true) (kitL T a.mode) (n_isinstance T) (g_Layer T) (x_asM (xv 2))))) rfl) (fun h => by cases h) fun _ => xb_nil ⟨rfl, _, _, rfl⟩
  · rintro xs rfl Γ o ⟨rfl, c1, c2, rfl⟩
    exact ⟨rfl, _, _, rfl⟩
  · rintro Γ o ⟨rfl, c1, c2, rfl⟩
    obtain ⟨t24, h24⟩ := i_MAX_LAYERS T
    refine xb_ifR (b := false) (xt_eq (xt_cmpD (f := fun a b => decide (b < a)) op_gt o2_B0 (x_lenU (n_len T) (xv 0)) (x_gint h24) trivial) (decide_eq_false (by show ¬ ((24 : Int) < ((l.length : Nat) : Int)); omega))) (fun h => by cases h) fun _ => xb_nil ⟨(), trivial, fun _ => rfl⟩
theorem c_Stack_init (T : Tx ex fn K mg) : FnR P w K mg base CX0 3 (aMet "Stack" "__init__" K) (spI (aGlo "Stack" K) (aS (sLy K)) (fun l => l.length ≤ 24) (sS K) (fun l r => r = l)) := by
  obtain ⟨fd, F⟩ := f_Stack___init__ T
  refine fn_initStar (n := 0) (Fin := fun l Φ => Φ = [(("laid" : PySem.Str), Ce (sU K (sLy K)) l)]) F sc_Stack___init__ rfl (fun cdv A outer s H E hr l hp x dx => ?_) (fun l H x dx fs Φ hf hx ho => ?_) (fun l h => Nat.le_trans h (by decide)) (fun _ _ _ _ _ _ _ => rfl) (fun _ _ _ _ _ _ _ _ _ => rfl)
  · refine xn_expr (x_callG (c_check_layers T) hr (g_check_layers T) (k_check_layers T) (xa (xv 1) xa0) fun _ e => by subst e; exact hp) ?_
    refine xn_set (xv 1) (ncs_laid T) (fun u hu => ?_) (c_Stack T).cl (a_Stack_laid T)
    subst hu
    exact xn_nil rfl
  · subst hf
    refine ⟨_, rfl, x, dx, ?_⟩
    cases ho with
    | cons h1 t =>
      cases t
      obtain ⟨v1, e1, q1⟩ := h1
      cases e1
      exact ⟨_, rfl, hx, q1⟩
theorem mk_S (T : Tx ex fn K mg) : Mk K (aGlo "Stack" K) (aMet "Stack" "__init__" K) := (c_Stack T).mkr
theorem c_S_layers (T : Tx ex fn K mg) : FnR P w K mg base CX0 1 (aRec "Stack" "layers" "property" K) (spD (aC (sS K) aN) (fun _ => True) (sU K (sLy K)) (fun a => a.1)) := by
  obtain ⟨fd, F⟩ := f_Stack_layers T
  refine fn_x F sc_Stack_layers (argC_cons argC_nil) (fun _ => rfl) (n := 0) (fun _ => rfl) (fun cdv A outer s H E hr ⟨a, _⟩ hp => ?_) (fun _ _ _ _ _ _ us hl => match us, hl with | [_], _ => rfl)
  exact xb_ret (ef (xe_eq (x_fld (fld_laid T) (xv 0)) rfl))
theorem c_S_add (T : Tx ex fn K mg) : FnR P w K mg base CX0 5 (aMet "Stack" "__add__" K) (spD (aC (sS K) (aC (sS K) aN)) (fun a => a.1.length + a.2.1.length ≤ 24) (sS K) (fun a => a.1 ++ a.2.1)) := by
  obtain ⟨fd, F⟩ := f_Stack___add__ T
  refine fn_x F sc_Stack___add__ (argC_cons (argC_cons argC_nil)) (fun _ => rfl) (n := 1) (fun _ => rfl) (fun cdv A outer s H E hr ⟨a, b, _⟩ hp => ?_) (fun _ _ _ _ _ _ us hl => match us, hl with | [_, _], _ => rfl)
  have hp : a.length + b.length ≤ 24 := hp
  refine xb_set (s := sU K (sLy K)) (a := a ++ b) 2 sc_Stack___add__.nd (xe_eq (x_opD (f := fun a b => a ++ b) op_catA o2_catU (x_fld (fld_laid T) (xv 0)) (x_fld (fld_laid T) (xv 1)) (by show a.length + b.length ≤ 16777216; omega)) rfl) ?_
  refine xb_ret (ef (xe_imp (x_makeSU (mk_S T) (c_Stack_init T) hr (g_Stack T) (xv 2) fun _ e => by subst e; show (a ++ b).length ≤ 24; rw [List.length_append]; exact hp) fun u h => ?_))
  obtain ⟨_, rfl, h⟩ := h
  exact h
end
end PC
set_option Elab.async false
set_option linter.all false
set_option maxRecDepth 100000
set_option maxHeartbeats 4000000
namespace PC
open PySem PySem.Spec
open PyProof.Rows hiding St
open L2 PL TX PM
/-! ### what stacks show: the code -/
theorem StOk.take {n : Nat} {as : List Lay} (h : StOk n as) (i : Nat) : StOk n (as.take i) := by
  refine ⟨fun a ha => h.lk a (List.mem_of_mem_take ha), ?_, ?_⟩
  · rw [List.length_take]
    have := h.len
    omega
  · refine Nat.lt_of_le_of_lt ?_ h.pd
    conv => rhs; rw [← List.take_append_drop i as, prodD_app]
    exact Nat.le_mul_of_pos_right _ prodD_pos
theorem StOk.mono {n m : Nat} {as : List Lay} (h : StOk n as) (hm : n ≤ m) : StOk m as := ⟨h.lk, h.len, Nat.lt_of_lt_of_le h.pd (Nat.pow_le_pow_right (by decide) hm)⟩
theorem StOk.pts {n : Nat} {as : List Lay} (h : StOk n as) : Pts as (ptsOf as) := pts_of h.lk
theorem StOk.good {n : Nat} {as : List Lay} (h : StOk n as) : Good (ptsOf as) n := h.pts.good h.lk h.pd (Nat.le_trans h.len (by decide))
/-- the points ahead of a layer -/
def midP' (l : List Pt) (a : Lay) : List Pt := if a.mode.bends = true then withBend l a.tint else l
theorem mid_ok {n : Nat} {as : List Lay} {a : Lay} (h : StOk n as) (ha : LayOk n a) : (∀ q ∈ midP' (ptsOf as) a, Bd n q.2) ∧ (midP' (ptsOf as) a).length ≤ 1000 := by
  have g := h.good
  have hl := h.pts.len
  have h24 := h.len
  unfold midP'
  split
  · obtain ⟨p, t, e, _⟩ := h.pts.hd
    have gr := h.pts.gr
    rw [e] at g hl gr ⊢
    obtain ⟨_, _, _, b4, _, b5⟩ := gr_bend (c := a.tint) gr rfl
    rw [List.length_cons] at hl
    refine ⟨fun q hq => ?_, ?_⟩
    · rcases List.mem_cons.mp hq with e | hq
      · rw [e]
        exact (g.pts p List.mem_cons_self).2
      · rcases b5 q hq with k | k
        · exact (g.pts q (List.mem_cons_of_mem _ k)).2
        · rw [k.1]
          exact ha.bt
    · show (bendGo a.tint p t).length + 1 ≤ 1000
      omega
  · exact ⟨fun q hq => (g.pts q hq).2, by omega⟩
theorem bends_in (m : Mode) : decide (m.str ∈ (["darken", "lighten"] : List PySem.Str)) = m.bends := by cases m <;> decide
section
variable {X : Cx} {Γ : List Cell} {e : Expr} {a : Rat}
theorem x_someF (h : XE X e Γ (sF X.K) (· = a)) : XE X e Γ (sOpt (sF X.K)) (· = some a) := xe_sh h fun b hb => ⟨some a, rfl, fun H v hv => by
  rw [hb] at hv
  obtain ⟨p, dx, e1, _⟩ := id hv
  exact ⟨(by rw [e1]; intro z; cases z), hv⟩⟩
end
section
variable {P : Program} {w : World} {K : Fg} {mg : PySem.Str → Option Value} {base : Heap}
def PrPt (as : List Lay) : Prop := ∃ n, StOk n as ∧ 10 * n + 40 ≤ 9000
theorem c_points_through (T : Tx ex fn K mg) : FnR P w K mg base CX0 8 (aGlo "points_through" K) (spD (aC (sU K (sLy K)) aN) (fun a => PrPt a.1) (sL K (sPt K)) (fun a => ptsOf a.1)) := by
  obtain ⟨fd, F⟩ := f_points_through T
  refine fn_x F sc_points_through (argC_cons argC_nil) (fun _ => rfl) (n := 4) (fun _ => rfl) (fun cdv A outer s H E hr ⟨as, _⟩ hp => ?_) (fun _ _ _ _ _ _ us hl => match us, hl with | [_], _ => rfl)
  obtain ⟨n, ok, hn⟩ := hp
  have ok : StOk n as := ok
  have h4 : Room 4 _ := hr.mono (by decide)
  refine xb_set (s := sL K (sPt K)) (a := [((0 : Rat), (0 : Rat)), (1, 1)]) 1 sc_points_through.nd (x_lst (xs (x_tup2D (a := (0 : Rat)) (b := (0 : Rat)) (xe_eq (x_F1 T h4 x_int) rfl) (xe_eq (x_F1 T h4 x_int) rfl)) (xs (x_tup2D (a := (1 : Rat)) (b := (1 : Rat)) (xe_eq (x_F1 T h4 x_int) rfl) (xe_eq (x_F1 T h4 x_int) rfl)) xs_nil)) (by show 2 ≤ 16777216; decide)) ?_
  refine xb_for (Pl := fun xs => xs = as) (vs := [2]) (gt := gName 2) (I := fun xs i Γ o => o = .no ∧ ∃ c2, Γ = [Ce (sU K (sLy K)) as, Ce (sL K (sPt K)) (ptsOf (as.take i)), c2, .no, .no])
    (N := fun Γ o => o = .no ∧ ∃ c2, Γ = [Ce (sU K (sLy K)) as, Ce (sL K (sPt K)) (ptsOf as), c2, .no, .no])
    PassesOwn.never rfl (ei (xi_tup (P := (· = as)) (xv 0))) (pg_name sc_points_through.nd rfl (Or.inr rfl)) (tgt_name 2) ?_ ?_ ?_ ?_
  · rintro xs rfl
    exact ⟨rfl, _, rfl⟩
  · rintro xs rfl i a Γ o hx ⟨rfl, c2, rfl⟩
    refine ⟨fun j hj => rfl, ?_⟩
    have hmem : a ∈ xs := List.mem_of_getElem? hx
    have la := ok.lay hmem
    have okp := ok.take i
    have g := okp.good
    obtain ⟨m1, m2⟩ := mid_ok okp la
    have e1 : ptsOf (xs.take (i + 1)) = (midP' (ptsOf (xs.take i)) a).map fun p => (p.1, seen a p.2) := by
      rw [take_snoc hx, ptsOf_snoc]
      rfl
    rw [e1]
    refine xb_ifP (Pc := fun c => c = a.mode.bends) (fun Γ' o' => o' = .no ∧ Γ' = [Ce (sU K (sLy K)) xs, Ce (sL K (sPt K)) (midP' (ptsOf (xs.take i)) a), Ce (sLy K) a, .no, .no]) (et (xt_eq (xt_cmpD (f := fun a b => decide (a ∈ b)) op_in_seq o2_inT (x_mdS (x_mode T (xv 2))) (x_gtup (gt_BENDING T) (t_BENDING T)) trivial) (bends_in a.mode))) (fun h => ?_) (fun h => ?_) ?_
    · have h : a.mode.bends = true := h.symm
      have e2 : midP' (ptsOf (xs.take i)) a = bendL (ptsOf (xs.take i)) a.tint := by rw [bendL_eq]; exact if_pos h
      refine xb_set (s := sL K (sPt K)) (a := midP' (ptsOf (xs.take i)) a) 1 sc_points_through.nd (xe_eq (x_call (c_with_bend T) (hr.mono (by decide)) (g_with_bend T) (k_with_bend T) (xa (xv 1) (xa (x_tint T (xv 2)) xa0)) ⟨fun z => by have z : ptsOf (xs.take i) = [] := z; have := g.two; rw [z] at this; exact absurd this (by decide), g.len, g.inc, n, g.pts, la.bt, by omega⟩) e2.symm) ?_
      exact xb_nil ⟨rfl, rfl⟩
    · have h : a.mode.bends = false := h.symm
      have e2 : midP' (ptsOf (xs.take i)) a = ptsOf (xs.take i) := if_neg (by rw [h]; decide)
      rw [e2]
      exact xb_nil ⟨rfl, rfl⟩
    · rintro Γ' o' ⟨rfl, rfl⟩
      generalize midP' (ptsOf (xs.take i)) a = mid at m1 m2 ⊢
      refine xb_setMapP (s := sPt K) 1 3 4 (f := fun p : Pt => (p.1, seen a p.2)) sc_points_through.nd (xi_list (xv 1)) (blkOk_by (own := [("x", 3), ("value", 4)]) (N := N_points_through) (sc := defScope s_points_through) (by decide +kernel)) (fun p hpp s' H C cl fp => ?_) (Nat.le_trans m2 (by decide)) (fun _ _ _ _ _ => pg_tup rfl (pgs_cons (pg_name sc_points_through.nd rfl (Or.inl rfl)) (pgs_cons (pg_name sc_points_through.nd rfl (Or.inl rfl)) pgs_nil))) ?_
      · exact x_tup2D (a := p.1) (b := seen a p.2) (xv 3) (xe_eq (x_call (c_seen_over T) hr (g_seen_over T) (k_seen_over T) (xa (xv 2) (xa (xv 4) xa0)) ⟨n, n, la.bt, la.bc, m1 p hpp, by omega⟩) rfl)
      · exact xb_nil ⟨rfl, _, rfl⟩
  · rintro xs rfl Γ o ⟨rfl, c2, rfl⟩
    refine ⟨rfl, c2, ?_⟩
    rw [List.take_length]
  · rintro Γ o ⟨rfl, c2, rfl⟩
    exact xb_ret (ef (xe_eq (xv 1) rfl))
end
end PC
set_option Elab.async false
set_option linter.all false
set_option maxRecDepth 100000
set_option maxHeartbeats 4000000
namespace PC
open PySem PySem.Spec
open PyProof.Rows hiding St
open L2 PL TX PM
section
variable {P : Program} {w : World} {K : Fg} {mg : PySem.Str → Option Value} {base : Heap}
/-- what value_through needs -/
def PrVt (as : List Lay) (x : Rat) : Prop := ∃ n m W, StOk n as ∧ 0 ≤ x ∧ x ≤ 1 ∧ 0 < W ∧ W < 2 ^ m ∧ x.den ∣ W ∧ 7 * n + 3 * m + 10 ≤ 9000
theorem thru_bd {n m W : Nat} {as : List Lay} {x : Rat} (h : StOk n as) (h0 : 0 ≤ x) (h1 : x ≤ 1) (hW : 0 < W) (hm : W < 2 ^ m) (hd : x.den ∣ W) : Bd (n + m) (thru as x) := by
  obtain ⟨b0, b1⟩ := thru_in h.lk ⟨h0, h1⟩
  refine bd_grid b0 b1 (Nat.mul_pos hW prodD_pos) ?_ (thru_grid hW hd)
  rw [Nat.pow_add, Nat.mul_comm]
  exact Nat.mul_lt_mul'' h.pd hm
theorem c_value_through (T : Tx ex fn K mg) : FnR P w K mg base CX0 8 (aGlo "value_through" K) (spD (aC (sU K (sLy K)) (aC (sF K) aN)) (fun a => PrVt a.1 a.2.1) (sF K) (fun a => thru a.1 a.2.1)) := by
  obtain ⟨fd, F⟩ := f_value_through T
  refine fn_x F sc_value_through (argC_cons (argC_cons argC_nil)) (fun _ => rfl) (n := 1) (fun _ => rfl) (fun cdv A outer s H E hr ⟨as, x, _⟩ hp => ?_) (fun _ _ _ _ _ _ us hl => match us, hl with | [_, _], _ => rfl)
  obtain ⟨n, m, W, ok, h0, h1, hW, hm, hd, hn⟩ := hp
  have ok : StOk n as := ok
  have h0 : 0 ≤ x := h0
  have h1 : x ≤ 1 := h1
  have hd : x.den ∣ W := hd
  refine xb_for (Pl := fun xs => xs = as) (vs := [2]) (gt := gName 2) (I := fun xs i Γ o => o = .no ∧ ∃ c2, Γ = [Ce (sU K (sLy K)) as, Ce (sF K) (thru (as.take i) x), c2])
    (N := fun Γ o => o = .no ∧ ∃ c2, Γ = [Ce (sU K (sLy K)) as, Ce (sF K) (thru as x), c2])
    PassesOwn.never rfl (ei (xi_tup (P := (· = as)) (xv 0))) (pg_name sc_value_through.nd rfl (Or.inl rfl)) (tgt_name 2) ?_ ?_ ?_ ?_
  · rintro xs rfl
    exact ⟨rfl, _, rfl⟩
  · rintro xs rfl i a Γ o hx ⟨rfl, c2, rfl⟩
    refine ⟨fun j hj => rfl, ?_⟩
    have la := ok.lay (List.mem_of_getElem? hx)
    have bx := thru_bd (ok.take i) h0 h1 hW hm hd
    have e1 : thru (xs.take (i + 1)) x = seen a (thru (xs.take i) x) := by rw [take_snoc hx, thru_snoc]
    refine xb_set (s := sF K) (a := thru (xs.take (i + 1)) x) 1 sc_value_through.nd (xe_eq (x_call (c_seen_over T) hr (g_seen_over T) (k_seen_over T) (xa (xv 2) (xa (xv 1) xa0)) ⟨n, n + m, la.bt, la.bc, bx, by omega⟩) e1.symm) ?_
    exact xb_nil ⟨rfl, _, rfl⟩
  · rintro xs rfl Γ o ⟨rfl, c2, rfl⟩
    refine ⟨rfl, c2, ?_⟩
    rw [List.take_length]
  · rintro Γ o ⟨rfl, c2, rfl⟩
    exact xb_ret (ef (xe_eq (xv 1) rfl))
theorem c_S_call (T : Tx ex fn K mg) : FnR P w K mg base CX0 9 (aMet "Stack" "__call__" K) (spD (aC (sS K) (aC (sF K) aN)) (fun a => PrVt a.1 a.2.1) (sF K) (fun a => thru a.1 a.2.1)) := by
  obtain ⟨fd, F⟩ := f_Stack___call__ T
  refine fn_x F sc_Stack___call__ (argC_cons (argC_cons argC_nil)) (fun _ => rfl) (n := 0) (fun _ => rfl) (fun cdv A outer s H E hr ⟨as, x, _⟩ hp => ?_) (fun _ _ _ _ _ _ us hl => match us, hl with | [_, _], _ => rfl)
  have hp : PrVt as x := hp
  have hv : isVal x = true := by
    obtain ⟨n, m, W, ok, h0, h1, _⟩ := hp
    exact decide_eq_true ⟨h0, h1⟩
  refine xb_expr (ef (x_callG (c_check_value T) (hr.mono (by decide)) (g_check_value T) (k_check_value T) (xa (xv 1) xa0) fun _ e => by subst e; exact hv)) ?_
  exact xb_ret (ef (xe_eq (x_call (c_value_through T) hr (g_value_through T) (k_value_through T) (xa (x_fld (fld_laid T) (xv 0)) (xa (xv 1) xa0)) hp) rfl))
theorem c_check_stack (T : Tx ex fn K mg) : FnR P w K mg base CX0 1 (aGlo "check_stack" K) (spG (aC (sS K) aN) (fun _ => True) sNon (fun _ _ => True)) := by
  obtain ⟨fd, F⟩ := f_check_stack T
  refine fn_x F sc_check_stack (argC_cons argC_nil) (fun _ => rfl) (n := 0) (fun _ => rfl) (fun cdv A outer s H E hr ⟨as, _⟩ hp => ?_) (fun _ _ _ _ _ _ us hl => match us, hl with | [_], _ => rfl)
  exact xb_ifR (b := false) (xt_eq (xt_not (xt_val (x_isC (ty_S T) (r := true) (c_Stack T).ii (n_isinstance T) (g_Stack T) (xv 0)))) rfl) (fun h => by cases h) fun _ => xb_nil ⟨(), trivial, fun _ => rfl⟩
def PrDf (a : List Lay × List Lay × Unit) : Prop := ∃ n, StOk n a.1 ∧ StOk n a.2.1 ∧ 10 * n + 40 ≤ 9000
theorem pts_vt {n : Nat} {as bs : List Lay} (ha : StOk n as) (hb : StOk n bs) (hn : 10 * n + 40 ≤ 9000) {p : Pt} (hp : p ∈ ptsOf as) : PrVt bs p.1 := by
  obtain ⟨b0, b1, W, w0, w1, w2⟩ := ha.pts.gx p hp
  exact ⟨n, n, W, hb, b0, b1, w0, Nat.lt_of_le_of_lt w1 ha.pd, w2, by omega⟩
theorem c_difference (T : Tx ex fn K mg) : FnR P w K mg base CX0 9 (aGlo "difference" K) (spD (aC (sS K) (aC (sS K) aN)) PrDf (sOpt (sF K)) (fun a => diffOf a.1 a.2.1)) := by
  obtain ⟨fd, F⟩ := f_difference T
  refine fn_x F sc_difference (argC_cons (argC_cons argC_nil)) (fun _ => rfl) (n := 2) (fun _ => rfl) (fun cdv A outer s H E hr ⟨as, bs, _⟩ hp => ?_) (fun _ _ _ _ _ _ us hl => match us, hl with | [_, _], _ => rfl)
  obtain ⟨n, oa, ob, hn⟩ := hp
  have oa : StOk n as := oa
  have ob : StOk n bs := ob
  have h1 : Room 1 _ := hr.mono (by decide)
  have h2 : Room 2 _ := hr.mono (by decide)
  refine xb_expr (ef (x_callG (c_check_stack T) h1 (g_check_stack T) (k_check_stack T) (xa (xv 0) xa0) fun _ _ => trivial)) ?_
  refine xb_expr (ef (x_callG (c_check_stack T) h1 (g_check_stack T) (k_check_stack T) (xa (xv 1) xa0) fun _ _ => trivial)) ?_
  have hla := oa.pts.len
  have hlb := ob.pts.len
  have hla2 := oa.len
  have hlb2 := ob.len
  refine xb_for (Pl := fun xs => xs = ptsOf as ++ ptsOf bs) (vs := [2, 3]) (gt := gTup K 2 (gCons (gName 2) (gCons (gName 3) gNil))) (I := fun xs i Γ o => o = .no ∧ (∀ p ∈ (ptsOf as ++ ptsOf bs).take i, thru as p.1 = thru bs p.1) ∧ ∃ c2 c3, Γ = [Ce (sS K) as, Ce (sS K) bs, c2, c3])
    (N := fun Γ o => o = .no ∧ (∀ p ∈ ptsOf as ++ ptsOf bs, thru as p.1 = thru bs p.1) ∧ ∃ c2 c3, Γ = [Ce (sS K) as, Ce (sS K) bs, c2, c3])
    PassesOwn.never rfl (ei (xi_list (P := (· = ptsOf as ++ ptsOf bs)) (xe_eq (x_opD (a := ptsOf as) (b := ptsOf bs) (f := fun a b => a ++ b) op_cat o2_cat (xe_eq (x_call (c_points_through T) (hr) (g_points_through T) (k_points_through T) (xa (x_fld (fld_laid T) (xv 0)) xa0) ⟨n, oa, hn⟩) rfl) (xe_eq (x_call (c_points_through T) (hr) (g_points_through T) (k_points_through T) (xa (x_fld (fld_laid T) (xv 1)) xa0) ⟨n, ob, hn⟩) rfl) (by show (ptsOf as).length + (ptsOf bs).length ≤ 16777216; omega)) rfl))) (pg_tup rfl (pgs_cons (pg_name sc_difference.nd rfl (Or.inl rfl)) (pgs_cons (pg_name sc_difference.nd rfl (Or.inl rfl)) pgs_nil))) (tgt_pair 2 3) ?_ ?_ ?_ ?_
  · rintro xs rfl
    exact ⟨rfl, (fun p hp => by cases hp), _, _, rfl⟩
  · rintro xs rfl i p Γ o hx ⟨rfl, hall, c2, c3, rfl⟩
    refine ⟨fun j hj => rfl, ?_⟩
    have hmem : p ∈ ptsOf as ++ ptsOf bs := List.mem_of_getElem? hx
    have va : PrVt as p.1 := (List.mem_append.mp hmem).elim (fun k => pts_vt oa oa hn k) (fun k => pts_vt ob oa hn k)
    have vb : PrVt bs p.1 := (List.mem_append.mp hmem).elim (fun k => pts_vt oa ob hn k) (fun k => pts_vt ob ob hn k)
    refine xb_ifR (xt_neF T h2 (x_call (c_value_through T) hr (g_value_through T) (k_value_through T) (xa (x_fld (fld_laid T) (xv 0)) (xa (xv 2) xa0)) va) (x_call (c_value_through T) hr (g_value_through T) (k_value_through T) (xa (x_fld (fld_laid T) (xv 1)) (xa (xv 2) xa0)) vb)) (fun h => ?_) fun h => ?_
    · have h : (!decide (thru as p.1 = thru bs p.1)) = true := h
      refine xb_ret (ef (xe_eq (x_someF (xv 2)) ?_))
      show some p.1 = diffOf as bs
      have e := List.take_append_drop i (ptsOf as ++ ptsOf bs)
      have e2 : (ptsOf as ++ ptsOf bs).drop i = p :: (ptsOf as ++ ptsOf bs).drop (i + 1) := by
        obtain ⟨hi, hx⟩ := List.getElem?_eq_some_iff.mp hx
        rw [List.drop_eq_getElem_cons hi, hx]
      unfold diffOf
      rw [← e, e2, List.map_append, List.find?_append]
      have e3 : (List.map Prod.fst (List.take i (ptsOf as ++ ptsOf bs))).find? (fun x => !decide (thru as x = thru bs x)) = none := List.find?_eq_none.mpr fun x hx => by
        obtain ⟨q, hq, rfl⟩ := List.mem_map.mp hx
        rw [hall q hq]
        simp
      rw [e3, List.map_cons, List.find?_cons, h]
      rfl
    · have h : (!decide (thru as p.1 = thru bs p.1)) = false := h
      have h : thru as p.1 = thru bs p.1 := by simpa using h
      refine xb_nil ⟨rfl, fun q hq => ?_, _, _, rfl⟩
      rw [take_snoc hx] at hq
      rcases List.mem_append.mp hq with k | k
      · exact hall q k
      · rw [List.mem_singleton.mp k]
        exact h
  · rintro xs rfl Γ o ⟨rfl, hall, c2, c3, rfl⟩
    rw [List.take_length] at hall
    exact ⟨rfl, hall, _, _, rfl⟩
  · rintro Γ o ⟨rfl, hall, c2, c3, rfl⟩
    refine xb_ret (ef (xe_eq x_noneO ?_))
    show none = diffOf as bs
    refine (List.find?_eq_none.mpr fun x hx => ?_).symm
    obtain ⟨q, hq, rfl⟩ := List.mem_map.mp hx
    rw [hall q hq]
    simp
theorem c_looks_same (T : Tx ex fn K mg) : FnR P w K mg base CX0 10 (aGlo "looks_same" K) (spD (aC (sS K) (aC (sS K) aN)) PrDf sBl (fun a => (diffOf a.1 a.2.1).isNone)) := by
  obtain ⟨fd, F⟩ := f_looks_same T
  refine fn_x F sc_looks_same (argC_cons (argC_cons argC_nil)) (fun _ => rfl) (n := 0) (fun _ => rfl) (fun cdv A outer s H E hr ⟨as, bs, _⟩ hp => ?_) (fun _ _ _ _ _ _ us hl => match us, hl with | [_, _], _ => rfl)
  exact xb_ret (ef (xe_eq (x_cmpD (b := ()) (f := fun (a : Option Rat) (b : Unit) => a.isNone) op_isN o2_isN (x_call (c_difference T) hr (g_difference T) (k_difference T) (xa (xv 0) (xa (xv 1) xa0)) hp) (xe_imp x_non fun _ _ => rfl) trivial) rfl))
end
end PC
set_option Elab.async false
set_option linter.all false
set_option maxRecDepth 100000
set_option maxHeartbeats 4000000
namespace PC
open PySem PySem.Spec
open PyProof.Rows hiding St
open L2 PL TX PM
/-! ### layers as triples -/
def sSh (K : Fg) : Sh Lay := fun H v a => sT K sMd (sQ K) (sQ K) H v (a.mode, a.tint, a.cover)
instance {K : Fg} : Mo (sSh K) := ⟨fun e h => Mo.up (s := sT K sMd (sQ K) (sQ K)) e h⟩
instance {K : Fg} : Lf (sSh K) := ⟨fun e h => Lf.lf (s := sT K sMd (sQ K) (sQ K)) e h⟩
section
variable {X : Cx} {Γ : List Cell} {e : Expr} {a : Lay} {m : Mode} {t c : Rat}
theorem x_shT (h : XE X e Γ (sSh X.K) (· = a)) : XE X e Γ (sT X.K sMd (sQ X.K) (sQ X.K)) (· = (a.mode, a.tint, a.cover)) := xe_sh h fun b hb => ⟨_, rfl, fun H v hv => by rw [hb] at hv; exact hv⟩
theorem x_ofSh {P : Mode × Rat × Rat → Prop} (h : XE X e Γ (sT X.K sMd (sQ X.K) (sQ X.K)) P) : XE X e Γ (sSh X.K) (fun a => P (a.mode, a.tint, a.cover)) := xe_sh h fun b hb => ⟨⟨b.1, b.2.1, b.2.2⟩, hb, fun H v hv => hv⟩
end
theorem decM {m n : Mode} {y : PySem.Str} (hy : y = n.str) : decide (m.str = y) = decide (m = n) := by rw [hy, decide_eq_decide]; exact str_inj
section
variable {X : Cx} {Γ : List Cell} {e : Expr} {m : Mode} {p2 pos : Pos} {y : PySem.Str} {k : Nat}
/-- mode == ".." -/
theorem xt_isM (n : Mode) (h : XE X e Γ sMd (· = m)) (hy : y = n.str) : XT X (.Compare e [.Eq] [.Constant (.str y) k p2] pos) Γ (· = decide (m = n)) := xt_eq (xt_cmpD (f := fun a b => decide (a = b)) op_eq o2_eqS (x_mdS h) x_str trivial) (decM hy)
end
section
variable {P : Program} {w : World} {K : Fg} {mg : PySem.Str → Option Value} {base : Heap}
theorem c_mode (T : Tx ex fn K mg) : FnR P w K mg base CX0 2 (aGlo "_law_mode" K) (spG (aC (sBox okPool) aN) (fun _ => True) sMd (fun _ _ => True)) := by
  obtain ⟨fd, F⟩ := f__law_mode T
  refine fn_x F sc__law_mode (argC_cons argC_nil) (fun _ => rfl) (n := 0) (fun _ => rfl) (fun cdv A outer s H E hr ⟨_, _⟩ hp => ?_) (fun _ _ _ _ _ _ us hl => match us, hl with | [_], _ => rfl)
  refine xb_ret (ef (x_ixLG (R := fun _ => True) (Pl := (· = [Mode.normal, .darken, .lighten, .multiply, .screen])) (x_lst (xs (x_mdOf x_str rfl) (xs (x_mdOf x_str rfl) (xs (x_mdOf x_str rfl) (xs (x_mdOf x_str rfl) (xs (x_mdOf x_str rfl) xs_nil))))) (by show 5 ≤ 16777216; decide)) (x_callP (c_draw T) hr (g__law_draw T) (k__law_draw T) (xa (xv 0) (xa x_int xa0)) ⟨by show (0 : Int) < 5; decide, Nat.lt_of_lt_of_le (show (5 : Int).natAbs < 2 ^ 60 by decide) (Nat.pow_le_pow_right (by decide) (by decide))⟩) ?_))
  rintro as i rfl ⟨h0, h5⟩
  have h0 : 0 ≤ i := h0
  have h5 : i < 5 := h5
  have hi : i = 0 ∨ i = 1 ∨ i = 2 ∨ i = 3 ∨ i = 4 := by omega
  rcases hi with z | z | z | z | z <;> subst z <;> exact ⟨_, rfl, trivial⟩
end
end PC
set_option Elab.async false
set_option linter.all false
set_option maxRecDepth 100000
set_option maxHeartbeats 4000000
namespace PC
open PySem PySem.Spec
open PyProof.Rows hiding St
open L2 PL TX PM
/-! ### layers and stacks of triples -/
section
variable {P : Program} {w : World} {K : Fg} {mg : PySem.Str → Option Value} {base : Heap}
def PrLa (a : Lay) : Prop := ∃ k, LayOk k a ∧ k + 10 ≤ 9000
theorem c_layer (T : Tx ex fn K mg) : FnR P w K mg base CX0 8 (aGlo "_law_layer" K) (spD (aC (sSh K) aN) (fun a => PrLa a.1) (sLy K) (fun a => a.1)) := by
  obtain ⟨fd, F⟩ := f__law_layer T
  refine fn_x F sc__law_layer (argC_cons argC_nil) (fun _ => rfl) (n := 2) (fun _ => rfl) (fun cdv A outer s H E hr ⟨⟨m, t, c⟩, _⟩ hp => ?_) (fun _ _ _ _ _ _ us hl => match us, hl with | [_], _ => rfl)
  obtain ⟨k, L, hk⟩ := hp
  have L : LayOk k ⟨m, t, c⟩ := L
  have bt : Bd k t := L.bt
  have bc : Bd k c := L.bc
  have nd := sc__law_layer.nd
  have h4 : Room 4 _ := hr.mono (by decide)
  have dn : ∀ {q : Rat}, Bd k q → ((q.den : Nat) : Int).natAbs < 2 ^ 9000 := fun {q} h => Nat.lt_of_lt_of_le h.2 (Nat.pow_le_pow_right (by decide) (by omega))
  refine xb_par2 (s := sF K) (t := sF K) (a := t) (b := c) 1 2 rfl nd (xe_eq (x_F2 T h4 (x_p0 (x_ofQ (x_t1 (x_shT (a := ⟨m, t, c⟩) (xv 0))))) (x_p1 (x_ofQ (x_t1 (x_shT (a := ⟨m, t, c⟩) (xv 0))))) (PM.den_pos t) (dn bt)) (Rat.num_divInt_den t)) (xe_eq (x_F2 T h4 (x_p0 (x_ofQ (x_t2 (x_shT (a := ⟨m, t, c⟩) (xv 0))))) (x_p1 (x_ofQ (x_t2 (x_shT (a := ⟨m, t, c⟩) (xv 0))))) (PM.den_pos c) (dn bc)) (Rat.num_divInt_den c)) ?_
  have mk : ∀ n : Mode, n = m → ∃ k, LayOk k ⟨n, t, c⟩ ∧ k + 10 ≤ 9000 := fun n e => by rw [e]; exact ⟨k, L, hk⟩
  refine xb_ifR (xt_isM .normal (x_t0 (x_shT (a := ⟨m, t, c⟩) (xv 0))) rfl) (fun h => ?_) fun h1 => ?_
  · have h : m = .normal := of_decide_eq_true h
    exact xb_ret (ef (xe_eq (x_lay T .normal (g_Normal T) hr (xv 1) (xv 2) (mk _ h.symm)) (by rw [h])))
  refine xb_ifR (xt_isM .darken (x_t0 (x_shT (a := ⟨m, t, c⟩) (xv 0))) rfl) (fun h => ?_) fun h2 => ?_
  · have h : m = .darken := of_decide_eq_true h
    exact xb_ret (ef (xe_eq (x_lay T .darken (g_Darken T) hr (xv 1) (xv 2) (mk _ h.symm)) (by rw [h])))
  refine xb_ifR (xt_isM .lighten (x_t0 (x_shT (a := ⟨m, t, c⟩) (xv 0))) rfl) (fun h => ?_) fun h3 => ?_
  · have h : m = .lighten := of_decide_eq_true h
    exact xb_ret (ef (xe_eq (x_lay T .lighten (g_Lighten T) hr (xv 1) (xv 2) (mk _ h.symm)) (by rw [h])))
  refine xb_ret (ef (x_ifE (Pc := fun b => b = decide (m = .multiply)) (xt_isM .multiply (x_t0 (x_shT (a := ⟨m, t, c⟩) (xv 0))) rfl) (fun h => ?_) fun h => ?_))
  · have h : m = .multiply := of_decide_eq_true h.symm
    exact xe_eq (x_lay T .multiply (g_Multiply T) hr (xv 1) (xv 2) (mk _ h.symm)) (by rw [h])
  · have h : ¬ m = .multiply := of_decide_eq_false h.symm
    have h1 : ¬ m = .normal := of_decide_eq_false h1
    have h2 : ¬ m = .darken := of_decide_eq_false h2
    have h3 : ¬ m = .lighten := of_decide_eq_false h3
    have hs : m = .screen := by cases m <;> first | rfl | contradiction
    exact xe_eq (x_lay T .screen (g_Screen T) hr (xv 1) (xv 2) (mk _ hs.symm)) (by rw [hs])
end
end PC
set_option Elab.async false
set_option linter.all false
set_option maxRecDepth 100000
set_option maxHeartbeats 4000000
namespace PC
open PySem PySem.Spec
open PyProof.Rows hiding St
open L2 PL TX PM
/-! ### stacks in use -/
theorem LayOk.mono {k m : Nat} {a : Lay} (h : LayOk k a) (hm : k ≤ m) : LayOk m a := ⟨h.tint, h.cover, h.bt.mono hm, h.bc.mono hm⟩
section
variable {X : Cx} {Γ : List Cell} {e e1 e2 o : Expr} {pos p : Pos} {as : List Lay} {x : Rat} {l r : List Pt} (T : Tx ex fn X.K X.mg)
include T
theorem x_atS (hr : Room 9 X.A) (h : XE X o Γ (sS X.K) (· = as)) (h2 : XE X e Γ (sF X.K) (· = x)) (hp : PrVt as x)
    (ht : eval (.Call o [e] [] pos) X.env = (do callWith pos (← eval o X.env) [] (backTo pos (starEach [e] X.env)) (backToKw pos (keywordEach [] X.env))) := by rfl)
    (hst : starEach [e] X.env = (false, eval e X.env) :: starEach [] X.env := by rfl) : XE X (.Call o [e] [] pos) Γ (sF X.K) (· = thru as x) :=
  xe_eq (x_callO ins_S (co_Stack T) (c_S_call T) hr h (xa h2 xa0 hst) hp ht hst rfl) rfl
end
end PC
set_option Elab.async false
set_option linter.all false
set_option maxRecDepth 100000
set_option maxHeartbeats 4000000
namespace PC
open PM PL
/-! ### layers that may be exchanged: the plain law -/
def bendsOf (a : Lay) : List Rat := if a.mode.bends = true then [a.tint] else []
def backAt (a : Lay) (v l r : Rat) : Rat := l + (v - seen a l) / (seen a r - seen a l) * (r - l)
def backGo (a : Lay) (v : Rat) : Rat → List Rat → Option Rat
  | _, [] => none
  | l, r :: t => if seen a l ≤ v ∧ v ≤ seen a r ∧ seen a l < seen a r then some (backAt a v l r) else backGo a v r t
def backThru (a : Lay) (v : Rat) : Option Rat := if v < seen a 0 ∨ seen a 1 < v then none else backGo a v 0 (bendsOf a ++ [1])
def cands (a b : Lay) : List Rat := [0, 1] ++ bendsOf a ++ bendsOf b ++ (bendsOf b).filterMap (backThru a) ++ (bendsOf a).filterMap (backThru b)
def unlikeOf (a b : Lay) : Option Rat := (cands a b).find? fun x => !decide (seen b (seen a x) = seen a (seen b x))
end PC
set_option Elab.async false
set_option linter.all false
set_option maxRecDepth 100000
set_option maxHeartbeats 4000000
namespace PC
open PM PL
end PC
set_option Elab.async false
set_option linter.all false
set_option maxRecDepth 100000
set_option maxHeartbeats 4000000
namespace PC
open PM PL
/-! ### trimmed stacks: the plain law -/
theorem rev_ind {α : Type} {p : List α → Prop} (h0 : p []) (h1 : ∀ r a, p r → p (r ++ [a])) (l : List α) : p l := by
  have key : ∀ m : List α, p m.reverse := by
    intro m
    induction m with
    | nil => exact h0
    | cons a t ih => rw [List.reverse_cons]; exact h1 _ _ ih
  have := key l.reverse
  rwa [List.reverse_reverse] at this
theorem nil_or_snoc {α : Type} (l : List α) : l = [] ∨ ∃ r b, l = r ++ [b] := by
  refine rev_ind (p := fun l => l = [] ∨ ∃ r b, l = r ++ [b]) (.inl rfl) (fun r a _ => .inr ⟨r, a, rfl⟩) l
def isPull : Mode → Bool
  | .normal => true
  | .darken => true
  | .lighten => true
  | _ => false
def joinOf (a b : Lay) : Option Lay := if a.mode ≠ b.mode ∨ isPull a.mode = false ∨ a.tint ≠ b.tint then none else some ⟨a.mode, a.tint, 1 - (1 - a.cover) * (1 - b.cover)⟩
def idleOn (a : Lay) (lo hi : Rat) : Bool := decide (seen a lo = lo) && decide (seen a hi = hi)
theorem idle_iff {a : Lay} {lo hi : Rat} : idleOn a lo hi = true ↔ seen a lo = lo ∧ seen a hi = hi := by simp [idleOn]
/-- when a pull keeps two values: whatever its opacity -/
def idleP (m : Mode) (t lo hi : Rat) : Prop := match m with
  | .darken => hi ≤ t
  | .lighten => t ≤ lo
  | _ => False
theorem idle_pull {m : Mode} {t c lo hi : Rat} (h : Lk ⟨m, t, c⟩) (hp : isPull m = true) (hlt : lo < hi) : idleOn ⟨m, t, c⟩ lo hi = true ↔ idleP m t lo hi := by
  rw [idle_iff]
  obtain ⟨⟨t0, t1⟩, c0, c1⟩ := h
  have c0 : 0 < c := c0
  have hcd := Rat.mul_pos c0 (show 0 < hi - lo by grind)
  cases m
  · show ((1 - c) * lo + c * t = lo ∧ (1 - c) * hi + c * t = hi) ↔ False
    grind
  · show ((1 - c) * lo + c * (if lo ≤ t then lo else t) = lo ∧ (1 - c) * hi + c * (if hi ≤ t then hi else t) = hi) ↔ hi ≤ t
    constructor
    · rintro ⟨_, e2⟩
      split at e2
      · assumption
      · have := Rat.mul_pos c0 (show 0 < hi - t by grind)
        grind
    · intro k
      rw [if_pos k, if_pos (by grind)]
      grind
  · show ((1 - c) * lo + c * (if t ≤ lo then lo else t) = lo ∧ (1 - c) * hi + c * (if t ≤ hi then hi else t) = hi) ↔ t ≤ lo
    constructor
    · rintro ⟨e1, _⟩
      split at e1
      · assumption
      · have := Rat.mul_pos c0 (show 0 < t - lo by grind)
        grind
    · intro k
      rw [if_pos k, if_pos (by grind)]
      grind
  · cases hp
  · cases hp
theorem join_some {a b c : Lay} (h : joinOf a b = some c) : a.mode = b.mode ∧ isPull a.mode = true ∧ a.tint = b.tint ∧ c = ⟨a.mode, a.tint, 1 - (1 - a.cover) * (1 - b.cover)⟩ := by
  unfold joinOf at h
  split at h
  · cases h
  · rename_i k
    simp only [not_or, Decidable.not_not, Bool.not_eq_false] at k
    exact ⟨k.1, k.2.1, k.2.2, (Option.some.inj h).symm⟩
theorem join_lk {a b c : Lay} (ha : Lk a) (hb : Lk b) (h : joinOf a b = some c) : Lk c := by
  obtain ⟨_, _, _, rfl⟩ := join_some h
  have g1 := Rat.mul_pos (show 0 < 1 - a.cover by have := ha.cover; grind) (show 0 < 1 - b.cover by have := hb.cover; grind)
  have g2 := Rat.mul_pos (show 0 < 1 - a.cover by have := ha.cover; grind) (show 0 < b.cover by have := hb.cover; grind)
  refine ⟨ha.tint, ?_⟩
  show 0 < 1 - (1 - a.cover) * (1 - b.cover) ∧ 1 - (1 - a.cover) * (1 - b.cover) < 1
  have := ha.cover
  grind
theorem join_seen {a b c : Lay} (ha : Lk a) (hb : Lk b) (h : joinOf a b = some c) (x : Rat) : seen c x = seen b (seen a x) := by
  obtain ⟨h1, h2, h3, rfl⟩ := join_some h
  obtain ⟨m, t, p⟩ := a
  obtain ⟨m', t', q⟩ := b
  have h1 : m = m' := h1
  have h3 : t = t' := h3
  subst h1 h3
  have p0 : 0 < p ∧ p < 1 := ha.cover
  cases m
  · show (1 - (1 - (1 - p) * (1 - q))) * x + (1 - (1 - p) * (1 - q)) * t = (1 - q) * ((1 - p) * x + p * t) + q * t
    grind
  · show (1 - (1 - (1 - p) * (1 - q))) * x + (1 - (1 - p) * (1 - q)) * (if x ≤ t then x else t) = (1 - q) * ((1 - p) * x + p * (if x ≤ t then x else t)) + q * (if (1 - p) * x + p * (if x ≤ t then x else t) ≤ t then (1 - p) * x + p * (if x ≤ t then x else t) else t)
    by_cases k : x ≤ t
    · rw [if_pos k, if_pos (by grind)]
      grind
    · rw [if_neg k, if_neg (by have := Rat.mul_pos (show 0 < 1 - p by grind) (show 0 < x - t by grind); grind)]
      grind
  · show (1 - (1 - (1 - p) * (1 - q))) * x + (1 - (1 - p) * (1 - q)) * (if t ≤ x then x else t) = (1 - q) * ((1 - p) * x + p * (if t ≤ x then x else t)) + q * (if t ≤ (1 - p) * x + p * (if t ≤ x then x else t) then (1 - p) * x + p * (if t ≤ x then x else t) else t)
    by_cases k : t ≤ x
    · rw [if_pos k, if_pos (by grind)]
      grind
    · rw [if_neg k, if_neg (by have := Rat.mul_pos (show 0 < 1 - p by grind) (show 0 < t - x by grind); grind)]
      grind
  · cases h2
  · cases h2
theorem join_idle {a b c : Lay} (ha : Lk a) (hb : Lk b) (h : joinOf a b = some c) {lo hi : Rat} (hlt : lo < hi) : idleOn c lo hi = idleOn a lo hi := by
  have lc := join_lk ha hb h
  obtain ⟨h1, h2, h3, rfl⟩ := join_some h
  rw [Bool.eq_iff_iff, idle_pull lc h2 hlt]
  exact (idle_pull (c := a.cover) ha h2 hlt).symm
/-! the idle layers -/
def dropI (lo hi : Rat) : List Lay → List Lay
  | [] => []
  | a :: t => (if idleOn a lo hi = true then [] else [a]) ++ dropI (seen a lo) (seen a hi) t
def idleIx (lo hi : Rat) : Nat → List Lay → List Int
  | _, [] => []
  | i, a :: t => (if idleOn a lo hi = true then [(i : Int)] else []) ++ idleIx (seen a lo) (seen a hi) (i + 1) t
def NonI (lo hi : Rat) : List Lay → Prop
  | [] => True
  | a :: t => idleOn a lo hi = false ∧ NonI (seen a lo) (seen a hi) t
theorem NonI.snoc {a : Lay} : ∀ {as : List Lay} {lo hi : Rat}, NonI lo hi (as ++ [a]) ↔ NonI lo hi as ∧ idleOn a (thru as lo) (thru as hi) = false
  | [], lo, hi => by
    show idleOn a lo hi = false ∧ True ↔ True ∧ idleOn a lo hi = false
    simp
  | b :: t, lo, hi => by
    show idleOn b lo hi = false ∧ NonI _ _ (t ++ [a]) ↔ (idleOn b lo hi = false ∧ NonI _ _ t) ∧ _
    rw [NonI.snoc, and_assoc]
    exact Iff.rfl
theorem NonI.none : ∀ {as : List Lay} {lo hi : Rat} {i : Nat}, NonI lo hi as → idleIx lo hi i as = [] ∧ dropI lo hi as = as
  | [], _, _, _, _ => ⟨rfl, rfl⟩
  | b :: t, lo, hi, i, ⟨h1, h2⟩ => by
    obtain ⟨g1, g2⟩ := NonI.none (i := i + 1) h2
    have n1 : ¬ idleOn b lo hi = true := by rw [h1]; decide
    refine ⟨?_, ?_⟩
    · show (if idleOn b lo hi = true then [(i : Int)] else []) ++ idleIx (seen b lo) (seen b hi) (i + 1) t = []
      rw [if_neg n1, g1]
      rfl
    · show (if idleOn b lo hi = true then [] else [b]) ++ dropI (seen b lo) (seen b hi) t = b :: t
      rw [if_neg n1, g2]
      rfl
/-! joining -/
def stepT (found : List Lay) (a : Lay) : List Lay := match found.getLast? with
  | none => found ++ [a]
  | some b => match joinOf b a with
    | some c => found.dropLast ++ [c]
    | none => found ++ [a]
theorem stepT_nil (a : Lay) : stepT [] a = [a] := rfl
theorem stepT_snoc (r : List Lay) (b a : Lay) : stepT (r ++ [b]) a = match joinOf b a with
    | some c => r ++ [c]
    | none => r ++ [b] ++ [a] := by
  unfold stepT
  rw [List.getLast?_concat, List.dropLast_concat]
def keepsOf (as : List Lay) : Rat := as.foldl (fun p a => p * (1 - a.cover)) 1
theorem keepsOf_snoc {as : List Lay} {a : Lay} : keepsOf (as ++ [a]) = keepsOf as * (1 - a.cover) := by
  unfold keepsOf
  rw [List.foldl_append]
  rfl
def NoJ (l : List Lay) : Prop := ∀ (i : Nat) (a b : Lay), l[i]? = some a → l[i + 1]? = some b → joinOf a b = none
theorem NoJ.init {r : List Lay} {b : Lay} (h : NoJ (r ++ [b])) : NoJ r := fun i x y h1 h2 => by
  have l2 := (List.getElem?_eq_some_iff.mp h2).1
  exact h i x y (by rw [List.getElem?_append_left (by omega)]; exact h1) (by rw [List.getElem?_append_left l2]; exact h2)
theorem NoJ.snoc {r : List Lay} {b a : Lay} (h : NoJ (r ++ [b])) (k : joinOf b a = none) : NoJ (r ++ [b] ++ [a]) := fun i x y h1 h2 => by
  by_cases hi : i + 1 < (r ++ [b]).length
  · rw [List.getElem?_append_left (by omega)] at h1
    rw [List.getElem?_append_left hi] at h2
    exact h i x y h1 h2
  · have l2 := (List.getElem?_eq_some_iff.mp h2).1
    simp only [List.length_append, List.length_cons, List.length_nil] at hi l2
    have e : i = r.length := by omega
    subst e
    simp at h1 h2
    rw [← h1, ← h2]
    exact k
/-- only mode and color matter -/
theorem join_left {a b c d : Lay} (h : joinOf b d = some c) : joinOf a c = none ↔ joinOf a b = none := by
  obtain ⟨h1, h2, h3, rfl⟩ := join_some h
  unfold joinOf
  show (if a.mode ≠ b.mode ∨ isPull a.mode = false ∨ a.tint ≠ b.tint then none else some (⟨a.mode, a.tint, _⟩ : Lay)) = none ↔ (if a.mode ≠ b.mode ∨ isPull a.mode = false ∨ a.tint ≠ b.tint then none else some (⟨a.mode, a.tint, _⟩ : Lay)) = none
  by_cases k : a.mode ≠ b.mode ∨ isPull a.mode = false ∨ a.tint ≠ b.tint
  · rw [if_pos k, if_pos k]
  · rw [if_neg k, if_neg k]
    constructor <;> intro z <;> cases z
theorem NoJ.join {r : List Lay} {b c d : Lay} (h : NoJ (r ++ [b])) (k : joinOf b d = some c) : NoJ (r ++ [c]) := fun i x y h1 h2 => by
  by_cases hi : i + 1 < r.length
  · rw [List.getElem?_append_left (by omega)] at h1
    rw [List.getElem?_append_left hi] at h2
    exact h.init i x y h1 h2
  · have l2 := (List.getElem?_eq_some_iff.mp h2).1
    simp only [List.length_append, List.length_cons, List.length_nil] at l2
    have e : i + 1 = r.length := by omega
    rw [List.getElem?_append_left (by omega)] at h1
    rw [e, List.getElem?_append_right (Nat.le_refl _), Nat.sub_self] at h2
    cases h2
    refine (join_left k).mpr (h i x b (by rw [List.getElem?_append_left (by omega)]; exact h1) ?_)
    rw [e, List.getElem?_append_right (Nat.le_refl _), Nat.sub_self]
    rfl
/-- what a step keeps -/
structure Trim (src found : List Lay) : Prop where
  lk : ∀ a ∈ found, Lk a
  eq : ∀ x, thru found x = thru src x
  non : NonI 0 1 found
  noj : NoJ found
  len : found.length ≤ src.length
  kp : keepsOf found = keepsOf src
  pd : prodD found ≤ prodD src
theorem den_mul (a b : Rat) : (a * b).den ∣ a.den * b.den := by
  refine grid_of (k := a.num * b.num) (Nat.mul_pos a.den_pos b.den_pos) ?_
  rw [Rat.natCast_mul, Rat.intCast_mul, ← num_eq a, ← num_eq b]
  grind
theorem den_one_sub (a : Rat) : (1 - a).den ∣ a.den := by
  refine grid_of (k := (a.den : Int) - a.num) a.den_pos ?_
  rw [Rat.intCast_sub, Rat.intCast_natCast, ← num_eq a]
  grind
theorem join_d {a b c : Lay} (h : joinOf a b = some c) : dOf c ≤ dOf a * dOf b := by
  obtain ⟨_, _, _, rfl⟩ := join_some h
  show a.tint.den * (1 - (1 - a.cover) * (1 - b.cover)).den ≤ a.tint.den * a.cover.den * (b.tint.den * b.cover.den)
  have g : (1 - (1 - a.cover) * (1 - b.cover)).den ∣ a.cover.den * b.cover.den := Nat.dvd_trans (den_one_sub _) (Nat.dvd_trans (den_mul _ _) (Nat.mul_dvd_mul (den_one_sub _) (den_one_sub _)))
  have g1 := Nat.le_of_dvd (Nat.mul_pos a.cover.den_pos b.cover.den_pos) g
  calc a.tint.den * (1 - (1 - a.cover) * (1 - b.cover)).den ≤ a.tint.den * (a.cover.den * b.cover.den) := Nat.mul_le_mul_left _ g1
    _ = a.tint.den * a.cover.den * (1 * b.cover.den) := by rw [Nat.one_mul, Nat.mul_assoc]
    _ ≤ _ := Nat.mul_le_mul_left _ (Nat.mul_le_mul_right _ b.tint.den_pos)
theorem Trim.nil : Trim [] [] := ⟨(fun a h => by cases h), fun _ => rfl, trivial, (fun i a b h => by cases h), Nat.le_refl _, rfl, Nat.le_refl _⟩
theorem Trim.step {src found : List Lay} {a : Lay} (h : Trim src found) (ha : Lk a) (hn : idleOn a (thru src 0) (thru src 1) = false) : Trim (src ++ [a]) (stepT found a) := by
  have h01 : (0 : Rat) < 1 := by decide
  rcases nil_or_snoc found with e | ⟨r, b, e⟩
  · subst e
    rw [stepT_nil]
    refine ⟨fun c hc => by rw [List.mem_singleton.mp hc]; exact ha, fun x => ?_, ⟨?_, trivial⟩, fun i x y h1 h2 => ?_, ?_, ?_, ?_⟩
    · rw [thru_snoc, ← h.eq x]; rfl
    · have e0 := h.eq 0
      have e1 := h.eq 1
      rw [← e0, ← e1] at hn
      exact hn
    · cases i <;> cases h2
    · rw [List.length_append]; show 1 ≤ _ + 1; omega
    · rw [keepsOf_snoc, ← h.kp]
      rfl
    · rw [prodD_snoc]
      show dOf a * 1 ≤ _
      rw [Nat.mul_one]
      exact Nat.le_mul_of_pos_left _ prodD_pos
  · subst e
    have lb := h.lk b (by simp)
    have lr : ∀ c ∈ r, Lk c := fun c hc => h.lk c (by simp [hc])
    obtain ⟨n1, n2⟩ := NonI.snoc.mp h.non
    rw [stepT_snoc]
    cases hj : joinOf b a with
    | none =>
      refine ⟨fun c hc => ?_, fun x => ?_, NonI.snoc.mpr ⟨h.non, by rw [h.eq, h.eq]; exact hn⟩, h.noj.snoc hj, ?_, ?_, ?_⟩
      · rcases List.mem_append.mp hc with q | q
        · exact h.lk c q
        · rw [List.mem_singleton.mp q]; exact ha
      · rw [thru_snoc (r ++ [b]) a x, h.eq x, thru_snoc src a x]
      · have := h.len
        simp only [List.length_append, List.length_cons, List.length_nil] at this ⊢
        omega
      · rw [keepsOf_snoc (as := r ++ [b]), h.kp, keepsOf_snoc]
      · rw [prodD_snoc, prodD_snoc (as := src)]
        exact Nat.mul_le_mul_right _ h.pd
    | some c =>
      have hlt := thru_lt lr h01
      refine ⟨fun d hd => ?_, fun x => ?_, NonI.snoc.mpr ⟨n1, by rw [join_idle lb ha hj hlt]; exact n2⟩, h.noj.join hj, ?_, ?_, ?_⟩
      · rcases List.mem_append.mp hd with q | q
        · exact lr d q
        · rw [List.mem_singleton.mp q]; exact join_lk lb ha hj
      · rw [thru_snoc, thru_snoc, join_seen lb ha hj, ← thru_snoc, h.eq]
      · have := h.len
        simp only [List.length_append, List.length_cons, List.length_nil] at this ⊢
        omega
      · rw [keepsOf_snoc, keepsOf_snoc, ← h.kp, keepsOf_snoc]
        obtain ⟨_, _, _, rfl⟩ := join_some hj
        show keepsOf r * (1 - (1 - (1 - b.cover) * (1 - a.cover))) = _
        grind
      · have hp := h.pd
        rw [prodD_snoc] at hp ⊢
        rw [prodD_snoc]
        calc prodD r * dOf c ≤ prodD r * (dOf b * dOf a) := Nat.mul_le_mul_left _ (join_d hj)
          _ = prodD r * dOf b * dOf a := (Nat.mul_assoc _ _ _).symm
          _ ≤ _ := Nat.mul_le_mul_right _ hp
def trimOf (as : List Lay) : List Lay := (dropI 0 1 as).foldl stepT []
/-- the laws of the trimmed stack -/
structure Trimmed (as ts : List Lay) : Prop where
  lk : ∀ a ∈ ts, Lk a
  eq : ∀ x, 0 ≤ x → x ≤ 1 → thru ts x = thru as x
  non : NonI 0 1 ts
  same : trimOf ts = ts
  len : ts.length + (idleIx 0 1 0 as).length ≤ as.length
  kp : keepsOf as ≤ keepsOf ts
  pd : prodD ts ≤ prodD as
/-! without one layer -/
theorem NonI.at_ : ∀ {ps : List Lay} {a : Lay} {qs : List Lay} {lo hi : Rat}, NonI lo hi (ps ++ [a] ++ qs) → idleOn a (thru ps lo) (thru ps hi) = false
  | [], a, qs, lo, hi, h => h.1
  | b :: t, a, qs, lo, hi, h => NonI.at_ (ps := t) h.2
end PC
set_option Elab.async false
set_option linter.all false
set_option maxRecDepth 100000
set_option maxHeartbeats 4000000
namespace PC
open PySem PySem.Spec
open PyProof.Rows hiding St
open L2 PL TX PM
/-! ### == of layers and stacks, lengths, items, what a stack keeps -/
section
variable {P : Program} {w : World} {K : Fg} {mg : PySem.Str → Option Value} {base : Heap}
theorem cls_inj (T : Tx ex fn K mg) : ∀ m n : Mode, m.cls K = n.cls K → m = n
  | .normal, .normal, _ => rfl
  | .normal, .darken, h => absurd h (q_Normal_Darken T)
  | .normal, .lighten, h => absurd h (q_Normal_Lighten T)
  | .normal, .multiply, h => absurd h (q_Normal_Multiply T)
  | .normal, .screen, h => absurd h (q_Normal_Screen T)
  | .darken, .normal, h => absurd h.symm (q_Normal_Darken T)
  | .darken, .darken, _ => rfl
  | .darken, .lighten, h => absurd h (q_Darken_Lighten T)
  | .darken, .multiply, h => absurd h (q_Darken_Multiply T)
  | .darken, .screen, h => absurd h (q_Darken_Screen T)
  | .lighten, .normal, h => absurd h.symm (q_Normal_Lighten T)
  | .lighten, .darken, h => absurd h.symm (q_Darken_Lighten T)
  | .lighten, .lighten, _ => rfl
  | .lighten, .multiply, h => absurd h (q_Lighten_Multiply T)
  | .lighten, .screen, h => absurd h (q_Lighten_Screen T)
  | .multiply, .normal, h => absurd h.symm (q_Normal_Multiply T)
  | .multiply, .darken, h => absurd h.symm (q_Darken_Multiply T)
  | .multiply, .lighten, h => absurd h.symm (q_Lighten_Multiply T)
  | .multiply, .multiply, _ => rfl
  | .multiply, .screen, h => absurd h (q_Multiply_Screen T)
  | .screen, .normal, h => absurd h.symm (q_Normal_Screen T)
  | .screen, .darken, h => absurd h.symm (q_Darken_Screen T)
  | .screen, .lighten, h => absurd h.symm (q_Lighten_Screen T)
  | .screen, .multiply, h => absurd h.symm (q_Multiply_Screen T)
  | .screen, .screen, _ => rfl
theorem nfL (T : Tx ex fn K mg) : ∀ m n : Mode, PySem.W.notFirst K (m.cls K) (.ref (n.cls K)) = true
  | .normal, .normal => by simp [PySem.W.notFirst]
  | .normal, .darken => nf_Normal_Darken T
  | .normal, .lighten => nf_Normal_Lighten T
  | .normal, .multiply => nf_Normal_Multiply T
  | .normal, .screen => nf_Normal_Screen T
  | .darken, .normal => nf_Darken_Normal T
  | .darken, .darken => by simp [PySem.W.notFirst]
  | .darken, .lighten => nf_Darken_Lighten T
  | .darken, .multiply => nf_Darken_Multiply T
  | .darken, .screen => nf_Darken_Screen T
  | .lighten, .normal => nf_Lighten_Normal T
  | .lighten, .darken => nf_Lighten_Darken T
  | .lighten, .lighten => by simp [PySem.W.notFirst]
  | .lighten, .multiply => nf_Lighten_Multiply T
  | .lighten, .screen => nf_Lighten_Screen T
  | .multiply, .normal => nf_Multiply_Normal T
  | .multiply, .darken => nf_Multiply_Darken T
  | .multiply, .lighten => nf_Multiply_Lighten T
  | .multiply, .multiply => by simp [PySem.W.notFirst]
  | .multiply, .screen => nf_Multiply_Screen T
  | .screen, .normal => nf_Screen_Normal T
  | .screen, .darken => nf_Screen_Darken T
  | .screen, .lighten => nf_Screen_Lighten T
  | .screen, .multiply => nf_Screen_Multiply T
  | .screen, .screen => by simp [PySem.W.notFirst]
theorem mEqL (T : Tx ex fn K mg) : ∀ m : Mode, OwnM K (m.cls K) "__eq__" (aMet "Layer" "__eq__" K)
  | .normal => by rw [← e_Normal___eq__ T]; exact m_Normal___eq__ T
  | .darken => by rw [← e_Darken___eq__ T]; exact m_Darken___eq__ T
  | .lighten => by rw [← e_Lighten___eq__ T]; exact m_Lighten___eq__ T
  | .multiply => by rw [← e_Multiply___eq__ T]; exact m_Multiply___eq__ T
  | .screen => by rw [← e_Screen___eq__ T]; exact m_Screen___eq__ T

theorem c_Ly_eq (T : Tx ex fn K mg) : FnR P w K mg base CX0 2 (aMet "Layer" "__eq__" K) (spD (aC (sLy K) (aC (sLy K) aN)) (fun _ => True) sBl (fun a => decide (a.1 = a.2.1))) := by
  obtain ⟨fd, F⟩ := f_Layer___eq__ T
  refine fn_x F sc_Layer___eq__ (argC_cons (argC_cons argC_nil)) (fun _ => rfl) (n := 0) (fun _ => rfl) (fun cdv A outer s H E hr ⟨a, b, _⟩ hp => ?_) (fun _ _ _ _ _ _ us hl => match us, hl with | [_, _], _ => rfl)
  refine xb_ifR (b := !decide (a.mode = b.mode)) (xt_eq (xw_pt (xw_or (pp := false) (xt_eq (xt_not (xt_val (x_isC (tyL T b.mode) (r := true) (kitL T b.mode) (n_isinstance T) (g_Layer T) (x_asM (xv 1))))) rfl) fun _ => xw_or1 (xt_cmpD (f := fun a b => !decide (a = b)) op_ne o2_neS (x_mdS (x_mode T (xv 0))) (x_mdS (x_mode T (xv 1))) trivial))) (by rw [Bool.false_or, decM rfl])) (fun h => ?_) fun h => ?_
  · have h : ¬ a.mode = b.mode := by simpa using h
    refine xb_ret (ef (xe_eq x_bl ?_))
    exact (decide_eq_false (fun e => h (by have e : a = b := e; rw [e]))).symm
  · have h : a.mode = b.mode := by simpa using h
    refine xb_ret (ef (xe_eq (x_and (pp := decide (a.tint = b.tint)) (q := decide (a.cover = b.cover)) (x_eqF T hr (x_tint T (xv 0)) (x_tint T (xv 1))) fun _ => x_last (x_eqF T hr (x_cover T (xv 0)) (x_cover T (xv 1)))) ?_))
    show (decide (a.tint = b.tint) && decide (a.cover = b.cover)) = decide (a = b)
    obtain ⟨m, t, c⟩ := a
    obtain ⟨m', t', c'⟩ := b
    have h : m = m' := h
    subst h
    rw [← Bool.decide_and, decide_eq_decide]
    simp
theorem c_S_len (T : Tx ex fn K mg) : FnR P w K mg base CX0 1 (aMet "Stack" "__len__" K) (spD (aC (sS K) aN) (fun _ => True) sInt (fun a => (a.1.length : Int))) := by
  obtain ⟨fd, F⟩ := f_Stack___len__ T
  refine fn_x F sc_Stack___len__ (argC_cons argC_nil) (fun _ => rfl) (n := 0) (fun _ => rfl) (fun cdv A outer s H E hr ⟨a, _⟩ hp => ?_) (fun _ _ _ _ _ _ us hl => match us, hl with | [_], _ => rfl)
  exact xb_ret (ef (xe_eq (x_lenU (n_len T) (x_fld (fld_laid T) (xv 0))) rfl))
theorem c_is_between (T : Tx ex fn K mg) : FnR P w K mg base CX0 2 (aGlo "is_between" K) (spD (aC sInt (aC sInt (aC sInt aN))) (fun _ => True) sBl (fun a => decide (a.2.1 ≤ a.1) && decide (a.1 ≤ a.2.2.1))) := by
  obtain ⟨fd, F⟩ := f_is_between T
  refine fn_x F sc_is_between (argC_cons (argC_cons (argC_cons argC_nil))) (fun _ => rfl) (n := 0) (fun _ => rfl) (fun cdv A outer s H E hr ⟨a, b, c, _⟩ hp => ?_) (fun _ _ _ _ _ _ us hl => match us, hl with | [_, _, _], _ => rfl)
  exact xb_ret (ef (xe_eq (x_and (pp := true) (q := decide (b ≤ a) && decide (a ≤ c)) (xe_eq (x_call (c_is_whole T) hr (g_is_whole T) (k_is_whole T) (xa (xv 0) xa0) trivial) rfl) fun _ => x_last (x_chain op_le op_le o2_B0 o2_B0 (xv 1) (xv 0) (fun _ => xv 2) trivial (fun _ => trivial))) rfl))
theorem c_S_item (T : Tx ex fn K mg) : FnR P w K mg base CX0 3 (aMet "Stack" "__getitem__" K) (spG (aC (sS K) (aC sInt aN)) (fun a => ∃ i : Nat, a.2.1 = (i : Int) ∧ i < a.1.length) (sLy K) (fun a r => a.1[a.2.1.toNat]? = some r)) := by
  obtain ⟨fd, F⟩ := f_Stack___getitem__ T
  refine fn_x F sc_Stack___getitem__ (argC_cons (argC_cons argC_nil)) (fun _ => rfl) (n := 0) (fun _ => rfl) (fun cdv A outer s H E hr ⟨as, k, _⟩ hp => ?_) (fun _ _ _ _ _ _ us hl => match us, hl with | [_, _], _ => rfl)
  obtain ⟨i, hi, hl⟩ := hp
  have hi : k = (i : Int) := hi
  have hl : i < as.length := hl
  subst hi
  refine xb_ifR (b := false) (xt_eq (xt_not (xt_val (x_call (c_is_between T) hr (g_is_between T) (k_is_between T) (xa (xv 1) (xa x_int (xa (x_opD (f := fun a b => a - b) op_sub o2_I0 (x_lenU (n_len T) (x_fld (fld_laid T) (xv 0))) x_int trivial) xa0))) trivial))) ?_) (fun h => by cases h) fun _ => ?_
  · show (!(decide ((0 : Int) ≤ (i : Int)) && decide ((i : Int) ≤ (as.length : Int) - 1))) = false
    rw [decide_eq_true (by omega), decide_eq_true (by omega)]
    rfl
  · refine xb_ret (ef (xe_imp (x_ixU (a := as[i]) (x_fld (fld_laid T) (xv 0)) (xv 1) (atI_nat (List.getElem?_eq_getElem hl))) fun r h => ?_))
    show as[(i : Int).toNat]? = some r
    rw [h, Int.toNat_natCast, List.getElem?_eq_getElem hl]
theorem keeps_d : ∀ {as : List Lay}, (∀ a ∈ as, Lk a) → (0 ≤ keepsOf as ∧ keepsOf as ≤ 1) ∧ (keepsOf as).den ∣ prodD as := by
  intro as
  refine rev_ind (p := fun as => (∀ a ∈ as, Lk a) → (0 ≤ keepsOf as ∧ keepsOf as ≤ 1) ∧ (keepsOf as).den ∣ prodD as) (fun _ => ⟨by decide, Nat.dvd_refl _⟩) (fun r a ih => ?_) as
  intro h
  obtain ⟨⟨g1, g2⟩, g3⟩ := ih fun b hb => h b (by simp [hb])
  have la := (h a (by simp)).cover
  rw [keepsOf_snoc, prodD_snoc]
  have p1 := Rat.mul_nonneg g1 (show 0 ≤ 1 - a.cover by grind)
  have p2 := Rat.mul_nonneg g1 (show 0 ≤ a.cover by grind)
  refine ⟨⟨p1, by grind⟩, Nat.dvd_trans (den_mul _ _) (Nat.mul_dvd_mul g3 (Nat.dvd_trans (den_one_sub _) ?_))⟩
  exact Nat.dvd_mul_left _ _
theorem StOk.keeps {n : Nat} {as : List Lay} (h : StOk n as) : Bd n (keepsOf as) := by
  obtain ⟨g1, g2⟩ := keeps_d h.lk
  exact bd_grid g1.1 g1.2 prodD_pos h.pd g2
def PrKp (as : List Lay) : Prop := ∃ n, StOk n as ∧ 2 * n + 10 ≤ 9000
theorem c_S_keeps (T : Tx ex fn K mg) : FnR P w K mg base CX0 6 (aRec "Stack" "keeps" "property" K) (spD (aC (sS K) aN) (fun a => PrKp a.1) (sF K) (fun a => keepsOf a.1)) := by
  obtain ⟨fd, F⟩ := f_Stack_keeps T
  refine fn_x F sc_Stack_keeps (argC_cons argC_nil) (fun _ => rfl) (n := 2) (fun _ => rfl) (fun cdv A outer s H E hr ⟨as, _⟩ hp => ?_) (fun _ _ _ _ _ _ us hl => match us, hl with | [_], _ => rfl)
  obtain ⟨n, ok, hn⟩ := hp
  have ok : StOk n as := ok
  have nd := sc_Stack_keeps.nd
  have h5 : Room 5 _ := hr
  have h4 : Room 4 _ := hr.mono (by decide)
  refine xb_set (s := sF K) (a := (1 : Rat)) 1 nd (xe_eq (x_F1 T h4 x_int) rfl) ?_
  refine xb_for (Pl := fun xs => xs = as) (vs := [2]) (gt := gName 2) (I := fun xs i Γ o => o = .no ∧ ∃ c2, Γ = [Ce (sS K) as, Ce (sF K) (keepsOf (as.take i)), c2])
    (N := fun Γ o => o = .no ∧ ∃ c2, Γ = [Ce (sS K) as, Ce (sF K) (keepsOf as), c2])
    PassesOwn.never rfl (ei (xi_tup (P := (· = as)) (x_fld (fld_laid T) (xv 0)))) (pg_name nd rfl (Or.inl rfl)) (tgt_name 2) ?_ ?_ ?_ ?_
  · rintro xs rfl
    exact ⟨rfl, _, rfl⟩
  · rintro xs rfl i a Γ o hx ⟨rfl, c2, rfl⟩
    refine ⟨fun j hj => rfl, ?_⟩
    have la := ok.lay (List.mem_of_getElem? hx)
    have b1 := (ok.take i).keeps
    refine xb_set (s := sF K) (a := keepsOf (xs.take (i + 1))) 1 nd (xe_eq (x_mulF T h5 (xv 1) (x_rest T (xv 2)) (.mk' b1 la.rest (by omega))) ?_) (xb_nil ⟨rfl, _, rfl⟩)
    rw [take_snoc hx, keepsOf_snoc]
  · rintro xs rfl Γ o ⟨rfl, c2, rfl⟩
    refine ⟨rfl, c2, ?_⟩
    rw [List.take_length]
  · rintro Γ o ⟨rfl, c2, rfl⟩
    exact xb_ret (ef (xe_eq (xv 1) rfl))
end
section
variable {X : Cx} {Γ : List Cell} {e e1 e2 o : Expr} {pos p : Pos} {as bs : List Lay} {i : Nat} {a : Lay} (T : Tx ex fn X.K X.mg)
theorem fnS_Ly (T : Tx ex fn X.K X.mg) : FnS X (sLy X.K) := fnS_frac fun H x a b h1 h2 => by
  obtain ⟨p, dx, x1, y1, z1, rfl, q1, f1, f2, _⟩ := h1
  obtain ⟨p', dx', x2, y2, z2, e2, q2, f3, f4, _⟩ := h2
  cases e2
  rw [q1] at q2
  have e := Option.some.inj q2
  injection e with e3 edx e4
  have hm := cls_inj T _ _ e3
  injection e4 with e4 e5
  injection e5 with e5 _
  have e5 : y1 = y2 := congrArg Prod.snd e5
  have e6 : x1 = x2 := congrArg Prod.snd e4
  subst e5 e6
  have g1 := inj_F _ _ _ _ f1 f3
  have g2 := inj_F _ _ _ _ f2 f4
  obtain ⟨m, t, c⟩ := a
  obtain ⟨m', t', c'⟩ := b
  have hm : m = m' := hm
  have g1 : t = t' := g1
  have g2 : c = c' := g2
  rw [hm, g1, g2]
theorem eqS_Ly (T : Tx ex fn X.K X.mg) : EqS X 2 (sLy X.K) := (rcS_ownF (cls := fun a => a.mode.cls X.K) (c_Ly_eq T) (fun _ => trivial) (fun H v a h => by
    obtain ⟨p, dx, x1, y1, z1, e1, q1, _⟩ := h
    exact ⟨p, dx, _, e1, q1⟩) (fun a => mEqL T a.mode) (fun a b => nfL T _ _)).eqS (fun H x a ⟨p, _, _, _, _, e, _⟩ => ⟨p, e⟩) (fnS_Ly T)
end
end PC
set_option Elab.async false
set_option linter.all false
set_option maxRecDepth 100000
set_option maxHeartbeats 4000000
namespace PC
open PySem PySem.Spec
open PyProof.Rows hiding St
open L2 PL TX PM
section
variable {P : Program} {w : World} {K : Fg} {mg : PySem.Str → Option Value} {base : Heap}
theorem c_S_eq (T : Tx ex fn K mg) : FnR P w K mg base CX0 4 (aMet "Stack" "__eq__" K) (spD (aC (sS K) (aC (sS K) aN)) (fun _ => True) sBl (fun a => decide (a.1 = a.2.1))) := by
  obtain ⟨fd, F⟩ := f_Stack___eq__ T
  refine fn_x F sc_Stack___eq__ (argC_cons (argC_cons argC_nil)) (fun _ => rfl) (n := 0) (fun _ => rfl) (fun cdv A outer s H E hr ⟨l, r, _⟩ hp => ?_) (fun _ _ _ _ _ _ us hl => match us, hl with | [_, _], _ => rfl)
  exact xb_ret (ef (xe_eq (x_and (x_isC (ty_S T) (c_Stack T).ii (n_isinstance T) (g_Stack T) (xv 1)) fun _ => x_last (x_cmpD (f := fun a b => id (decide (a = b))) (op_rc (rcS_tupeq (eqS_Ly T)) rfl hr) o2_rc (x_fld (fld_laid T) (xv 0)) (x_fld (fld_laid T) (xv 1)) trivial)) rfl))
end
section
variable {X : Cx} {Γ : List Cell} {e e1 e2 o : Expr} {pos p : Pos} {as bs : List Lay} {i : Int} {a : Lay} (T : Tx ex fn X.K X.mg)
include T
theorem xt_neS (hr : Room 5 X.A) (h1 : XE X e1 Γ (sS X.K) (· = as)) (h2 : XE X e2 Γ (sS X.K) (· = bs)) (hb : behindInMarks .NotEq e2 = false := by first | exact nomark _ | rfl) : XT X (.Compare e1 [.NotEq] [e2] pos) Γ (· = !decide (as = bs)) := xt_cmpD (f := fun a b => !decide (a = b)) (ne_own (c_S_eq T) (m_Stack___eq__ T) (ne_Stack T) (c_Stack T).cm hr) (o2_ownNe ins_S ins_S) h1 h2 trivial hb
theorem x_lenK (hr : Room 2 X.A) (h : XE X e Γ (sS X.K) (· = as)) (hl : as.length ≤ 1000) (hg : Gl X "len" := by rfl) (hst : starEach [e] X.env = (false, eval e X.env) :: starEach [] X.env := by rfl) : XE X (.Call (.Name "len" p) [e] [] pos) Γ sInt (· = (as.length : Int)) := by
  have F : FnR X.prog X.w X.K X.mg X.base CX0 1 (aMet "Stack" "__len__" X.K) (spD (aC (sS X.K) aN) (fun a => a.1.length ≤ 1000) sInt (fun a => (a.1.length : Int))) := FnR.imp (c_S_len T) fun vs H Q E ⟨a, h1, _, h2⟩ => ⟨a, h1, trivial, h2⟩
  have hb : ∀ a : List Lay × Unit, a.1.length ≤ 1000 → 0 ≤ (a.1.length : Int) ∧ (a.1.length : Int) < 2 ^ 63 := fun a h => by constructor <;> omega
  exact xe_eq (x_callB (len_own F (m_Stack___len__ T) hr) (co_lenOw (pre := fun a => a.1.length ≤ 1000) (F1 := fun a : List Lay × Unit => (a.1.length : Int)) ins_S hb) (n_len T) rfl (xa h xa0 hst) hl hg (by decide) (by decide) hst rfl) rfl
theorem x_itemS (hr : Room 4 X.A) (h1 : XE X o Γ (sS X.K) (· = as)) (h2 : XE X e Γ sInt (· = i)) (h0 : 0 ≤ i) (ha : as[i.toNat]? = some a) (hsl : ∀ v i, subscripted e true v i = runValue (.builtin "lifetime.subscript" ⟨[v, i], []⟩) := by intro _ _; with_unfolding_all rfl) : XE X (.Subscript o e pos) Γ (sLy X.K) (· = a) :=
  xe_imp (x_ixOwn ins_S (c_S_item T) (m_Stack___getitem__ T) (fnIn_of (f_Stack___getitem__ T)) hr h1 h2 ⟨i.toNat, by show i = _; omega, (List.getElem?_eq_some_iff.mp ha).1⟩ hsl) fun r h => by
    have h : as[i.toNat]? = some r := h
    rw [ha] at h
    exact (Option.some.inj h).symm
theorem x_keepsS (hr : Room 7 X.A) (h : XE X e Γ (sS X.K) (· = as)) (hp : PrKp as) (hab : attributeBase e "keeps" X.env (eval e X.env) = eval e X.env := by rfl) : XE X (.Attribute e "keeps" pos) Γ (sF X.K) (· = keepsOf as) := xe_eq (x_prop ins_S (c_Stack T).cl (p_Stack_keeps T) (c_S_keeps T) hr h hp hab) rfl
theorem x_layersS (hr : Room 2 X.A) (h : XE X e Γ (sS X.K) (· = as)) (hab : attributeBase e "layers" X.env (eval e X.env) = eval e X.env := by rfl) : XE X (.Attribute e "layers" pos) Γ (sU X.K (sLy X.K)) (· = as) := xe_eq (x_prop ins_S (c_Stack T).cl (p_Stack_layers T) (c_S_layers T) hr h trivial hab) rfl
end
end PC
set_option Elab.async false
set_option linter.all false
set_option maxRecDepth 100000
set_option maxHeartbeats 4000000
namespace PC
open PySem PySem.Spec
open PyProof.Rows hiding St
open L2 PL TX PM
/-! ### idle layers, joined neighbors, trimmed stacks: the contracts -/
section
variable {P : Program} {w : World} {K : Fg} {mg : PySem.Str → Option Value} {base : Heap}
theorem c_layer_of (T : Tx ex fn K mg) : FnR P w K mg base CX0 8 (aGlo "layer_of" K) (spD (aC sMd (aC (sF K) (aC (sF K) aN))) (fun a => ∃ k, LayOk k ⟨a.1, a.2.1, a.2.2.1⟩ ∧ k + 10 ≤ 9000) (sLy K) (fun a => ⟨a.1, a.2.1, a.2.2.1⟩)) := by
  obtain ⟨fd, F⟩ := f_layer_of T
  refine fn_x F sc_layer_of (argC_cons (argC_cons (argC_cons argC_nil))) (fun _ => rfl) (n := 0) (fun _ => rfl) (fun cdv A outer s H E hr ⟨m, t, c, _⟩ hp => ?_) (fun _ _ _ _ _ _ us hl => match us, hl with | [_, _, _], _ => rfl)
  obtain ⟨k, L, hk⟩ := hp
  have L : LayOk k ⟨m, t, c⟩ := L
  have mk : ∀ n : Mode, n = m → ∃ k, LayOk k ⟨n, t, c⟩ ∧ k + 10 ≤ 9000 := fun n e => by rw [e]; exact ⟨k, L, hk⟩
  refine xb_ifR (xt_isM .normal (xv 0) rfl) (fun h => ?_) fun h1 => ?_
  · have h : m = .normal := of_decide_eq_true h
    exact xb_ret (ef (xe_eq (x_lay T .normal (g_Normal T) hr (xv 1) (xv 2) (mk _ h.symm)) (by rw [h])))
  refine xb_ifR (xt_isM .darken (xv 0) rfl) (fun h => ?_) fun h2 => ?_
  · have h : m = .darken := of_decide_eq_true h
    exact xb_ret (ef (xe_eq (x_lay T .darken (g_Darken T) hr (xv 1) (xv 2) (mk _ h.symm)) (by rw [h])))
  refine xb_ifR (xt_isM .lighten (xv 0) rfl) (fun h => ?_) fun h3 => ?_
  · have h : m = .lighten := of_decide_eq_true h
    exact xb_ret (ef (xe_eq (x_lay T .lighten (g_Lighten T) hr (xv 1) (xv 2) (mk _ h.symm)) (by rw [h])))
  refine xb_ret (ef (x_ifE (Pc := fun b => b = decide (m = .multiply)) (xt_isM .multiply (xv 0) rfl) (fun h => ?_) fun h => ?_))
  · have h : m = .multiply := of_decide_eq_true h.symm
    exact xe_eq (x_lay T .multiply (g_Multiply T) hr (xv 1) (xv 2) (mk _ h.symm)) (by rw [h])
  · have h : ¬ m = .multiply := of_decide_eq_false h.symm
    have h1 : ¬ m = .normal := of_decide_eq_false h1
    have h2 : ¬ m = .darken := of_decide_eq_false h2
    have h3 : ¬ m = .lighten := of_decide_eq_false h3
    have hs : m = .screen := by cases m <;> first | rfl | contradiction
    exact xe_eq (x_lay T .screen (g_Screen T) hr (xv 1) (xv 2) (mk _ hs.symm)) (by rw [hs])
def PrIx (as : List Lay) : Prop := ∃ n, StOk n as ∧ 10 * n + 40 ≤ 9000
def PrJn (a b : Lay) : Prop := ∃ n, Lk a ∧ Lk b ∧ dOf a * dOf b < 2 ^ n ∧ 4 * n + 40 ≤ 9000
end
end PC
set_option Elab.async false
set_option linter.all false
set_option maxRecDepth 100000
set_option maxHeartbeats 4000000
namespace PC
open PySem PySem.Spec
open PyProof.Rows hiding St
open L2 PL TX PM TL
/-! ### reading texts: the contracts -/
def sTn : Sh Nat := fun _ v n => v = .str (txtI (n : Int))
def sTq : Sh Rat := fun _ v q => v = .str (strQ q)
def sTl : Sh Lay := fun _ v a => v = .str (strL a)
def sTs : Sh (List Lay) := fun _ v as => v = .str (strS as)
instance : Mo sTn := ⟨fun _ h => h⟩
instance : Mo sTq := ⟨fun _ h => h⟩
instance : Mo sTl := ⟨fun _ h => h⟩
instance : Mo sTs := ⟨fun _ h => h⟩
section
variable {X : Cx} {Γ : List Cell} {e : Expr} {y : PySem.Str} {n : Nat} {q : Rat} {a : Lay} {as : List Lay}
theorem x_Tn (h : XE X e Γ sStr (· = y)) (k : y = txtI (n : Int)) : XE X e Γ sTn (· = n) := xe_sh h fun b hb => ⟨n, rfl, fun H v hv => by rw [hb, k] at hv; exact hv⟩
theorem x_ofTn (h : XE X e Γ sTn (· = n)) : XE X e Γ sStr (· = txtI (n : Int)) := xe_sh h fun b hb => ⟨_, by rw [hb], fun H v hv => hv⟩
theorem x_Tq (h : XE X e Γ sStr (· = y)) (k : y = strQ q) : XE X e Γ sTq (· = q) := xe_sh h fun b hb => ⟨q, rfl, fun H v hv => by rw [hb, k] at hv; exact hv⟩
theorem x_ofTq (h : XE X e Γ sTq (· = q)) : XE X e Γ sStr (· = strQ q) := xe_sh h fun b hb => ⟨_, by rw [hb], fun H v hv => hv⟩
theorem x_ofTl (h : XE X e Γ sTl (· = a)) : XE X e Γ sStr (· = strL a) := xe_sh h fun b hb => ⟨_, by rw [hb], fun H v hv => hv⟩
theorem x_Ts (h : XE X e Γ sStr (· = y)) (k : y = strS as) : XE X e Γ sTs (· = as) := xe_sh h fun b hb => ⟨as, rfl, fun H v hv => by rw [hb, k] at hv; exact hv⟩
theorem x_ofTs (h : XE X e Γ sTs (· = as)) : XE X e Γ sStr (· = strS as) := xe_sh h fun b hb => ⟨_, by rw [hb], fun H v hv => hv⟩
theorem x_Tls {K : Fg} (h : XE X e Γ (sL K sStr) (· = as.map strL)) : XE X e Γ (sL K sTl) (· = as) := xe_sh h fun b hb => ⟨as, rfl, fun H v hv => by
  rw [hb] at hv
  obtain ⟨p, xs, e1, q1, q2⟩ := hv
  refine ⟨p, xs, e1, q1, ?_⟩
  clear e1 q1 hb h
  generalize hz : as.map strL = zs at q2
  induction q2 generalizing as with
  | nil =>
    cases as with
    | nil => exact .nil
    | cons _ _ => cases hz
  | cons h1 t ih =>
    cases as with
    | nil => cases hz
    | cons b bs =>
      rw [List.map_cons] at hz
      injection hz with hz1 hz2
      exact .cons (by subst hz1; exact h1) (ih hz2)⟩
end
section
variable {P : Program} {w : World} {K : Fg} {mg : PySem.Str → Option Value} {base : Heap}
theorem dig_in {c : Nat} (h : 48 ≤ c ∧ c ≤ 57) : c ∈ ((("0123456789" : String) : PySem.Str)).cps.toList := by
  have e : ((("0123456789" : String) : PySem.Str)).cps.toList = [48, 49, 50, 51, 52, 53, 54, 55, 56, 57] := by decide +kernel
  rw [e]
  simp only [List.mem_cons, List.not_mem_nil, or_false]
  omega
theorem c_read_number (T : Tx ex fn K mg) : FnR P w K mg base CX0 1 (aGlo "read_number" K) (spD (aC sTn aN) (fun a => a.1 < 2 ^ 400) (sOpt sInt) (fun a => some (a.1 : Int))) := by
  obtain ⟨fd, F⟩ := f_read_number T
  refine fn_x F sc_read_number (argC_cons argC_nil) (fun _ => rfl) (n := 1) (fun _ => rfl) (fun cdv A outer s H E hr ⟨n, _⟩ hp => ?_) (fun _ _ _ _ _ _ us hl => match us, hl with | [_], _ => rfl)
  have hn : n < 2 ^ 400 := hp
  have nd := sc_read_number.nd
  have et : tl (txtI (n : Int)) = numL n := by rw [tl_txt (by omega), Int.toNat_natCast]
  have hl := len_num hn (Nat.le_refl _)
  have hlen : (txtI (n : Int)).length ≤ 121 := by rw [len_tl, et]; exact hl
  obtain ⟨i1, i2⟩ := int_txt hn (Nat.le_refl _)
  obtain ⟨td, hd⟩ := s_DIGITS T
  obtain ⟨c0, t0, e0⟩ : ∃ c t, numL n = c :: t := by
    cases h : numL n with
    | nil => exact absurd h (numL_ne n)
    | cons c t => exact ⟨c, t, rfl⟩
  have hfirst : ((decide ((⟨#[c0]⟩ : PySem.Str) = "0")) && !decide (txtI (n : Int) = "0")) = false := by
    by_cases h0 : n = 0
    · subst h0
      have : txtI ((0 : Nat) : Int) = "0" := num_zero
      rw [decide_eq_true this]
      simp
    · have h1 := num_head n (by omega) c0 (by rw [e0]; rfl)
      have h2 : ¬ (⟨#[c0]⟩ : PySem.Str) = "0" := fun z => h1 (by
        have := congrArg tl z
        have e : tl (("0" : String) : PySem.Str) = [48] := by decide +kernel
        rw [e] at this
        have : [c0] = [48] := this
        injection this)
      rw [decide_eq_false h2]
      rfl
  refine xb_ifR (b := false) (xt_eq (xw_pt (xw_or (pp := false) (q := false) (xt_eq (xt_cmpD (f := fun a b => decide (a = b)) op_eq o2_eqS (x_ofTn (xv 0)) x_str trivial) ?_) fun _ => xw_eq (xw_or (pp := false) (q := false) (xt_eq (xt_val (x_callB (cr_any rfl) co_any (n_any T) rfl (xa (x_mapN 1 (s := sBl) (xs := signsOf (txtI (n : Int))) (f := fun _ : PySem.Str => false) nd (xi_str (x_ofTn (xv 0))) (blkOk_by (own := [("digit", 1)]) (N := N_read_number) (sc := defScope s_read_number) (by decide +kernel)) (fun d hd' s' H C cl fp => ?_) (by rw [signsO_len]; show (txtI (n : Int)).length ≤ _; omega) fun _ _ _ _ _ => pg_name nd rfl (Or.inl rfl)) xa0) trivial)) ?_) fun _ => xw_or1 (xt_eq (xw_pt (xw_and (pp := decide ((⟨#[c0]⟩ : PySem.Str) = "0")) (q := !decide (txtI (n : Int) = "0")) (xt_cmpD (f := fun a b => decide (a = b)) op_eq o2_eqS (x_ixStr (y := txtI (n : Int)) (c := c0) (x_ofTn (xv 0)) x_int (by omega) ?_) x_str trivial) fun _ => xw_and1 (xt_cmpD (f := fun a b => !decide (a = b)) op_ne o2_neS (x_ofTn (xv 0)) x_str trivial))) hfirst)) rfl)) rfl) (fun h => by cases h) fun _ => ?_
  · refine decide_eq_false fun z => ?_
    have z := congrArg tl z
    rw [et, e0] at z
    have e : tl (("" : String) : PySem.Str) = [] := by decide +kernel
    rw [e] at z
    cases z
  · obtain ⟨c, hc, rfl⟩ := List.mem_map.mp hd'
    have hc : c ∈ tl (txtI (n : Int)) := hc
    rw [et] at hc
    have hdg := numL_digits n c hc
    refine xe_eq (x_cmpD (f := fun _ b => !decide (c ∈ b.cps.toList)) (a := (⟨#[c]⟩ : PySem.Str)) op_notIn_sign (o2_inSign (c := c)) (xv 1) (x_gstr hd) rfl) ?_
    rw [decide_eq_true (dig_in hdg)]
    rfl
  · show ((signsOf (txtI (n : Int))).map fun _ => false).any id = false
    simp
  · show atI (tl (txtI (n : Int))) 0 = some c0
    rw [et, e0]
    exact atI_0
  · refine xb_ret (ef (x_someI (xe_eq (x_callT call_int_str co_intS (n_int T) rfl (xa (x_ofTn (xv 0)) xa0) ⟨n, i1, i2⟩) ?_)))
    show (PySem.intText? (txtI (n : Int))).getD 0 = (n : Int)
    rw [i1]
    rfl
end
end PC
set_option Elab.async false
set_option linter.all false
set_option maxRecDepth 100000
set_option maxHeartbeats 4000000
namespace PL
open PySem PySem.Spec
open PyProof.Rows hiding St
open L2
section
variable {X : Cx} {Γ : List Cell} {α β γ : Type} {s : Sh α} {t : Sh β} {u : Sh γ} {a : α} {b : β} {c : γ} {e1 e2 e3 : Expr} {p1 p2 p3 p4 p6 pos : Pos} {x y z : Str} {rest : List Stmt} {ρ : Type} {G : Goal ρ} {P : α → Prop} {Q : β → Prop} {R : γ → Prop}
end
end PL
set_option Elab.async false
set_option linter.all false
set_option maxRecDepth 100000
set_option maxHeartbeats 4000000
namespace PL
open PySem PySem.Spec
open PyProof.Rows hiding St
open L2
section
variable {X : Cx} {Γ : List Cell} {α ρ : Type} {s : Sh α} {e e1 e2 : Expr} {as bs : List α} {p p1 p2 p3 pos : Pos} {x : Str} {rest : List Stmt} {G : Goal ρ}
end
end PL
set_option Elab.async false
set_option linter.all false
set_option maxRecDepth 100000
set_option maxHeartbeats 4000000
namespace PL
open PySem PySem.Spec
open PyProof.Rows hiding St
open L2
section
variable {X : Cx} {Γ : List Cell} {α β γ : Type} {s : Sh α} {t : Sh β} {u : Sh γ} {a : α} {b : β} {c : γ} {e1 e2 e3 : Expr} {pos : Pos}
/-- a op b op' c as a test -/
theorem xt_chain {op op' : CmpOp} {r r' : R2} {f1 : α → β → Bool} {f2 : β → γ → Bool} {pre : α → β → Prop} {pre' : β → γ → Prop} [Mo s] [Mo t] (ho : OpR X (compareOp op) r) (ho' : OpR X (compareOp op') r') (o : Op2 r s t sBl pre (fun a b c => c = f1 a b)) (o' : Op2 r' t u sBl pre' (fun a b c => c = f2 a b))
    (h1 : XE X e1 Γ s (· = a)) (h2 : XE X e2 Γ t (· = b)) (h3 : f1 a b = true → XE X e3 Γ u (· = c)) (hp : pre a b) (hp' : f1 a b = true → pre' b c) (hm : lastMarks [op, op'] [e2, e3] = false := by with_unfolding_all rfl) : XT X (.Compare e1 [op, op'] [e2, e3] pos) Γ (· = (f1 a b && f2 b c)) :=
  weakT (pt_chain ho ho' h1 h2 (condE h3) hm) fun σ H Q ⟨E, q⟩ => ⟨E, fun i' v1 H1 p1 sm1 s1 => ⟨E.up sm1, fun j' v2 H2 p2 sm2 s2 => by
    subst p1 p2
    refine o H2 v1 v2 _ _ _ (Mo.up sm2 s1) s2 hp fun d z H3 pd sm3 sz => ⟨d, sz, ?_⟩
    subst pd
    have sm := (sm1.trans sm2).trans sm3
    by_cases hd : f1 i' j' = true
    · rw [if_pos hd]
      refine ⟨hd, E.up sm, fun l' v3 H4 p3 sm4 s3 => ?_⟩
      subst p3
      refine o' H4 v2 v3 _ _ _ (Mo.up (sm3.trans sm4) s2) s3 (hp' hd) fun d2 z2 H5 pd2 sm5 sz2 => ⟨d2, sz2, q _ H5 (by rw [pd2, hd, Bool.true_and]) ((sm.trans sm4).trans sm5)⟩
    · rw [if_neg hd]
      exact ⟨_, rfl, q _ H3 (by rw [Bool.eq_false_iff.mpr hd, Bool.false_and]) sm⟩⟩⟩
end
end PL
set_option Elab.async false
set_option linter.all false
set_option maxRecDepth 100000
set_option maxHeartbeats 4000000
namespace PC
open PySem PySem.Spec
open PyProof.Rows hiding St
open L2 PL TX PM TL
theorem low_self {q : Rat} (h : 0 ≤ q) : ((Rat.divInt q.num (q.den : Int)).num, ((Rat.divInt q.num (q.den : Int)).den : Int)) = (q.num, (q.den : Int)) := by
  rw [Rat.num_divInt_den]
section
variable {P : Program} {w : World} {K : Fg} {mg : PySem.Str → Option Value} {base : Heap}
theorem c_read_pair (T : Tx ex fn K mg) : FnR P w K mg base CX0 3 (aGlo "read_pair" K) (spD (aC sTq aN) (fun a => 0 ≤ a.1 ∧ Bd 400 a.1) (sOpt (sP K sInt sInt)) (fun a => some (a.1.num, (a.1.den : Int)))) := by
  obtain ⟨fd, F⟩ := f_read_pair T
  refine fn_x F sc_read_pair (argC_cons argC_nil) (fun _ => rfl) (n := 7) (fun _ => rfl) (fun cdv A outer s H E hr ⟨q, _⟩ hp => ?_) (fun _ _ _ _ _ _ us hl => match us, hl with | [_], _ => rfl)
  obtain ⟨h0, hb⟩ := hp
  have h0 : 0 ≤ q := h0
  have hb : Bd 400 q := hb
  have nd := sc_read_pair.nd
  have h2 : Room 2 _ := hr
  have h1 : Room 1 _ := hr.mono (by decide)
  have hlen : (strQ q).length ≤ 16777216 := Nat.le_trans (len_strQ hb (by decide)) (by decide)
  have hn := num_nat h0
  obtain ⟨n, en⟩ := Int.eq_ofNat_of_zero_le hn
  have bn : n < 2 ^ 400 := by have := hb.1; omega
  have bd : q.den < 2 ^ 400 := hb.2
  have dpos := q.den_pos
  -- minus
  refine xb_set (s := sBl) (a := false) 1 nd (xe_eq (x_cmpD (f := fun a b => decide (a = b)) op_eq o2_eqS (x_slStr (x_ofTq (xv 0)) hlen xo_none (xo_some x_int)) x_str trivial) (decide_eq_false fun z => ?_)) ?_
  · have hm : (45 : Nat) ∈ tl (cutS (strQ q) none (some 1)) := by
      rw [z]
      decide +kernel
    have := signs_Q h0 (cut_mem hm)
    omega
  have hpos : ∃ fr sl bk, Txt.partition (strQ q) slS = (fr, sl, bk) ∧ fr = txtI (n : Int) ∧ ((sl = slS ∧ bk = txtI (q.den : Int) ∧ q.den ≠ 1) ∨ (sl = Str.empty ∧ q.den = 1)) := by
    by_cases hd : q.den = 1
    · exact ⟨_, _, _, part_one h0 hd, by rw [strQ_one hd, en], .inr ⟨rfl, hd⟩⟩
    · exact ⟨_, _, _, part_two h0 hd, by rw [en], .inl ⟨rfl, rfl, hd⟩⟩
  obtain ⟨fr, sl, bk, ep, efr, hcase⟩ := hpos
  refine xb_unp3 (s := sStr) (t := sStr) (u := sStr) 2 3 4 (Pp := (· = (fr, sl, bk))) rfl nd (ef (xe_eq (x_part (a := strQ q) (b := slS) (xe_eq (x_slStr (x_ofTq (xv 0)) hlen (xo_some (i := 0) (xe_eq (x_callT call_int1 co_intB (n_int T) rfl (xa (xv 1) xa0) trivial) rfl)) xo_none) cut_all) x_str (by decide +kernel) hlen) ep)) fun a b c e => ?_
  obtain ⟨rfl, rfl, rfl⟩ : a = fr ∧ b = sl ∧ c = bk := by simpa using e
  subst efr
  have hslash : (b = slS) ↔ q.den ≠ 1 := by
    rcases hcase with ⟨e1, _, e3⟩ | ⟨e1, e2⟩
    · exact ⟨fun _ => e3, fun _ => e1⟩
    · constructor
      · intro z
        rw [e1] at z
        exact absurd (congrArg tl z) (by rw [tl_sl]; intro y; cases y)
      · intro z; exact absurd e2 z
  -- top, bottom
  refine xb_par2 (s := sOpt sInt) (t := sOpt sInt) (a := some (n : Int)) (b := some (q.den : Int)) 5 6 rfl nd (xe_eq (x_call (c_read_number T) h1 (g_read_number T) (k_read_number T) (xa (x_Tn (n := n) (xv 2) rfl) xa0) bn) rfl) (x_ifE (Pc := fun k => k = decide (b = slS)) (xt_cmpD (f := fun a b => decide (a = b)) op_eq o2_eqS (xv 3) x_str trivial) (fun h => ?_) (fun h => ?_)) ?_
  · have h : b = slS := of_decide_eq_true h.symm
    rcases hcase with ⟨_, e2, _⟩ | ⟨e1, e2⟩
    · exact xe_eq (x_call (c_read_number T) h1 (g_read_number T) (k_read_number T) (xa (x_Tn (n := q.den) (xv 4) e2) xa0) bd) rfl
    · exact absurd e2 (hslash.mp h)
  · have h : ¬ b = slS := of_decide_eq_false h.symm
    have hd : q.den = 1 := Decidable.not_not.mp fun z => h (hslash.mpr z)
    refine xe_eq (x_someI x_int) ?_
    rw [hd]
    rfl
  have hsd : decide (b = slS) = !decide ((q.den : Int) = 1) := by
    by_cases hd : q.den = 1
    · rw [decide_eq_false (fun z => hslash.mp z hd), decide_eq_true (by omega)]
      rfl
    · rw [decide_eq_true (hslash.mpr hd), decide_eq_false (by omega)]
      rfl
  refine xb_ifR (b := false) (xt_eq (xw_pt (xw_or (pp := false) (q := false) (xt_eq (xt_cmpD (b := ()) (f := fun (a : Option Int) (b : Unit) => a.isNone) op_isN o2_isN (xv 5) (xe_imp x_non fun _ _ => rfl) trivial) rfl) fun _ => xw_eq (xw_or (pp := false) (q := false) (xt_eq (xt_cmpD (b := ()) (f := fun (a : Option Int) (b : Unit) => a.isNone) op_isN o2_isN (xv 6) (xe_imp x_non fun _ _ => rfl) trivial) rfl) fun _ => xw_eq (xw_or (pp := false) (q := false) (xt_eq (xt_cmpD (f := fun a b => decide (a = b)) op_eq o2_eqI (x_getO (a := (q.den : Int)) (xv 6)) x_int trivial) (decide_eq_false (by omega))) fun _ => xw_eq (xw_or (pp := false) (q := false) (xt_eq (xw_pt (xw_and (pp := false) (q := false) (xt_val (xv 1)) fun z => by cases z)) rfl) fun _ => xw_or1 (xt_eq (xw_pt (xw_and (pp := decide (b = slS)) (q := decide ((q.den : Int) = 1)) (xt_cmpD (f := fun a b => decide (a = b)) op_eq o2_eqS (xv 3) x_str trivial) fun _ => xw_and1 (xt_cmpD (f := fun a b => decide (a = b)) op_eq o2_eqI (x_getO (a := (q.den : Int)) (xv 6)) x_int trivial))) (by rw [hsd, Bool.not_and_self]))) rfl) rfl) rfl)) rfl) (fun h => by cases h) fun _ => ?_
  refine xb_set (s := sP K sInt sInt) (a := (q.num, (q.den : Int))) 7 nd (x_tup2D (a := q.num) (b := (q.den : Int)) (x_ifE (Pc := (· = false)) (xt_val (xv 1)) (fun h => by cases h) (fun _ => xe_eq (x_getO (a := (n : Int)) (xv 5)) en.symm)) (x_getO (a := (q.den : Int)) (xv 6))) ?_
  refine xb_ret (ef (x_ifE (Pc := (· = true)) (xt_eq (xt_cmpD (f := fun a b => id (decide (a = b))) (op_rc (rcS_pair (.inl ⟨rfl, rfl⟩) eqS_int eqS_int) rfl h1) o2_rc (xe_eq (a' := (q.num, (q.den : Int))) (x_call (c_lowest_terms T) h2 (g_lowest_terms T) (k_lowest_terms T) (xa (x_p0 (xv 7)) (xa (x_p1 (xv 7)) xa0)) ⟨by show 0 < (q.den : Int); omega, Nat.lt_of_lt_of_le (show (q.den : Int).natAbs < 2 ^ 400 by omega) (Nat.pow_le_pow_right (by decide) (by decide))⟩) (low_self h0)) (xv 7) trivial) (by rw [decide_eq_true rfl]; rfl)) (fun _ => x_someP (xv 7)) (fun h => by cases h)))
theorem c_parse_layer (T : Tx ex fn K mg) : FnR P w K mg base CX0 9 (aGlo "parse_layer" K) (spD (aC sTl aN) (fun a => LayOk 400 a.1) (sOpt (sLy K)) (fun a => some a.1)) := by
  obtain ⟨fd, F⟩ := f_parse_layer T
  refine fn_x F sc_parse_layer (argC_cons argC_nil) (fun _ => rfl) (n := 3) (fun _ => rfl) (fun cdv A outer s H E hr ⟨a, _⟩ hp => ?_) (fun _ _ _ _ _ _ us hl => match us, hl with | [_], _ => rfl)
  have L : LayOk 400 a := hp
  have nd := sc_parse_layer.nd
  have h8 : Room 8 _ := hr
  have h4 : Room 4 _ := hr.mono (by decide)
  have h3 : Room 3 _ := hr.mono (by decide)
  have t0 : 0 ≤ a.tint := L.tint.1
  have c0 : 0 ≤ a.cover := Rat.le_of_lt L.cover.1
  have hlen : (strL a).length + 2 ≤ 16777216 := by have := len_L L (Nat.le_refl _); omega
  have nn := num_nat t0
  have mn := num_nat c0
  have tle : a.tint.num ≤ (a.tint.den : Int) := by
    have := L.tint.2
    rw [Rat.le_iff] at this
    simpa using this
  have cpos : 0 < a.cover.num := by have := (cov_num L.cover).1; omega
  have clt : a.cover.num < (a.cover.den : Int) := by
    have := L.cover.2
    rw [Rat.lt_iff] at this
    simpa using this
  have dn : ∀ {q : Rat}, Bd 400 q → ((q.den : Nat) : Int).natAbs < 2 ^ 9000 := fun {q} h => Nat.lt_of_lt_of_le h.2 (Nat.pow_le_pow_right (by decide) (by omega))
  refine xb_set (s := sL K sStr) (a := [a.mode.str, strQ a.tint, strQ a.cover]) 1 nd (xe_eq (x_split (a := strL a) (b := spS) (x_ofTl (xv 0)) x_str (by decide +kernel) hlen) (split_L ⟨t0, c0⟩)) ?_
  have w0 : ∀ {X : Cx} {Γ : List Cell} {e : Expr} {p p2 : Pos} {j : Nat}, XE X e Γ (sL X.K sStr) (· = [a.mode.str, strQ a.tint, strQ a.cover]) → XE X (.Subscript e (.Constant (.int 0) j p2) p) Γ sStr (· = a.mode.str) ∧ XE X (.Subscript e (.Constant (.int 1) j p2) p) Γ sStr (· = strQ a.tint) ∧ XE X (.Subscript e (.Constant (.int 2) j p2) p) Γ sStr (· = strQ a.cover) := fun {X Γ e p p2 j} g => ⟨x_ixL g x_int rfl, x_ixL g x_int rfl, x_ixL g x_int rfl⟩
  have hin : decide (a.mode.str ∈ (["normal", "darken", "lighten", "multiply", "screen"] : List PySem.Str)) = true := by cases a.mode <;> decide
  refine xb_ifR (b := false) (xt_eq (xw_pt (xw_or (pp := false) (q := false) (xt_eq (xt_cmpD (f := fun a b => !decide (a = b)) op_ne o2_neI (x_lenL (n_len T) (xv 1)) x_int trivial) rfl) fun _ => xw_or1 (xt_eq (xt_cmpD (f := fun a b => !decide (a ∈ b)) op_notIn_seq o2_notInT (w0 (xv 1)).1 (x_gtup (gt_MODES T) (t_MODES T)) trivial) (by rw [hin]; rfl)))) rfl) (fun h => by cases h) fun _ => ?_
  refine xb_par2 (s := sOpt (sP K sInt sInt)) (t := sOpt (sP K sInt sInt)) (a := some (a.tint.num, (a.tint.den : Int))) (b := some (a.cover.num, (a.cover.den : Int))) 2 3 rfl nd (xe_eq (x_call (c_read_pair T) h3 (g_read_pair T) (k_read_pair T) (xa (x_Tq (q := a.tint) (w0 (xv 1)).2.1 rfl) xa0) ⟨t0, L.bt⟩) rfl) (xe_eq (x_call (c_read_pair T) h3 (g_read_pair T) (k_read_pair T) (xa (x_Tq (q := a.cover) (w0 (xv 1)).2.2 rfl) xa0) ⟨c0, L.bc⟩) rfl) ?_
  refine xb_ifR (b := false) (xt_eq (xw_pt (xw_or (pp := false) (q := false) (xt_eq (xt_cmpD (b := ()) (f := fun (a : Option (Int × Int)) (b : Unit) => a.isNone) op_isN o2_isN (xv 2) (xe_imp x_non fun _ _ => rfl) trivial) rfl) fun _ => xw_eq (xw_or (pp := false) (q := false) (xt_eq (xt_cmpD (b := ()) (f := fun (a : Option (Int × Int)) (b : Unit) => a.isNone) op_isN o2_isN (xv 3) (xe_imp x_non fun _ _ => rfl) trivial) rfl) fun _ => xw_eq (xw_or (pp := false) (q := false) (xt_eq (xt_not (xt_chain (f1 := fun a b => decide (a ≤ b)) (f2 := fun a b => decide (a ≤ b)) op_le op_le o2_B0 o2_B0 x_int (x_p0 (x_getO (a := (a.tint.num, (a.tint.den : Int))) (xv 2))) (fun _ => x_p1 (x_getO (a := (a.tint.num, (a.tint.den : Int))) (xv 2))) trivial (fun _ => trivial))) ?_) fun _ => xw_or1 (xt_eq (xt_not (xt_chain (f1 := fun a b => decide (a < b)) (f2 := fun a b => decide (a < b)) op_lt op_lt o2_B0 o2_B0 x_int (x_p0 (x_getO (a := (a.cover.num, (a.cover.den : Int))) (xv 3))) (fun _ => x_p1 (x_getO (a := (a.cover.num, (a.cover.den : Int))) (xv 3))) trivial (fun _ => trivial))) ?_)) rfl) rfl)) rfl) (fun h => by cases h) fun _ => ?_
  · show (!(decide ((0 : Int) ≤ a.tint.num) && decide (a.tint.num ≤ (a.tint.den : Int)))) = false
    rw [decide_eq_true nn, decide_eq_true tle]
    rfl
  · show (!(decide ((0 : Int) < a.cover.num) && decide (a.cover.num < (a.cover.den : Int)))) = false
    rw [decide_eq_true cpos, decide_eq_true clt]
    rfl
  · refine xb_ret (ef (x_someL (xe_eq (x_call (c_layer_of T) h8 (g_layer_of T) (k_layer_of T) (xa (x_mdOf (w0 (xv 1)).1 rfl) (xa (xe_eq (a' := a.tint) (x_F2 T h4 (x_p0 (x_getO (a := (a.tint.num, (a.tint.den : Int))) (xv 2))) (x_p1 (x_getO (a := (a.tint.num, (a.tint.den : Int))) (xv 2))) (PM.den_pos a.tint) (dn L.bt)) (Rat.num_divInt_den a.tint)) (xa (xe_eq (a' := a.cover) (x_F2 T h4 (x_p0 (x_getO (a := (a.cover.num, (a.cover.den : Int))) (xv 3))) (x_p1 (x_getO (a := (a.cover.num, (a.cover.den : Int))) (xv 3))) (PM.den_pos a.cover) (dn L.bc)) (Rat.num_divInt_den a.cover)) xa0))) ⟨400, L, by decide⟩) rfl)))
theorem c_parse_layers (T : Tx ex fn K mg) : FnR P w K mg base CX0 10 (aGlo "parse_layers" K) (spD (aC sTs aN) (fun a => a.1.length ≤ 24 ∧ ∀ b ∈ a.1, LayOk 400 b) (sOpt (sU K (sLy K))) (fun a => some a.1)) := by
  obtain ⟨fd, F⟩ := f_parse_layers T
  refine fn_x F sc_parse_layers (argC_cons argC_nil) (fun _ => rfl) (n := 3) (fun _ => rfl) (fun cdv A outer s H E hr ⟨as, _⟩ hp => ?_) (fun _ _ _ _ _ _ us hl => match us, hl with | [_], _ => rfl)
  obtain ⟨h24, hok⟩ := hp
  have h24 : as.length ≤ 24 := h24
  have hok : ∀ b ∈ as, LayOk 400 b := hok
  have nd := sc_parse_layers.nd
  have h9 : Room 9 _ := hr
  obtain ⟨td, hd⟩ := s_NO_LAYERS T
  have hlen := len_S hok (Nat.le_refl _) h24
  refine xb_ifR (b := decide (as = [])) (xt_eq (xt_cmpD (f := fun a b => decide (a = b)) op_eq o2_eqS (x_ofTs (xv 0)) (x_gstr hd) trivial) ?_) (fun h => ?_) fun h => ?_
  · rw [decide_eq_decide]
    constructor
    · intro z
      exact Decidable.not_not.mp fun y => strS_dash y z
    · intro z; rw [z]; rfl
  · have h : as = [] := of_decide_eq_true h
    subst h
    exact xb_ret (ef (x_someU (x_tup (as := ([] : List Lay)) xs_nil (by show 0 ≤ 16777216; decide))))
  · have hne : as ≠ [] := of_decide_eq_false h
    refine xb_set (s := sU K (sLy K)) (a := as) 1 nd (xe_eq (x_callT call_tuple_of co_tupL (n_tuple T) rfl (xa (x_mapN 2 (s := sLy K) (xs := as) (f := fun a => a) nd (xi_list (x_Tls (xe_eq (x_split (a := strS as) (b := coS) (x_ofTs (xv 0)) x_str (by decide +kernel) (by omega)) (split_S (fun a ha => ⟨(hok a ha).tint.1, Rat.le_of_lt (hok a ha).cover.1⟩) hne)))) (blkOk_by (own := [("part", 2)]) (N := N_parse_layers) (sc := defScope s_parse_layers) (by decide +kernel)) (fun a ha s' H C cl fp => x_getO (xe_eq (x_call (c_parse_layer T) h9 (g_parse_layer T) (k_parse_layer T) (xa (xv 2) xa0) (hok a ha)) rfl)) (by omega) fun _ _ _ _ _ => pg_name nd rfl (Or.inl rfl)) xa0) trivial) (List.map_id' as)) ?_
    obtain ⟨t24, h24'⟩ := i_MAX_LAYERS T
    refine xb_ifR (b := false) (xt_eq (xw_pt (xw_or (pp := false) (q := false) (xt_eq (xt_cmpD (f := fun a b => decide (b < a)) op_gt o2_B0 (x_lenU (n_len T) (xv 1)) (x_gint h24') trivial) (decide_eq_false (by show ¬ ((24 : Int) < ((as.length : Nat) : Int)); omega))) fun _ => xw_or1 (xt_eq (xt_not (xt_val (x_callB (cr_all rfl) co_all (n_all T) rfl (xa (x_mapN 3 (s := sBl) (xs := as) (f := fun _ : Lay => true) nd (xi_tup (xv 1)) (blkOk_by (own := [("layer", 3)]) (N := N_parse_layers) (sc := defScope s_parse_layers) (by decide +kernel)) (fun a ha s' H C cl fp => x_isC (tyL T a.mode) (r := true) (kitL T a.mode) (n_isinstance T) (g_Layer T) (x_asM (xv 3))) (by omega) fun _ _ _ _ _ => pg_name nd rfl (Or.inl rfl)) xa0) trivial))) ?_))) rfl) (fun h => by cases h) fun _ => ?_
    · show (!((as.map fun _ => true).all id)) = false
      simp
    · exact xb_ret (ef (x_someU (xv 1)))
theorem c_S_read (T : Tx ex fn K mg) : FnR P w K mg base CX0 11 (aRec "Stack" "read" "classmethod" K) (spG (aC (sCl (aGlo "Stack" K)) (aC sTs aN)) (fun a => a.2.1.length ≤ 24 ∧ ∀ b ∈ a.2.1, LayOk 400 b) (sS K) (fun a r => r = a.2.1)) := by
  obtain ⟨fd, F⟩ := f_Stack_read T
  refine fn_x F sc_Stack_read (argC_cons (argC_cons argC_nil)) (fun _ => rfl) (n := 1) (fun _ => rfl) (fun cdv A outer s H E hr ⟨_, as, _⟩ hp => ?_) (fun _ _ _ _ _ _ us hl => match us, hl with | [_, _], _ => rfl)
  have nd := sc_Stack_read.nd
  have h10 : Room 10 _ := hr
  have h4 : Room 4 _ := hr.mono (by decide)
  have h24 : as.length ≤ 24 := hp.1
  refine xb_set (s := sOpt (sU K (sLy K))) (a := some as) 2 nd (x_ifE (Pc := (· = true)) (xt_val (x_isT tyS_str (r := true) (kit_ty (a := "str") (b := "str") (by decide +kernel)) (n_isinstance T) (n_str T) (x_ofTs (xv 1)))) (fun _ => xe_eq (x_call (c_parse_layers T) h10 (g_parse_layers T) (k_parse_layers T) (xa (xv 1) xa0) hp) rfl) (fun h => by cases h)) ?_
  refine xb_ifR (b := false) (xt_eq (xt_cmpD (b := ()) (f := fun (a : Option (List Lay)) (b : Unit) => a.isNone) op_isN o2_isN (xv 2) (xe_imp x_non fun _ _ => rfl) trivial) rfl) (fun h => by cases h) fun _ => ?_
  refine xb_ret (ef (xe_imp (x_makeVU (Pa := (· = as)) (xv 0) (mk_S T) (c_Stack_init T) h4 (x_getO (a := as) (xv 2)) fun _ e => by subst e; exact h24) fun u h => ?_))
  obtain ⟨_, rfl, h⟩ := h
  exact h
end
end PC
set_option Elab.async false
set_option linter.all false
set_option maxRecDepth 100000
set_option maxHeartbeats 4000000
namespace PL
open PySem PySem.Spec
open PyProof.Rows hiding St
open L2
section
variable {X : Cx} {C f : Addr} {k : Nat} {sp : Sp}
/-- repr(o), o an instance whose class has a __repr__ -/
theorem repr_own (F : FnR X.prog X.w X.K X.mg X.base CX0 k f sp) (m : OwnM X.K C "__repr__" f) (hr : Room (k + 2) X.A) : CallR X (.builtin "repr") (fun xs H Q => ∃ a dx fs, xs = [.ref a] ∧ H a = some (.ins C dx fs) ∧ sp [.ref a] H (fun v H' => ∃ y, v = .str y ∧ Q (.str y) H') E0) := by
  intro pins s σ H xs us Q I r h
  obtain ⟨a, dx, fs, rfl, ha, q⟩ := h
  cases r with
  | cons r1 r2 =>
    cases r2
    cases r1
    obtain ⟨ox, od, J, _⟩ := inst_of I ha
    obtain ⟨m0, fr⟩ := I.fr
    have h1 := hr.in1
    refine PySem.W.repr_K h1.units0 fr I.mod.kin J m.at_ m.fn ?_
    refine wpAny_call (codeAny_mono (F X.A.in1 X.stack s H [.ref a] [.ref a] _ E0 (h1.mono (by omega)) I.env0.in1 (.cons rfl .nil) q) fun r s' hq => ?_)
    cases r with
    | error e => exact hq.elim
    | ok fl =>
      cases fl with
      | ret u =>
        obtain ⟨v, H', I', rv, y, rfl, qn⟩ := I.after hq
        obtain ⟨t, rfl⟩ := rv
        exact ⟨.str y, H', I', ⟨t, rfl⟩, qn⟩
      | next => exact False.elim hq
      | brk => exact False.elim hq
      | cont => exact False.elim hq
end
end PL
set_option Elab.async false
set_option linter.all false
set_option maxRecDepth 100000
set_option maxHeartbeats 4000000
namespace PC
open PySem PySem.Spec
open PyProof.Rows hiding St
open L2 PL TX PM
open TL
/-! ### texts: of words, layers, stacks -/
theorem catL (a : Lay) : catS Str.empty [a.mode.str, " ", strQ a.tint, " ", strQ a.cover] = strL a := by
  refine ext_tl ?_
  show tl ((((((Str.empty ++ a.mode.str) ++ spS) ++ strQ a.tint) ++ spS) ++ strQ a.cover)) = tl (Txt.join spS [a.mode.str, strQ a.tint, strQ a.cover])
  rw [tl_join3, tl_append, tl_append, tl_append, tl_append, tl_append, tl_empty, tl_sp]
  simp
theorem addL (a : Lay) : a.mode.str ++ spS ++ strQ a.tint ++ spS ++ strQ a.cover = strL a := by
  refine ext_tl ?_
  show tl ((((a.mode.str ++ spS) ++ strQ a.tint) ++ spS) ++ strQ a.cover) = tl (Txt.join spS [a.mode.str, strQ a.tint, strQ a.cover])
  rw [tl_join3, tl_append, tl_append, tl_append, tl_append, tl_sp]
  simp
theorem len_mode (m : Mode) : m.str.length ≤ 8 := by cases m <;> decide
theorem sum_L {as : List Lay} {k : Nat} (h : ∀ a ∈ as, LayOk k a) (hk : k ≤ 400) : ((as.map strL).map (·.length)).sum ≤ as.length * 8020 := by
  induction as with
  | nil => exact Nat.le_refl _
  | cons a t ih =>
    have h1 := len_L (h a List.mem_cons_self) hk
    have h2 := ih fun q hq => h q (List.mem_cons_of_mem _ hq)
    simp only [List.map_cons, List.sum_cons, List.length_cons]
    omega
def reprS (as : List Lay) : PySem.Str := catS Str.empty ["Stack('", strS as, "')"]
section
variable {P : Program} {w : World} {K : Fg} {mg : PySem.Str → Option Value} {base : Heap}
theorem c_word (T : Tx ex fn K mg) : FnR P w K mg base CX0 1 (aGlo "_law_word" K) (spD (aC (sQ K) aN) (fun a => Bd 1919 a.1) sStr (fun a => strQ a.1)) := by
  obtain ⟨fd, F⟩ := f__law_word T
  refine fn_x F sc__law_word (argC_cons argC_nil) (fun _ => rfl) (n := 0) (fun _ => rfl) (fun cdv A outer s H E hr ⟨q, _⟩ hp => ?_) (fun _ _ _ _ _ _ us hl => match us, hl with | [_], _ => rfl)
  have hp : Bd 1919 q := hp
  have l1 := log2_of hp.1 (Nat.le_refl _)
  have l2 := log2_of (i := (q.den : Int)) (n := 1919) hp.2 (Nat.le_refl _)
  have t1 := len_txtI l1
  have t2 := len_txtI l2
  have e2 : slS.length = 1 := rfl
  refine xb_ret (ef (x_ifE (Pc := fun b => b = decide ((q.den : Int) = 1)) (xt_eq (xt_cmpD (f := fun a b => decide (a = b)) op_eq o2_eqI (x_p1 (x_ofQ (xv 0))) x_int trivial) rfl) (fun h => xe_eq (x_strI (n_str T) (x_p0 (x_ofQ (xv 0))) l1) ?_) fun h => xe_eq (x_opD (f := fun a b => a ++ b) (a := txtI q.num ++ slS) (b := txtI (q.den : Int)) op_add_str o2_addS (x_opD (f := fun a b => a ++ b) (a := txtI q.num) (b := slS) op_add_str o2_addS (x_strI (n_str T) (x_p0 (x_ofQ (xv 0))) l1) x_str ?_) (x_strI (n_str T) (x_p1 (x_ofQ (xv 0))) l2) ?_) ?_))
  · have h : (q.den : Int) = 1 := of_decide_eq_true h.symm
    exact (strQ_one (by omega)).symm
  · show (txtI q.num).length + slS.length ≤ 16777216
    omega
  · show (txtI q.num ++ slS).length + (txtI (q.den : Int)).length ≤ 16777216
    rw [len_app]
    omega
  · have h : ¬ (q.den : Int) = 1 := of_decide_eq_false h.symm
    exact (strQ_two (by omega)).symm
theorem c_label (T : Tx ex fn K mg) : FnR P w K mg base CX0 2 (aGlo "_law_label" K) (spD (aC (sSh K) aN) (fun a => LayOk 400 a.1) sStr (fun a => strL a.1)) := by
  obtain ⟨fd, F⟩ := f__law_label T
  refine fn_x F sc__law_label (argC_cons argC_nil) (fun _ => rfl) (n := 0) (fun _ => rfl) (fun cdv A outer s H E hr ⟨a, _⟩ hp => ?_) (fun _ _ _ _ _ _ us hl => match us, hl with | [_], _ => rfl)
  have hp : LayOk 400 a := hp
  have bt : Bd 1919 a.tint := hp.bt.mono (by decide)
  have bc : Bd 1919 a.cover := hp.bc.mono (by decide)
  have t1 := len_strQ bt (Nat.le_refl _)
  have t2 := len_strQ bc (Nat.le_refl _)
  have t3 := len_mode a.mode
  have e2 : spS.length = 1 := rfl
  have h1 : Room 1 _ := hr
  refine xb_ret (ef (xe_eq (x_opD (f := fun a b => a ++ b) (a := a.mode.str ++ spS ++ strQ a.tint ++ spS) (b := strQ a.cover) op_add_str o2_addS (x_opD (f := fun a b => a ++ b) (a := a.mode.str ++ spS ++ strQ a.tint) (b := spS) op_add_str o2_addS (x_opD (f := fun a b => a ++ b) (a := a.mode.str ++ spS) (b := strQ a.tint) op_add_str o2_addS (x_opD (f := fun a b => a ++ b) (a := a.mode.str) (b := spS) op_add_str o2_addS (xe_eq (x_mdS (x_t0 (ab := (a.mode, a.tint, a.cover)) (x_shT (a := a) (xv 0)))) rfl) x_str ?_) (xe_eq (x_call (c_word T) h1 (g__law_word T) (k__law_word T) (xa (x_t1 (ab := (a.mode, a.tint, a.cover)) (x_shT (a := a) (xv 0))) xa0) bt) rfl) ?_) x_str ?_) (xe_eq (x_call (c_word T) h1 (g__law_word T) (k__law_word T) (xa (x_t2 (ab := (a.mode, a.tint, a.cover)) (x_shT (a := a) (xv 0))) xa0) bc) rfl) ?_) (addL a)))
  · show a.mode.str.length + spS.length ≤ 16777216
    omega
  · show (a.mode.str ++ spS).length + (strQ a.tint).length ≤ 16777216
    rw [len_app]
    omega
  · show (a.mode.str ++ spS ++ strQ a.tint).length + spS.length ≤ 16777216
    rw [len_app, len_app]
    omega
  · show (a.mode.str ++ spS ++ strQ a.tint ++ spS).length + (strQ a.cover).length ≤ 16777216
    rw [len_app, len_app, len_app]
    omega
theorem c_L_str (T : Tx ex fn K mg) : FnR P w K mg base CX0 4 (aMet "Layer" "__str__" K) (spD (aC (sLy K) aN) (fun a => LayOk 400 a.1) sStr (fun a => strL a.1)) := by
  obtain ⟨fd, F⟩ := f_Layer___str__ T
  refine fn_x F sc_Layer___str__ (argC_cons argC_nil) (fun _ => rfl) (n := 0) (fun _ => rfl) (fun cdv A outer s H E hr ⟨a, _⟩ hp => ?_) (fun _ _ _ _ _ _ us hl => match us, hl with | [_], _ => rfl)
  have hp : LayOk 400 a := hp
  have bt : Bd 1919 a.tint := hp.bt.mono (by decide)
  have bc : Bd 1919 a.cover := hp.bc.mono (by decide)
  have t1 := len_strQ bt (Nat.le_refl _)
  have t2 := len_strQ bc (Nat.le_refl _)
  have t3 := len_mode a.mode
  have e0 : (Str.empty : PySem.Str).length = 0 := rfl
  have e2 : (" " : PySem.Str).length = 1 := rfl
  have h3 : Room 3 _ := hr
  refine xb_ret (ef (xe_eq (x_joined (ys := [a.mode.str, " ", strQ a.tint, " ", strQ a.cover]) (.cons (x_fmtS (x_mdS (x_mode T (xv 0))) (by omega)) (.cons x_str (.cons (x_fmtS (x_strF T h3 (x_tint T (xv 0)) bt) (by omega)) (.cons x_str (.cons (x_fmtS (x_strF T h3 (x_cover T (xv 0)) bc) (by omega)) .nil))))) ?_) (catL a)))
  refine ⟨?_, ?_, ?_, ?_, ?_, trivial⟩
  · rw [len_app]; omega
  · rw [len_app, len_app]; omega
  · rw [len_app, len_app, len_app]; omega
  · rw [len_app, len_app, len_app, len_app]; omega
  · rw [len_app, len_app, len_app, len_app, len_app]; omega
theorem mStrL (T : Tx ex fn K mg) : ∀ m : Mode, OwnM K (m.cls K) "__str__" (aMet "Layer" "__str__" K)
  | .normal => by rw [← e_Normal___str__ T]; exact m_Normal___str__ T
  | .darken => by rw [← e_Darken___str__ T]; exact m_Darken___str__ T
  | .lighten => by rw [← e_Lighten___str__ T]; exact m_Lighten___str__ T
  | .multiply => by rw [← e_Multiply___str__ T]; exact m_Multiply___str__ T
  | .screen => by rw [← e_Screen___str__ T]; exact m_Screen___str__ T
end
section
variable {X : Cx} {Γ : List Cell} {e : Expr} {pos p : Pos} {a : Lay} {as : List Lay} (T : Tx ex fn X.K X.mg)
include T
theorem x_strL (hr : Room 6 X.A) (h : XE X e Γ (sLy X.K) (· = a)) (hb : LayOk 400 a) (hg : Gl X "str" := by rfl) (hst : starEach [e] X.env = (false, eval e X.env) :: starEach [] X.env := by rfl) (hpl : (backTo pos (starEach [] X.env)).any (·.1) = false := by rfl) : XE X (.Call (.Name "str" p) [e] [] pos) Γ sStr (· = strL a) := by
  have F : FnR X.prog X.w X.K X.mg X.base CX0 4 (aMet "Layer" "__str__" X.K) (spD (aC (sLm X.K a.mode) aN) (fun b => LayOk 400 ⟨a.mode, b.1.1, b.1.2⟩) sStr (fun b => strL ⟨a.mode, b.1.1, b.1.2⟩)) :=
    FnR.imp (c_L_str T) (by
      intro vs H Q E z
      obtain ⟨⟨q, u⟩, ⟨v, ws, e1, sv, h0⟩, hp, k⟩ := z
      have h0 : ws = [] := h0
      subst h0
      subst e1
      exact ⟨(⟨a.mode, q.1, q.2⟩, ()), ⟨_, _, rfl, sv, rfl⟩, hp, k⟩)
  exact xe_eq (x_callT (f := fun b : (Rat × Rat) × Unit => strL ⟨a.mode, b.1.1, b.1.2⟩) (str_own F (mStrL T a.mode) hr) (co_strOwn ins_Lm) (n_str T) rfl (xa (x_asM h) xa0 hst) hb hg (by decide) (by decide) hst hpl) rfl
end
section
variable {P : Program} {w : World} {K : Fg} {mg : PySem.Str → Option Value} {base : Heap}
theorem c_S_str (T : Tx ex fn K mg) : FnR P w K mg base CX0 7 (aMet "Stack" "__str__" K) (spD (aC (sS K) aN) (fun a => a.1.length ≤ 24 ∧ ∀ b ∈ a.1, LayOk 400 b) sStr (fun a => strS a.1)) := by
  obtain ⟨fd, F⟩ := f_Stack___str__ T
  refine fn_x F sc_Stack___str__ (argC_cons argC_nil) (fun _ => rfl) (n := 1) (fun _ => rfl) (fun cdv A outer s H E hr ⟨as, _⟩ hp => ?_) (fun _ _ _ _ _ _ us hl => match us, hl with | [_], _ => rfl)
  obtain ⟨hl, hok⟩ := hp
  have hl : as.length ≤ 24 := hl
  have hok : ∀ b ∈ as, LayOk 400 b := hok
  have nd := sc_Stack___str__.nd
  have h6 : Room 6 _ := hr
  refine xb_ifR (b := decide (as = [])) (xt_eq (xt_cmpD (f := fun a b => decide (a = b)) op_eq o2_eqI (x_lenU (n_len T) (x_fld (fld_laid T) (xv 0))) x_int trivial) ?_) (fun h => ?_) fun h => ?_
  · rw [decide_eq_decide]
    constructor
    · intro z
      have z : ((as.length : Nat) : Int) = 0 := z
      exact List.eq_nil_of_length_eq_zero (by omega)
    · intro z
      subst z
      rfl
  · have h : as = [] := of_decide_eq_true h
    subst h
    exact xb_ret (ef (xe_eq x_str rfl))
  · have h : ¬ as = [] := of_decide_eq_false h
    have hs := sum_L hok (Nat.le_refl _)
    refine xb_ret (ef (xe_eq (x_joinL (ys := as.map strL) x_str (x_mapN (s := sStr) 1 (xs := as) (f := strL) nd (xi_tup (x_fld (fld_laid T) (xv 0))) (blkOk_by (own := [("layer", 1)]) (N := N_Stack___str__) (sc := defScope s_Stack___str__) (by decide +kernel)) (fun a ha s' H C cl fp => x_strL T h6 (xv 1) (hok a ha)) (by omega) fun _ _ _ _ _ => pg_name nd rfl (Or.inl rfl)) ?_) ?_))
    · have e2 : ((", " : String) : PySem.Str).length = 2 := rfl
      rw [List.length_map, e2]
      omega
    · show _ = strS as
      unfold strS
      rw [if_neg h]
      rfl
end
section
variable {X : Cx} {Γ : List Cell} {e : Expr} {pos p : Pos} {a : Lay} {as : List Lay} (T : Tx ex fn X.K X.mg)
include T
theorem x_strS (hr : Room 9 X.A) (h : XE X e Γ (sS X.K) (· = as)) (hl : as.length ≤ 24) (hok : ∀ b ∈ as, LayOk 400 b) (hg : Gl X "str" := by rfl) (hst : starEach [e] X.env = (false, eval e X.env) :: starEach [] X.env := by rfl) (hpl : (backTo pos (starEach [] X.env)).any (·.1) = false := by rfl) : XE X (.Call (.Name "str" p) [e] [] pos) Γ sStr (· = strS as) :=
  xe_eq (x_callT (f := fun b : List Lay × Unit => strS b.1) (str_own (c_S_str T) (m_Stack___str__ T) hr) (co_strOwn ins_S) (n_str T) rfl (xa h xa0 hst) ⟨hl, hok⟩ hg (by decide) (by decide) hst hpl) rfl
end
section
variable {P : Program} {w : World} {K : Fg} {mg : PySem.Str → Option Value} {base : Heap}
theorem c_S_repr (T : Tx ex fn K mg) : FnR P w K mg base CX0 10 (aMet "Stack" "__repr__" K) (spD (aC (sS K) aN) (fun a => a.1.length ≤ 24 ∧ ∀ b ∈ a.1, LayOk 400 b) sStr (fun a => reprS a.1)) := by
  obtain ⟨fd, F⟩ := f_Stack___repr__ T
  refine fn_x F sc_Stack___repr__ (argC_cons argC_nil) (fun _ => rfl) (n := 0) (fun _ => rfl) (fun cdv A outer s H E hr ⟨as, _⟩ hp => ?_) (fun _ _ _ _ _ _ us hl => match us, hl with | [_], _ => rfl)
  obtain ⟨hl, hok⟩ := hp
  have hl : as.length ≤ 24 := hl
  have hok : ∀ b ∈ as, LayOk 400 b := hok
  have t1 := len_S hok (Nat.le_refl _) hl
  have e0 : (Str.empty : PySem.Str).length = 0 := rfl
  have e1 : ((("Stack('" : String)) : PySem.Str).length = 7 := rfl
  have e2 : ((("')" : String)) : PySem.Str).length = 2 := rfl
  refine xb_ret (ef (xe_eq (x_joined (ys := ["Stack('", strS as, "')"]) (.cons x_str (.cons (x_fmtS (x_strS T hr (xv 0) hl hok) (by omega)) (.cons x_str .nil))) ?_) rfl))
  refine ⟨?_, ?_, ?_, trivial⟩
  · rw [len_app]; omega
  · rw [len_app, len_app]; omega
  · rw [len_app, len_app, len_app]; omega
end
section
variable {X : Cx} {Γ : List Cell} {e : Expr} {pos p : Pos} {a : Lay} {as : List Lay} (T : Tx ex fn X.K X.mg)
include T
theorem x_reprS (hr : Room 12 X.A) (h : XE X e Γ (sS X.K) (· = as)) (hl : as.length ≤ 24) (hok : ∀ b ∈ as, LayOk 400 b) (hg : Gl X "repr" := by rfl) (hst : starEach [e] X.env = (false, eval e X.env) :: starEach [] X.env := by rfl) (hpl : (backTo pos (starEach [] X.env)).any (·.1) = false := by rfl) : XE X (.Call (.Name "repr" p) [e] [] pos) Γ sStr (· = reprS as) :=
  xe_eq (x_callB (f := fun b : List Lay × Unit => reprS b.1) (repr_own (c_S_repr T) (m_Stack___repr__ T) hr) (co_strOwn ins_S) (n_repr T) (by kernel_rfl) (xa h xa0 hst) ⟨hl, hok⟩ hg (by decide) (by decide) hst hpl) rfl
end
end PC
set_option Elab.async false
set_option linter.all false
set_option maxRecDepth 100000
set_option maxHeartbeats 4000000
namespace PC
open PySem PySem.Spec
open PyProof.Rows hiding St
open L2 PL TX PM
/-- a fraction between 0 and 1, both excluded -/
structure Inside (n : Nat) (q : Rat) : Prop where
  pos : 0 < q
  lt : q < 1
  bd : Bd n q
theorem inside_of {i j : Int} {n : Nat} (h0 : 0 < i) (h1 : i < j) (hn : j.natAbs < 2 ^ n) : Inside n (Rat.divInt i j) := by
  have hj : 0 < j := by omega
  have hjq : (0 : Rat) < (j : Rat) := Rat.intCast_pos.mpr hj
  refine ⟨?_, ?_, bd_divInt hj (by omega) hn⟩
  · rw [Rat.divInt_eq_div, Rat.div_def]
    exact Rat.mul_pos (Rat.intCast_pos.mpr h0) (Rat.inv_pos.mpr hjq)
  · have e : (1 : Rat) = (j : Rat) * (j : Rat)⁻¹ := (Rat.mul_inv_cancel _ (by grind)).symm
    rw [Rat.divInt_eq_div, Rat.div_def, e]
    exact Rat.mul_lt_mul_of_pos_right (Rat.intCast_lt_intCast.mpr h1) (Rat.inv_pos.mpr hjq)
section
variable {P : Program} {w : World} {K : Fg} {mg : PySem.Str → Option Value} {base : Heap}
theorem c_inside (T : Tx ex fn K mg) : FnR P w K mg base CX0 2 (aGlo "_law_inside" K) (spG (aC (sBox okPool) aN) (fun _ => True) (sQ K) (fun _ r => Inside 41 r)) := by
  obtain ⟨fd, F⟩ := f__law_inside T
  refine fn_x F sc__law_inside (argC_cons argC_nil) (fun _ => rfl) (n := 1) (fun _ => rfl) (fun cdv A outer s H E hr ⟨_, _⟩ hp => ?_) (fun _ _ _ _ _ _ us hl => match us, hl with | [_], _ => rfl)
  have dr : ∀ (m : Int) (k : Nat), 0 < m → m < 2 ^ 60 → 0 < m ∧ m.natAbs < 2 ^ 9000 := fun m k h1 h2 => ⟨h1, Nat.lt_of_lt_of_le (show m.natAbs < 2 ^ 60 by omega) (Nat.pow_le_pow_right (by decide) (by decide))⟩
  refine xb_setP (s := sInt) (P := fun b => 2 ≤ b ∧ b ≤ 10 ^ 12 + 1) 1 sc__law_inside.nd (ef (x_ixLG (x_lstG (xs_consG (x_op op_add o2_I0 x_int (x_callP (c_draw T) hr (g__law_draw T) (k__law_draw T) (xa (xv 0) (xa x_int xa0)) (dr 3 0 (by decide) (by decide))) (fun _ _ _ _ => trivial)) (xs_consG (x_op op_add o2_I0 x_int (x_callP (c_draw T) hr (g__law_draw T) (k__law_draw T) (xa (xv 0) (xa x_int xa0)) (dr 11 0 (by decide) (by decide))) (fun _ _ _ _ => trivial)) (xs_consG (x_op op_add o2_I0 x_int (x_callP (c_draw T) hr (g__law_draw T) (k__law_draw T) (xa (xv 0) (xa (xe_eq (a' := 10 ^ 12) (x_opD (f := fun i j : Int => i ^ j.toNat) op_pow o2_I x_int x_int ⟨by decide, by decide, by decide⟩) rfl) xa0)) (dr (10 ^ 12) 0 (by decide) (by decide))) (fun _ _ _ _ => trivial)) xs_nil))) ?_) (x_callP (c_draw T) hr (g__law_draw T) (k__law_draw T) (xa (xv 0) (xa x_int xa0)) (dr 3 0 (by decide) (by decide))) ?_)) fun b hb => ?_
  · rintro as ⟨b1, bs, rfl, _, b2, bs2, rfl, _, b3, bs3, rfl, _, rfl⟩
    show 3 ≤ sizeLine
    decide
  · rintro as i ⟨b1, bs, rfl, ⟨u1, v1, e1, p1, q1⟩, b2, bs2, rfl, ⟨u2, v2, e2, p2, q2⟩, b3, bs3, rfl, ⟨u3, v3, e3, p3, q3⟩, rfl⟩ ⟨h0, h3⟩
    have h0 : 0 ≤ i := h0
    have h3 : i < 3 := h3
    have p1 : 0 ≤ v1 ∧ v1 < 3 := p1
    have p2 : 0 ≤ v2 ∧ v2 < 11 := p2
    have p3 : 0 ≤ v3 ∧ v3 < 10 ^ 12 := p3
    have q1 : b1 = u1 + v1 := q1
    have q2 : b2 = u2 + v2 := q2
    have q3 : b3 = u3 + v3 := q3
    subst e1 e2 e3
    have hi : i = 0 ∨ i = 1 ∨ i = 2 := by omega
    rcases hi with z | z | z <;> subst z
    · exact ⟨_, rfl, by omega, by omega⟩
    · exact ⟨_, rfl, by omega, by omega⟩
    · exact ⟨_, rfl, by omega, by omega⟩
  · obtain ⟨hb1, hb2⟩ := hb
    refine xb_ret (ef (xe_imp (x_callG (c_low T) (hr.mono (by decide)) (g__law_low T) (k__law_low T) (xa_consG (x_op op_add o2_I0 x_int (x_callP (c_draw T) hr (g__law_draw T) (k__law_draw T) (xa (xv 0) (xa (x_opD (f := fun a b => a - b) op_sub o2_I0 (xv 1) x_int trivial) xa0)) (dr (b - 1) 0 (by omega) (by omega))) (fun _ _ _ _ => trivial)) (xa (xv 1) xa0)) fun a ha => ?_) fun r h => ?_))
    · obtain ⟨h1, h2⟩ := ha
      rw [h2]
      exact dr b 0 (by omega) (by omega)
    · obtain ⟨a, ⟨⟨u, v, e1, h1, q1⟩, h2⟩, h3⟩ := h
      have h1 : 0 ≤ v ∧ v < b - 1 := h1
      have q1 : a.1 = u + v := q1
      have h3 : r = Rat.divInt a.1 a.2.1 := h3
      subst e1
      rw [h2] at h3
      rw [h3]
      exact inside_of (by omega) (by show a.1 < b; omega) (by show b.natAbs < 2 ^ 41; omega)
end
end PC
set_option Elab.async false
set_option linter.all false
set_option maxRecDepth 100000
set_option maxHeartbeats 4000000
namespace PC
open PySem PySem.Spec
open PyProof.Rows hiding St
open L2 PL TX PM
theorem cov_of {i j : Int} {n : Nat} (h0 : 0 < i) (h1 : i < j) (hn : j.natAbs < 2 ^ n) : (0 < Rat.divInt i j ∧ Rat.divInt i j < 1) ∧ Bd n (Rat.divInt i j) := by
  have h := inside_of h0 h1 hn
  exact ⟨⟨h.pos, h.lt⟩, h.bd⟩
/-- what the law draws: few layers with great numbers, or some with small ones -/
structure Shs (as : List Lay) : Prop where
  len : as.length ≤ 12
  ok : (as.length ≤ 3 ∧ ∀ b ∈ as, LayOk 41 b) ∨ ∀ b ∈ as, LayOk 3 b
theorem Shs.all {as : List Lay} (h : Shs as) : ∀ b ∈ as, LayOk 41 b := fun b hb => by
  rcases h.ok with ⟨_, k⟩ | k
  · exact k b hb
  · exact (k b hb).mono (by decide)
section
variable {P : Program} {w : World} {K : Fg} {mg : PySem.Str → Option Value} {base : Heap}
theorem c_sheet (T : Tx ex fn K mg) : FnR P w K mg base CX0 3 (aGlo "_law_sheet" K) (spG (aC (sBox okPool) aN) (fun _ => True) (sSh K) (fun _ r => LayOk 41 r)) := by
  obtain ⟨fd, F⟩ := f__law_sheet T
  refine fn_x F sc__law_sheet (argC_cons argC_nil) (fun _ => rfl) (n := 0) (fun _ => rfl) (fun cdv A outer s H E hr ⟨_, _⟩ hp => ?_) (fun _ _ _ _ _ _ us hl => match us, hl with | [_], _ => rfl)
  refine xb_ret (ef (xe_imp (x_ofSh (x_tup3 (x_callP (c_mode T) hr (g__law_mode T) (k__law_mode T) (xa (xv 0) xa0) trivial) (x_callP (c_gray T) hr (g__law_gray T) (k__law_gray T) (xa (xv 0) xa0) trivial) (x_callP (c_inside T) hr (g__law_inside T) (k__law_inside T) (xa (xv 0) xa0) trivial))) fun a h => ?_))
  obtain ⟨_, h2, h3⟩ := h
  have h2 : Gray 41 a.tint := h2
  have h3 : Inside 41 a.cover := h3
  exact ⟨of_decide_eq_true h2.1, ⟨h3.pos, h3.lt⟩, h2.2, h3.bd⟩
theorem c_small (T : Tx ex fn K mg) : FnR P w K mg base CX0 3 (aGlo "_law_small" K) (spG (aC (sBox okPool) aN) (fun _ => True) (sSh K) (fun _ r => LayOk 3 r)) := by
  obtain ⟨fd, F⟩ := f__law_small T
  refine fn_x F sc__law_small (argC_cons argC_nil) (fun _ => rfl) (n := 4) (fun _ => rfl) (fun cdv A outer s H E hr ⟨_, _⟩ hp => ?_) (fun _ _ _ _ _ _ us hl => match us, hl with | [_], _ => rfl)
  have h1 : Room 1 _ := hr.mono (by decide)
  have dr : ∀ (m : Int), 0 < m → m < 2 ^ 60 → 0 < m ∧ m.natAbs < 2 ^ 9000 := fun m h1 h2 => ⟨h1, Nat.lt_of_lt_of_le (show m.natAbs < 2 ^ 60 by omega) (Nat.pow_le_pow_right (by decide) (by decide))⟩
  refine xb_par2P (s := sInt) (t := sInt) (P := fun b => 1 ≤ b ∧ b ≤ 4) (R := fun m => 2 ≤ m ∧ m ≤ 4) 1 2 rfl sc__law_small.nd (xa_imp (xa_consG (xe_imp (P' := fun b => 1 ≤ b ∧ b ≤ 4) (x_op op_add o2_I0 x_int (x_callP (c_draw T) h1 (g__law_draw T) (k__law_draw T) (xa (xv 0) (xa x_int xa0)) (dr 4 (by decide) (by decide))) (fun _ _ _ _ => trivial)) ?_)
    (xa_consG (xe_imp (P' := fun b => 2 ≤ b ∧ b ≤ 4) (x_op op_add o2_I0 x_int (x_callP (c_draw T) h1 (g__law_draw T) (k__law_draw T) (xa (xv 0) (xa x_int xa0)) (dr 3 (by decide) (by decide))) (fun _ _ _ _ => trivial)) ?_) xa_nil)) fun ab h => ⟨h.1, h.2.1⟩) fun b m hb hm => ?_
  · rintro r ⟨u, v, e1, h, e2⟩
    have h : 0 ≤ v ∧ v < 4 := h
    have e2 : r = u + v := e2
    subst e1
    omega
  · rintro r ⟨u, v, e1, h, e2⟩
    have h : 0 ≤ v ∧ v < 3 := h
    have e2 : r = u + v := e2
    subst e1
    omega
  obtain ⟨hb1, hb2⟩ := hb
  obtain ⟨hm1, hm2⟩ := hm
  refine xb_par2P (s := sQ K) (t := sQ K) (P := fun t => (0 ≤ t ∧ t ≤ 1) ∧ Bd 3 t) (R := fun c => (0 < c ∧ c < 1) ∧ Bd 3 c) 3 4 rfl sc__law_small.nd (xa_imp (xa_consG (xe_imp (P' := fun t => (0 ≤ t ∧ t ≤ 1) ∧ Bd 3 t) (x_callG (c_low T) h1 (g__law_low T) (k__law_low T) (xa_consG (x_callP (c_draw T) h1 (g__law_draw T) (k__law_draw T) (xa (xv 0) (xa (x_opD (f := fun a b => a + b) op_add o2_I0 (xv 1) x_int trivial) xa0)) (dr (b + 1) (by omega) (by omega))) (xa (xv 1) xa0)) fun a ha => ?_) fun r h => ?_)
    (xa_consG (xe_imp (P' := fun c => (0 < c ∧ c < 1) ∧ Bd 3 c) (x_callG (c_low T) h1 (g__law_low T) (k__law_low T) (xa_consG (x_op op_add o2_I0 x_int (x_callP (c_draw T) h1 (g__law_draw T) (k__law_draw T) (xa (xv 0) (xa (x_opD (f := fun a b => a - b) op_sub o2_I0 (xv 2) x_int trivial) xa0)) (dr (m - 1) (by omega) (by omega))) (fun _ _ _ _ => trivial)) (xa (xv 2) xa0)) fun a ha => ?_) fun r h => ?_) xa_nil)) fun ab h => ⟨h.1, h.2.1⟩) fun t c ht hc => ?_
  · obtain ⟨h1, h2⟩ := ha
    rw [h2]
    exact dr b (by omega) (by omega)
  · obtain ⟨a, ⟨h1, h2⟩, h3⟩ := h
    have h1 : 0 ≤ a.1 ∧ a.1 < b + 1 := h1
    have h3 : r = Rat.divInt a.1 a.2.1 := h3
    rw [h2] at h3
    have g := gray_of (n := 3) h1.1 (show a.1 ≤ b by omega) (show 0 < b by omega) (by show b.natAbs < 8; omega)
    rw [show Rat.divInt a.1 b = r from h3.symm] at g
    exact ⟨of_decide_eq_true g.1, g.2⟩
  · obtain ⟨h1, h2⟩ := ha
    rw [h2]
    exact dr m (by omega) (by omega)
  · obtain ⟨a, ⟨⟨u, v, e1, h1, q1⟩, h2⟩, h3⟩ := h
    have h1 : 0 ≤ v ∧ v < m - 1 := h1
    have q1 : a.1 = u + v := q1
    have h3 : r = Rat.divInt a.1 a.2.1 := h3
    subst e1
    rw [h2] at h3
    rw [h3]
    exact cov_of (by omega) (by show a.1 < m; omega) (by show m.natAbs < 8; omega)
  · refine xb_ret (ef (xe_imp (x_ofSh (x_tup3 (x_callP (c_mode T) hr (g__law_mode T) (k__law_mode T) (xa (xv 0) xa0) trivial) (xv 3) (xv 4))) fun a h => ?_))
    obtain ⟨_, h2, h3⟩ := h
    have h2 : a.tint = t := h2
    have h3 : a.cover = c := h3
    exact ⟨by rw [h2]; exact ht.1, by rw [h3]; exact hc.1, by rw [h2]; exact ht.2, by rw [h3]; exact hc.2⟩
theorem c_sheets (T : Tx ex fn K mg) : FnR P w K mg base CX0 4 (aGlo "_law_sheets" K) (spG (aC (sBox okPool) (aC sInt aN)) (fun a => 0 ≤ a.2.1 ∧ a.2.1 ≤ 12) (sL K (sSh K)) (fun _ r => Shs r)) := by
  obtain ⟨fd, F⟩ := f__law_sheets T
  refine fn_x F sc__law_sheets (argC_cons (argC_cons argC_nil)) (fun _ => rfl) (n := 2) (fun _ => rfl) (fun cdv A outer s H E hr ⟨pl, hi, _⟩ hp => ?_) (fun _ _ _ _ _ _ us hl => match us, hl with | [_, _], _ => rfl)
  obtain ⟨p1, p2⟩ := hp
  have p1 : 0 ≤ hi := p1
  have p2 : hi ≤ 12 := p2
  have nd := sc__law_sheets.nd
  have h1 : Room 1 _ := hr.mono (by decide)
  have h3 : Room 3 _ := hr
  have dr : ∀ (m : Int), 0 < m → m < 2 ^ 60 → 0 < m ∧ m.natAbs < 2 ^ 9000 := fun m h1 h2 => ⟨h1, Nat.lt_of_lt_of_le (show m.natAbs < 2 ^ 60 by omega) (Nat.pow_le_pow_right (by decide) (by decide))⟩
  refine xb_setP (s := sInt) (P := fun b => 0 ≤ b ∧ b ≤ 12) 2 nd (ef (xe_imp (x_callP (c_draw T) h1 (g__law_draw T) (k__law_draw T) (xa (xv 0) (xa (x_opD (f := fun a b => a + b) op_add o2_I0 (xv 1) x_int trivial) xa0)) (dr (hi + 1) (by omega) (by omega))) fun r h => ?_)) fun m hm => ?_
  · have h : 0 ≤ r ∧ r < hi + 1 := h
    omega
  obtain ⟨m1, m2⟩ := hm
  refine xb_ret (ef (xe_imp (x_lcG (s := sSh K) (Pl := fun l : List Int => l = rangeL 0 m.toNat) (Pe := fun _ y => LayOk 41 y ∧ (4 ≤ m → LayOk 3 y)) [("_law_k", 3)] rfl nd (xi_imp (xi_range1 (n_range T) (xv 2) fun n h => by have h : n = m := h; omega) fun zs hz => ?_) (blkOk_by (own := [("_law_k", 3)]) (N := N__law_sheets) (sc := defScope s__law_sheets) (by decide +kernel)) (fun _ _ _ _ _ => pg_name nd rfl (Or.inl rfl)) (tgt_name 3) (fun l e => by rw [e, rangeL_len]; omega) (fun x hx s' H C cl fp => ?_)) fun ys h => ?_))
  · obtain ⟨n, rfl, e⟩ := hz
    exact e
  · refine x_ifE (Pc := fun b => b = decide (m < 4)) (xt_eq (xt_cmpD (f := fun a b => decide (a < b)) op_lt o2_B0 (xv 2) x_int trivial) rfl) (fun h => xe_imp (x_callP (c_sheet T) h3 (g__law_sheet T) (k__law_sheet T) (xa (xv 0) xa0) trivial) fun r q => ?_) fun h => xe_imp (x_callP (c_small T) h3 (g__law_small T) (k__law_small T) (xa (xv 0) xa0) trivial) fun r q => ?_
    · have h : m < 4 := of_decide_eq_true h.symm
      exact ⟨q, fun z => by omega⟩
    · exact ⟨LayOk.mono (k := 3) q (by decide), fun _ => q⟩
  · obtain ⟨xs, rfl, l⟩ := h
    have hl := lcr_len2 l
    rw [rangeL_len] at hl
    have ha := lcr_all2 (R := fun y => LayOk 41 y ∧ (4 ≤ m → LayOk 3 y)) (fun _ _ h => h) l
    refine ⟨by omega, ?_⟩
    by_cases h4 : 4 ≤ m
    · exact .inr fun b hb => (ha b hb).2 h4
    · exact .inl ⟨by omega, fun b hb => (ha b hb).1⟩
end
end PC
set_option Elab.async false
set_option linter.all false
set_option maxRecDepth 100000
set_option maxHeartbeats 4000000
namespace PC
open PySem PySem.Spec
open PyProof.Rows hiding St
open L2 PL TX PM
/-! ### plain -/
section
variable {P : Program} {w : World} {K : Fg} {mg : PySem.Str → Option Value} {base : Heap}
def PrPl (m : Mode) (a : (Rat × Rat) × Unit) : Prop := ∃ k, LayOk k ⟨m, a.1.1, a.1.2⟩ ∧ 2 * k + 20 ≤ 9000
theorem fldm {m : Mode} (T : Tx ex fn K mg) : Fld K (sLm K m) "tint" (sF K) (fun a => a.1) ∧ Fld K (sLm K m) "cover" (sF K) (fun a => a.2) := ⟨fun H v a ⟨p, dx, x, y, z, h1, h2, h3, h4, h5⟩ => ⟨p, _, dx, _, _, h1, h2, (clL T _).cl, naTint T _, rfl, h3⟩, fun H v a ⟨p, dx, x, y, z, h1, h2, h3, h4, h5⟩ => ⟨p, _, dx, _, _, h1, h2, (clL T _).cl, naCover T _, rfl, h4⟩⟩
theorem lay_plain {k : Nat} {m : Mode} {t c : Rat} (h : LayOk k ⟨m, t, c⟩) : LayOk k ⟨.normal, t, c⟩ := ⟨h.tint, h.cover, h.bt, h.bc⟩
theorem num_pos {q : Rat} (h : 0 < q.num) : 0 < q := by
  apply (Rat.lt_iff 0 q).mpr
  simpa using h
theorem c_Normal_plain (T : Tx ex fn K mg) : FnR P w K mg base CX0 1 (aMet "Normal" "plain" K) (spG (aC (sLm K .normal) aN) (PrPl .normal) (sOpt (sLy K)) (fun a r => r = plainOf ⟨.normal, a.1.1, a.1.2⟩)) := by
  obtain ⟨fd, F⟩ := f_Normal_plain T
  refine fn_x F sc_Normal_plain (argC_cons argC_nil) (fun _ => rfl) (n := 0) (fun _ => rfl) (fun cdv A outer s H E hr ⟨⟨t, c⟩, _⟩ hp => ?_) (fun _ _ _ _ _ _ us hl => match us, hl with | [_], _ => rfl)
  exact xb_ret (ef (xe_eq (x_someL (x_ofM (xv 0))) rfl))
theorem c_Darken_plain (T : Tx ex fn K mg) : FnR P w K mg base CX0 8 (aMet "Darken" "plain" K) (spG (aC (sLm K .darken) aN) (PrPl .darken) (sOpt (sLy K)) (fun a r => r = plainOf ⟨.darken, a.1.1, a.1.2⟩)) := by
  obtain ⟨fd, F⟩ := f_Darken_plain T
  refine fn_x F sc_Darken_plain (argC_cons argC_nil) (fun _ => rfl) (n := 0) (fun _ => rfl) (fun cdv A outer s H E hr ⟨⟨t, c⟩, _⟩ hp => ?_) (fun _ _ _ _ _ _ us hl => match us, hl with | [_], _ => rfl)
  obtain ⟨k, L, hk⟩ := hp
  have L : LayOk k ⟨.darken, t, c⟩ := L
  refine xb_ret (ef (x_ifE (Pc := fun b => b = decide (t.num = 0)) (xt_eq (xt_cmpD (f := fun a b => decide (a = b)) op_eq o2_eqI (x_top T (hr.mono (by decide)) (x_fld (fldm T).1 (xv 0))) x_int trivial) rfl) (fun h => xe_eq (x_someL (x_lay T .normal (g_Normal T) hr (x_fld (fldm T).1 (xv 0)) (x_fld (fldm T).2 (xv 0)) ⟨k, lay_plain L, by omega⟩)) ?_) fun h => xe_eq x_noneO ?_))
  · exact (if_pos (of_decide_eq_true h.symm)).symm
  · exact (if_neg (of_decide_eq_false h.symm)).symm
theorem c_Lighten_plain (T : Tx ex fn K mg) : FnR P w K mg base CX0 8 (aMet "Lighten" "plain" K) (spG (aC (sLm K .lighten) aN) (PrPl .lighten) (sOpt (sLy K)) (fun a r => r = plainOf ⟨.lighten, a.1.1, a.1.2⟩)) := by
  obtain ⟨fd, F⟩ := f_Lighten_plain T
  refine fn_x F sc_Lighten_plain (argC_cons argC_nil) (fun _ => rfl) (n := 0) (fun _ => rfl) (fun cdv A outer s H E hr ⟨⟨t, c⟩, _⟩ hp => ?_) (fun _ _ _ _ _ _ us hl => match us, hl with | [_], _ => rfl)
  obtain ⟨k, L, hk⟩ := hp
  have L : LayOk k ⟨.lighten, t, c⟩ := L
  refine xb_ret (ef (x_ifE (Pc := fun b => b = decide (t = 1)) (xt_eq (xt_eqF T (hr.mono (by decide)) (x_fld (fldm T).1 (xv 0)) (x_F1 T (hr.mono (by decide)) x_int)) rfl) (fun h => xe_eq (x_someL (x_lay T .normal (g_Normal T) hr (x_fld (fldm T).1 (xv 0)) (x_fld (fldm T).2 (xv 0)) ⟨k, lay_plain L, by omega⟩)) ?_) fun h => xe_eq x_noneO ?_))
  · exact (if_pos (of_decide_eq_true h.symm)).symm
  · exact (if_neg (of_decide_eq_false h.symm)).symm
theorem lay_mul {k : Nat} {m : Mode} {t c d : Rat} (h : LayOk k ⟨m, t, c⟩) (hd : 0 ≤ d ∧ d ≤ 1) (bd : Bd (k + 2) d) (hz : d = 1 - t ∨ d = t) (hp : 0 < (c * d).num) {t' : Rat} (ht : 0 ≤ t' ∧ t' ≤ 1) (bt : Bd 1 t') : LayOk (2 * k + 2) ⟨.normal, t', c * d⟩ := by
  have hc := h.cover
  have hc0 : 0 < c := hc.1
  have hc1 : c < 1 := hc.2
  refine ⟨ht, ⟨num_pos hp, ?_⟩, bt.mono (by omega), (bd_mul h.bc bd).mono (by omega)⟩
  show c * d < 1
  have := Rat.mul_nonneg (Rat.le_of_lt hc0) (show 0 ≤ 1 - d by grind)
  grind
theorem c_Multiply_plain (T : Tx ex fn K mg) : FnR P w K mg base CX0 8 (aMet "Multiply" "plain" K) (spG (aC (sLm K .multiply) aN) (PrPl .multiply) (sOpt (sLy K)) (fun a r => r = plainOf ⟨.multiply, a.1.1, a.1.2⟩)) := by
  obtain ⟨fd, F⟩ := f_Multiply_plain T
  refine fn_x F sc_Multiply_plain (argC_cons argC_nil) (fun _ => rfl) (n := 1) (fun _ => rfl) (fun cdv A outer s H E hr ⟨⟨t, c⟩, _⟩ hp => ?_) (fun _ _ _ _ _ _ us hl => match us, hl with | [_], _ => rfl)
  obtain ⟨k, L, hk⟩ := hp
  have L : LayOk k ⟨.multiply, t, c⟩ := L
  have bt : Bd k t := L.bt
  have bc : Bd k c := L.bc
  have ht : 0 ≤ t ∧ t ≤ 1 := L.tint
  have h5 : Room 5 _ := hr.mono (by decide)
  have h4 : Room 4 _ := hr.mono (by decide)
  have h2 : Room 2 _ := hr.mono (by decide)
  have bd : Bd (k + 2) (1 - t) := (bd_sub (n := 1) ⟨by decide, by decide⟩ bt).mono (by omega)
  refine xb_set 1 (a := c * (1 - t)) sc_Multiply_plain.nd (xe_eq (x_mulF T h5 (x_fld (fldm T).2 (xv 0)) (x_subF T h5 (x_F1 T h4 x_int) (x_fld (fldm T).1 (xv 0)) (.mk' (n := 1) ⟨by decide, by decide⟩ bt (by omega))) (.mk' bc bd (by omega))) rfl) ?_
  refine xb_ret (ef (x_ifE (Pc := fun b => b = decide (0 < (c * (1 - t)).num)) (xt_eq (xt_cmpD (f := fun a b => decide (b < a)) op_gt o2_B0 (x_top T h2 (xv 1)) x_int trivial) rfl) (fun h => xe_eq (x_someL (x_lay T .normal (g_Normal T) hr (x_F1 T h4 x_int) (xv 1) ⟨2 * k + 2, lay_mul L ⟨by grind, by grind⟩ bd (.inl rfl) (of_decide_eq_true h.symm) ⟨by decide, by decide⟩ ⟨by decide, by decide⟩, by omega⟩)) ?_) fun h => xe_eq x_noneO ?_))
  · exact (if_pos (of_decide_eq_true h.symm)).symm
  · exact (if_neg (of_decide_eq_false h.symm)).symm
theorem c_Screen_plain (T : Tx ex fn K mg) : FnR P w K mg base CX0 8 (aMet "Screen" "plain" K) (spG (aC (sLm K .screen) aN) (PrPl .screen) (sOpt (sLy K)) (fun a r => r = plainOf ⟨.screen, a.1.1, a.1.2⟩)) := by
  obtain ⟨fd, F⟩ := f_Screen_plain T
  refine fn_x F sc_Screen_plain (argC_cons argC_nil) (fun _ => rfl) (n := 1) (fun _ => rfl) (fun cdv A outer s H E hr ⟨⟨t, c⟩, _⟩ hp => ?_) (fun _ _ _ _ _ _ us hl => match us, hl with | [_], _ => rfl)
  obtain ⟨k, L, hk⟩ := hp
  have L : LayOk k ⟨.screen, t, c⟩ := L
  have bt : Bd k t := L.bt
  have bc : Bd k c := L.bc
  have ht : 0 ≤ t ∧ t ≤ 1 := L.tint
  have h5 : Room 5 _ := hr.mono (by decide)
  have h4 : Room 4 _ := hr.mono (by decide)
  have h2 : Room 2 _ := hr.mono (by decide)
  refine xb_set 1 (a := c * t) sc_Screen_plain.nd (xe_eq (x_mulF T h5 (x_fld (fldm T).2 (xv 0)) (x_fld (fldm T).1 (xv 0)) (.mk' bc bt (by omega))) rfl) ?_
  refine xb_ret (ef (x_ifE (Pc := fun b => b = decide (0 < (c * t).num)) (xt_eq (xt_cmpD (f := fun a b => decide (b < a)) op_gt o2_B0 (x_top T h2 (xv 1)) x_int trivial) rfl) (fun h => xe_eq (x_someL (x_lay T .normal (g_Normal T) hr (x_F1 T h4 x_int) (xv 1) ⟨2 * k + 2, lay_mul L ht (bt.mono (by omega)) (.inr rfl) (of_decide_eq_true h.symm) ⟨by decide, by decide⟩ ⟨by decide, by decide⟩, by omega⟩)) ?_) fun h => xe_eq x_noneO ?_))
  · exact (if_pos (of_decide_eq_true h.symm)).symm
  · exact (if_neg (of_decide_eq_false h.symm)).symm
end
section
variable {X : Cx} {Γ : List Cell} {o : Expr} {pos apos : Pos} {a : Lay} (T : Tx ex fn X.K X.mg)
include T
theorem x_plain {pl : Sem Bool} (hr : Room 8 X.A) (h : XE X o Γ (sLy X.K) (· = a)) (hp : ∃ k, LayOk k a ∧ 2 * k + 20 ≤ 9000)
    (ht : eval (.Call (.Attribute o "plain" apos) [] [] pos) X.env = (do
      let ov ← eval o X.env
      standAt apos.atName
      let (f, first) ← holding [ov] (getMethod ov "plain" pl)
      callWith pos f first (backTo pos (starEach [] X.env)) (backToKw pos (keywordEach [] X.env))) := by rfl) : XE X (.Call (.Attribute o "plain" apos) [] [] pos) Γ (sOpt (sLy X.K)) (· = plainOf a) := by
  obtain ⟨m, t, c⟩ := a
  have h := x_asM h
  cases m
  · exact xe_imp (x_meth0 (pl := pl) (s := sLm X.K .normal) (ins_LM (m := .normal) (by decide) (by decide) (by decide)) (clL T .normal).cl (mm_Normal_plain T) (c_Normal_plain T) (hr.mono (by decide)) h hp ht) fun r h => h
  · exact xe_imp (x_meth0 (pl := pl) (s := sLm X.K .darken) (ins_LM (m := .darken) (by decide) (by decide) (by decide)) (clL T .darken).cl (mm_Darken_plain T) (c_Darken_plain T) hr h hp ht) fun r h => h
  · exact xe_imp (x_meth0 (pl := pl) (s := sLm X.K .lighten) (ins_LM (m := .lighten) (by decide) (by decide) (by decide)) (clL T .lighten).cl (mm_Lighten_plain T) (c_Lighten_plain T) hr h hp ht) fun r h => h
  · exact xe_imp (x_meth0 (pl := pl) (s := sLm X.K .multiply) (ins_LM (m := .multiply) (by decide) (by decide) (by decide)) (clL T .multiply).cl (mm_Multiply_plain T) (c_Multiply_plain T) hr h hp ht) fun r h => h
  · exact xe_imp (x_meth0 (pl := pl) (s := sLm X.K .screen) (ins_LM (m := .screen) (by decide) (by decide) (by decide)) (clL T .screen).cl (mm_Screen_plain T) (c_Screen_plain T) hr h hp ht) fun r h => h
end
end PC
set_option Elab.async false
set_option linter.all false
set_option maxRecDepth 100000
set_option maxHeartbeats 4000000
namespace PL
open PySem PySem.Spec
open PyProof.Rows hiding St
open L2

/-! ### generators -/
section
variable {X : Cx} {body : List Stmt}
theorem weakG {t t' : TGn} (h : GSs X body t) (k : ∀ D ys σ H, t' D ys σ H → t D ys σ H) : GSs X body t' := ⟨fun A S ip R n ys s₀ c fs K J gd lv s σ H D g hn hk hI ht => h.run A S ip R n ys s₀ c fs K J gd lv s σ H D g hn hk hI (k _ _ _ _ ht)⟩
theorem exG {ι : Sort _} {t : ι → TGn} (h : ∀ i, GSs X body (t i)) : GSs X body (fun D ys σ H => ∃ i, t i D ys σ H) := ⟨fun A S ip R n ys s₀ c fs K J gd lv s σ H D g hn hk hI ⟨i, ht⟩ => (h i).run A S ip R n ys s₀ c fs K J gd lv s σ H D g hn hk hI ht⟩
theorem condG {t : TGn} {c : Prop} (h : c → GSs X body t) : GSs X body (fun D ys σ H => c ∧ t D ys σ H) := ⟨fun A S ip R n ys s₀ cc fs K J gd lv s σ H D g hn hk hI ⟨q, ht⟩ => (h q).run A S ip R n ys s₀ cc fs K J gd lv s σ H D g hn hk hI ht⟩
end
/-- a generator's body from here on: Γ the slots, out what is handed out so far, G what is wanted at the end (and behind a turn) -/
def tyF {γ : Type} (H0 : Hp) (Γ : List Cell) (sO : Sh γ) (out : List γ) (G : List Cell → List γ → Prop) : TGn := fun D ys σ H =>
  Env H σ Γ ∧ Same H0 H ∧ Paired (sO H) ys out ∧ ∀ Γ' out' ys' σ' H', G Γ' out' → Env H' σ' Γ' → Same H0 H' → Paired (sO H') ys' out' → D.nx ys' σ' H'
abbrev XY (X : Cx) {γ : Type} (body : List Stmt) (Γ : List Cell) (sO : Sh γ) (out : List γ) (G : List Cell → List γ → Prop) : Prop := ∀ H0, GSs X body (tyF H0 Γ sO out G)
section
variable {X : Cx} {Γ : List Cell} {α β γ ρ : Type} {s : Sh α} {sO : Sh γ} {P : α → Prop} {out : List γ} {G : List Cell → List γ → Prop} {e e1 tg : Expr} {rest body : List Stmt} {pos p p1 yp : Pos} {x : Str}
theorem xy_nil (h : G Γ out) : XY X [] Γ sO out G := fun H0 => weakG gss_nil fun D ys σ H ⟨E, sm, pr, k⟩ => k Γ out ys σ H h E sm pr
theorem xy_set (i : Nat) {a : α} [m : Mo s] [Mo sO] (hN : X.N.Nodup) (he : XE X e Γ s (· = a)) (h : XY X rest (Γ.set i (.is s m a)) sO out G) (hi : X.N[i]? = some x := by rfl) (hx : Loc X.env.scope x := by first | exact Or.inl rfl | exact Or.inr rfl)
    (hs : swapsWith e (some (.Name x p1)) pos.line X.env = pure false := by rfl) (hf : X.fn x = true ∨ X.env.scope.names.lookup x = some .local := by first | exact .inl rfl | exact .inr rfl | assumption) : XY X (.Assign [.Name x p1] e pos :: rest) Γ sO out G := fun H0 =>
  weakG (gss_cons (gs_ps (ps_set hN hi hx he hs hf)) (h H0)) fun D ys σ H ⟨E, sm, pr, k⟩ => ⟨E, fun b v H' pb sm2 sv => by
    subst pb
    exact ⟨(E.up sm2).set sv, sm.trans sm2, paired_up sm2 pr, k⟩⟩
theorem xy_expr [Mo sO] (he : XE X e Γ s P) (h : XY X rest Γ sO out G) (hs : swapsWith e none pos.line X.env = pure false := by rfl) : XY X (.Expr e pos :: rest) Γ sO out G := fun H0 =>
  weakG (gss_cons (gs_ps (ps_expr he hs)) (h H0)) fun D ys σ H ⟨E, sm, pr, k⟩ => ⟨E, fun b v H' pb sm2 sv => ⟨E.up sm2, sm.trans sm2, paired_up sm2 pr, k⟩⟩
theorem xy_yield {b : γ} [Mo sO] (he : XE X e Γ sO (· = b)) (h : XY X rest Γ sO (out ++ [b]) G) (hl : out.length < 16777216) (hco : X.env.scope.isCoroutine = false := by rfl) (hi : interactive X.env = false := by rfl) : XY X (.Expr (.Yield (some e) yp) pos :: rest) Γ sO out G := fun H0 =>
  weakG (gss_cons (gs_yield he hco hi) (h H0)) fun D ys σ H ⟨E, sm, pr, k⟩ => ⟨by rw [Paired.length pr]; exact hl, E, fun c v H' pc sm2 sv => by
    subst pc
    exact ⟨E.up sm2, sm.trans sm2, Paired.app (paired_up sm2 pr) (.cons sv .nil), k⟩⟩
theorem xy_for {iter : Expr} {sx : Sh α} {xs : List α} {gt : TG} {vs : List Nat} {up : α → List Cell → List Cell} [Mo sO] (I : Nat → List Cell → List γ → Prop) (hp : PassesOwn (model X.prog X.w) X.A X.env X.xe) (hc : X.calm = true)
    (hi : XI X tg iter Γ sx (· = xs)) (hg : PG X tg gt) (ht : Tgt gt vs sx up) (h0 : I 0 Γ out)
    (hs : ∀ i x Γ' out', xs[i]? = some x → I i Γ' out' → XY X body (up x Γ') sO out' (I (i + 1)))
    (hr : ∀ Γ' out', I xs.length Γ' out' → XY X rest Γ' sO out' G) (hf : ∀ x, foldedSetIterable iter X.env x = pure x := by intro _; rfl) : XY X (.For tg iter body [] pos :: rest) Γ sO out G := fun H0 => by
  have B : ∀ H1, GSs X body (fun D ys σ H => ∃ q : (Nat × α) × (List Cell × List γ), (xs[q.1.1]? = some q.1.2 ∧ I q.1.1 q.2.1 q.2.2) ∧ tyF H1 (up q.1.2 q.2.1) sO q.2.2 (I (q.1.1 + 1)) D ys σ H) := fun H1 => exG fun q => condG fun h => hs q.1.1 q.1.2 q.2.1 q.2.2 h.1 h.2 H1
  have Rst : GSs X rest (fun D ys σ H => ∃ q : List Cell × List γ, I xs.length q.1 q.2 ∧ tyF H0 q.1 sO q.2 G D ys σ H) := exG fun q => condG fun h => hr q.1 q.2 h H0
  refine weakG (gss_cons (gs_for hp hc hi hg (exG B) hf) Rst) fun D ys σ H ⟨E, sm, pr, k⟩ => ⟨E, fun J H1 as pa sm1 ok => ?_⟩
  obtain rfl : as = xs := pa
  obtain ⟨Gw, Y, w, hG, hY⟩ := ok.ex
  refine ⟨fun i m ys' σ' H' => m = as.length - i ∧ i ≤ as.length ∧ ∃ Γ' out', I i Γ' out' ∧ Env H' σ' Γ' ∧ Same H1 H' ∧ Paired (sO H') ys' out', ⟨as.length, by simp, Nat.zero_le _, Γ, out, h0, E.up sm1, Same.refl _, paired_up sm1 pr⟩, ?_⟩
  rintro i m ys' σ' H' ⟨rfl, hil, Γ', out', iv, E', sm', pr'⟩
  by_cases hlt : i < as.length
  · refine .inr ⟨w.goes i H' hlt (hG _ sm'), fun ys2 σ2 H2 => ∃ Γ2 out2, I (i + 1) Γ2 out2 ∧ Env H2 σ2 Γ2 ∧ Same H1 H2 ∧ Paired (sO H2) ys2 out2, fun ys2 σ2 H2 z => ⟨as.length - (i + 1), by omega, rfl, hlt, z⟩, fun v H2 y => ?_⟩
    obtain ⟨sm2, x, hx, sv, _⟩ := hY i H' v H2 sm' (w.yields i H' v H2 hlt (hG _ sm') y)
    refine ht v x σ' H2 H2 Γ' _ (Same.refl _) sv (E'.up sm2) fun σ2 E2 _ _ => ⟨H1, ((i, x), (Γ', out')), ⟨hx, iv⟩, E2, sm'.trans sm2, paired_up sm2 pr', fun Γ3 out3 ys3 σ3 H3 g3 E3 sm3 pr3 => ⟨Γ3, out3, g3, E3, sm3, pr3⟩⟩
  · have e : i = as.length := by omega
    subst e
    exact .inl ⟨w.stops H' (hG _ sm'), (Γ', out'), iv, E', (sm.trans sm1).trans sm', pr', k⟩
end
/-- what a generator def promises: the values that it hands out -/
def spY {α γ : Type} (sa : ShA α) (pre : α → Prop) (sO : Sh γ) (Fo : α → List γ) : SpG := fun vs H Q _ => ∃ a, sa H vs a ∧ pre a ∧ ∀ ys H', Same H H' → Paired (sO H') ys (Fo a) → Q ys H'
section
variable {P : Program} {w : World} {K : PySem.W.Frag} {mg : Str → Option Value} {base : Heap} {x qual : Str} {params : Arguments} {body : List Stmt} {scope : Scope} {f : Addr} {fd : FuncData}
theorem fn_gen {α γ : Type} {sa : ShA α} {cs : α → List Cell} {pre : α → Prop} {sO : Sh γ} {Fo : α → List γ} {N ps : List Str} {k n : Nat} (F : FunD K x qual params body scope [] [] f fd) (S : GScope N ps scope) (hA : ArgC sa cs) (hl : ∀ a, (cs a).length = ps.length) (hn : ∀ a, N.length = (cs a).length + n)
    (hb : ∀ (cdv : Value) (A : Around) (outer : List PySem.Env) (s : Shared) (H : Hp) (E : XK) (pn : List (Addr × Obj)), Room k (A.deeper (envOfC qual scope s.heap.objs.size f cdv)) → ∀ a, pre a →
      XY (gcxOf P w K mg base N qual scope f cdv A outer s H E pn) body (cs a ++ List.replicate n .no) sO [] (fun _ out => out = Fo a)) : GFn P w K mg base (k + 1) f fd ps (spY sa pre sO Fo) := by
  obtain ⟨oc, od, dV, kV, doc, pm, an, cdv, ct, osl, rfl, lk, hcd, _, _⟩ := F.ex
  refine gfn_of lk hcd S (fun vs H Q E ⟨a, ha, _⟩ => by rw [hA.len ha]; exact hl a) fun A outer s H vs Q E pn hr ⟨a, ha, hp, q⟩ => ?_
  refine ⟨_, hb cdv A outer s H E pn hr a hp H, env_start hA ha (hn a), Same.refl _, .nil, fun Γ' out' ys' σ' H' g E' sm pr => ?_⟩
  subst g
  exact q ys' H' sm pr
end
section
variable {X : Cx} {Γ : List Cell} {α β γ : Type} {s : Sh α} {sO : Sh γ} {sa : ShA β} {a : α} {b : β} {o e : Expr} {es : List Expr} {pos pos' apos p : Pos} {C f : Addr} {fd : FuncData} {ps : List Str} {k : Nat} {m : Str}
/-- list(o.m(e, ..)), m a generator -/
theorem x_listM {pre : α × β → Prop} {Fo : α × β → List γ} {pl : Sem Bool} [Mo s] (hi : ∀ (H : Hp) (v : V) (a : α), s H v a → ∃ p dx fs, v = .ref p ∧ H p = some (.ins C dx fs) ∧ fs.lookup m = none) (c : Cls X.K C) (hm : Meth X.K C m f) (F : GFn X.prog X.w X.K X.mg X.base k f fd ps (spY (aC s sa) pre sO Fo)) (hb : Binds X.K fd ps [])
    (hr : Room (k + 3) X.A) (hr' : Room k X.A) [Mo sO] (ho : XE X o Γ s (· = a)) (h : XA X (e :: es) Γ sa (· = b)) (hp : pre (a, b)) (hmg : X.mg "list" = none) (hg : Gl X "list" := by rfl)
    (hst : starEach (e :: es) X.env = (false, eval e X.env) :: starEach es X.env := by rfl) (hpl : (backTo pos' (starEach es X.env)).any (·.1) = false := by rfl)
    (ht : eval (.Call (.Attribute o m apos) (e :: es) [] pos') X.env = (do
      let ov ← eval o X.env
      standAt apos.atName
      let (f, first) ← holding [ov] (getMethod ov m pl)
      callWith pos' f first (backTo pos' (starEach (e :: es) X.env)) (backToKw pos' (keywordEach [] X.env))) := by rfl)
    (he : starEach [.Call (.Attribute o m apos) (e :: es) [] pos'] X.env = (false, eval (.Call (.Attribute o m apos) (e :: es) [] pos') X.env) :: starEach [] X.env := by rfl) :
    XE X (.Call (.Name "list" p) [.Call (.Attribute o m apos) (e :: es) [] pos'] [] pos) Γ (sL X.K sO) (· = Fo (a, b)) :=
  weakE (pe_listG (E := E0) (pgen_meth ho c hm F hr' hb .nil h hst hpl ht) (fun _ _ _ _ _ _ _ z => by obtain ⟨_, _, _, _, _, _, _, _, _, _, _, _, q⟩ := z; exact q.elim) (fun _ _ _ z => z.elim) hr hg hmg (by kernel_rfl) (by decide) (by decide) he) fun σ H Q ⟨E, q⟩ => ⟨E, fun a' v H1 pa sm sv => by
    obtain rfl : a' = a := pa
    obtain ⟨p', dx, fs, rfl, hh, hl⟩ := hi _ _ _ sv
    refine ⟨p', dx, fs, rfl, hh, hl, E.up sm, fun b' ws H2 pb s2 sb => ?_⟩
    obtain rfl : b' = b := pb
    refine ⟨(a', b'), ⟨_, _, by rw [List.append_nil], Mo.up s2 sv, sb⟩, hp, fun ys H' s3 pr pp hpp => ?_⟩
    exact q (Fo (a', b')) (.ref pp) _ rfl (((sm.trans s2).trans s3).trans (Same.new hpp)) ⟨pp, ys, rfl, upd_same, paired_up (Same.new hpp) pr⟩⟩
end
end PL
set_option Elab.async false
set_option linter.all false
set_option maxRecDepth 100000
set_option maxHeartbeats 4000000
namespace PC
open PySem PySem.Spec
open PyProof.Rows hiding St
open L2 PL TX PM
/-- a backdrop, and what one sees after each layer -/
def stepsOf : List Lay → Rat → List Rat
  | [], x => [x]
  | a :: t, x => x :: stepsOf t (seen a x)
theorem stepsOf_snoc : ∀ (as : List Lay) (a : Lay) (x : Rat), stepsOf (as ++ [a]) x = stepsOf as x ++ [thru (as ++ [a]) x]
  | [], a, x => rfl
  | b :: t, a, x => by
    show x :: stepsOf (t ++ [a]) (seen b x) = _
    rw [stepsOf_snoc t a (seen b x)]
    rfl
theorem stepsOf_len : ∀ (as : List Lay) (x : Rat), (stepsOf as x).length = as.length + 1
  | [], x => rfl
  | a :: t, x => congrArg (· + 1) (stepsOf_len t _)
theorem stepsOf_last : ∀ (as : List Lay) (x : Rat), (stepsOf as x).getLast? = some (thru as x) := fun as x => by
  rcases List.eq_nil_or_concat as with h | ⟨t, a, h⟩
  · subst h; rfl
  · rw [h, List.concat_eq_append, stepsOf_snoc, List.getLast?_append]
    rfl
section
variable {P : Program} {w : World} {K : Fg} {mg : PySem.Str → Option Value} {base : Heap}
theorem c_S_steps (T : Tx ex fn K mg) : ∃ fd, Binds K fd ["self", "backdrop"] [] ∧ GFn P w K mg base 8 (aMet "Stack" "steps" K) fd ["self", "backdrop"] (spY (aC (sS K) (aC (sF K) aN)) (fun a => PrVt a.1 a.2.1) (sF K) (fun a => stepsOf a.1 a.2.1)) := by
  obtain ⟨fd, F⟩ := f_Stack_steps T
  refine ⟨fd, FunD.bindsN F (fun _ _ _ _ _ _ us hl => match us, hl with | [_, _], _ => rfl), ?_⟩
  refine fn_gen F gsc_Stack_steps (argC_cons (argC_cons argC_nil)) (fun _ => rfl) (n := 1) (fun _ => rfl) (fun cdv A outer s H E pn hr ⟨as, x, _⟩ hp => ?_)
  have nd := gsc_Stack_steps.nd
  obtain ⟨n, m, W, ok, h0, h1, hW, hm, hd, hn⟩ := hp
  have ok : StOk n as := ok
  have h0 : 0 ≤ x := h0
  have h1 : x ≤ 1 := h1
  have hd : x.den ∣ W := hd
  have hlen := ok.len
  have hv : isVal x = true := decide_eq_true ⟨h0, h1⟩
  refine xy_expr (x_callG (c_check_value T) (hr.mono (by decide)) (g_check_value T) (k_check_value T) (xa (xv 1) xa0) fun _ e => by subst e; exact hv) ?_
  refine xy_yield (b := x) (xe_eq (xv 1) rfl) ?_ (by show 0 < 16777216; decide)
  refine xy_for (xs := as) (gt := gName 2) (vs := [2]) (I := fun i Γ out => ∃ c2, Γ = [Ce (sS K) as, Ce (sF K) (thru (as.take i) x), c2] ∧ out = stepsOf (as.take i) x) owns_gcx rfl (xi_tup (P := (· = as)) (x_fld (fld_laid T) (xv 0))) (pg_name nd rfl (Or.inl rfl)) (tgt_name 2) ⟨_, rfl, rfl⟩ ?_ ?_
  · rintro i a Γ out hx ⟨c2, rfl, rfl⟩
    have la := ok.lay (List.mem_of_getElem? hx)
    have bx := thru_bd (ok.take i) h0 h1 hW hm hd
    have e1 : thru (as.take (i + 1)) x = seen a (thru (as.take i) x) := by rw [take_snoc hx, thru_snoc]
    refine xy_set (s := sF K) (a := thru (as.take (i + 1)) x) 1 nd (xe_eq (x_call (c_seen_over T) hr (g_seen_over T) (k_seen_over T) (xa (xv 2) (xa (xv 1) xa0)) ⟨n, n + m, la.bt, la.bc, bx, by omega⟩) e1.symm) ?_
    refine xy_yield (b := thru (as.take (i + 1)) x) (xe_eq (xv 1) rfl) (xy_nil ⟨_, rfl, ?_⟩) ?_
    · rw [take_snoc hx, stepsOf_snoc]
    · rw [stepsOf_len, List.length_take]
      omega
  · rintro Γ out ⟨c2, rfl, rfl⟩
    refine xy_nil ?_
    rw [List.take_length]
/-! layers are called -/
def callA (K : Fg) : Mode → Addr
  | .normal => aMet "Normal" "__call__" K
  | .darken => aMet "Darken" "__call__" K
  | .lighten => aMet "Lighten" "__call__" K
  | .multiply => aMet "Multiply" "__call__" K
  | .screen => aMet "Screen" "__call__" K
theorem coL (T : Tx ex fn K mg) : ∀ m : Mode, StX.CallO K (m.cls K) (callA K m)
  | .normal => co_Normal T
  | .darken => co_Darken T
  | .lighten => co_Lighten T
  | .multiply => co_Multiply T
  | .screen => co_Screen T
def PrCa (a : Lay) (x : Rat) : Prop := PrSe a x ∧ isVal x = true
theorem c_shown (T : Tx ex fn K mg) : FnR P w K mg base CX0 8 (aMet "Layer" "shown" K) (spD (aC (sLy K) (aC (sF K) aN)) (fun a => PrCa a.1 a.2.1) (sF K) (fun a => seen a.1 a.2.1)) := by
  obtain ⟨fd, F⟩ := f_Layer_shown T
  refine fn_x F sc_Layer_shown (argC_cons (argC_cons argC_nil)) (fun _ => rfl) (n := 0) (fun _ => rfl) (fun cdv A outer s H E hr ⟨a, x, _⟩ ⟨h1, h2⟩ => ?_) (fun _ _ _ _ _ _ us hl => match us, hl with | [_, _], _ => rfl)
  refine xb_expr (ef (x_callG (c_check_value T) (hr.mono (by decide)) (g_check_value T) (k_check_value T) (xa (xv 1) xa0) fun _ e => by subst e; exact h2)) ?_
  exact xb_ret (ef (xe_eq (x_call (c_seen_over T) hr (g_seen_over T) (k_seen_over T) (xa (xv 0) (xa (xv 1) xa0)) h1) rfl))
theorem c_Ly_call (SP : SupP P file) (C : SaysC sn K) (T : Tx ex fn K mg) (m : Mode) : FnR P w K mg base CX0 9 (callA K m) (spD (aC (sLm K m) (aC (sF K) aN)) (fun a => PrCa ⟨m, a.1.1, a.1.2⟩ a.2.1) (sF K) (fun a => seen ⟨m, a.1.1, a.1.2⟩ a.2.1)) := by
  have G := c_shown (P := P) (w := w) (base := base) T
  have fin : ∀ {f : Addr}, FnR P w K mg base CX0 9 f (fun vs H Q E => ∃ a v dx fs, vs = [.ref a, v] ∧ H a = some (.ins (m.cls K) dx fs) ∧ (spD (aC (sLy K) (aC (sF K) aN)) (fun a => PrCa a.1 a.2.1) (sF K) (fun a => seen a.1 a.2.1)) [.ref a, v] H Q E) →
      FnR P w K mg base CX0 9 f (spD (aC (sLm K m) (aC (sF K) aN)) (fun a => PrCa ⟨m, a.1.1, a.1.2⟩ a.2.1) (sF K) (fun a => seen ⟨m, a.1.1, a.1.2⟩ a.2.1)) := fun h => FnR.imp h (by
    intro vs H Q E z
    obtain ⟨⟨q, x, u⟩, ⟨v, ws, e1, sv, v2, ws2, e2, sx, h0⟩, hp, k⟩ := z
    obtain ⟨p, dx, fs, e3, hh⟩ := ins_Lm _ _ _ sv
    have h0 : ws2 = [] := h0
    subst h0
    subst e2
    subst e1
    subst e3
    exact ⟨p, v2, dx, fs, rfl, hh, (⟨m, q.1, q.2⟩, x, ()), ⟨_, _, rfl, sv, _, _, rfl, sx, rfl⟩, hp, k⟩)
  refine fin ?_
  cases m with
  | normal =>
    obtain ⟨c, cc, D⟩ := supD_of (SaysC.at_ C 0) (u_Normal___call__ T)
    exact fn_super SP D (n_super T) nsc_Normal___call__ rfl rfl rfl rfl rfl (by decide) (by decide) (by decide) _ (fun _ => rfl) (fun _ _ _ us hl => match us, hl with | [_, _], _ => rfl) G
  | darken =>
    obtain ⟨c, cc, D⟩ := supD_of (SaysC.at_ C 1) (u_Darken___call__ T)
    exact fn_super SP D (n_super T) nsc_Darken___call__ rfl rfl rfl rfl rfl (by decide) (by decide) (by decide) _ (fun _ => rfl) (fun _ _ _ us hl => match us, hl with | [_, _], _ => rfl) G
  | lighten =>
    obtain ⟨c, cc, D⟩ := supD_of (SaysC.at_ C 2) (u_Lighten___call__ T)
    exact fn_super SP D (n_super T) nsc_Lighten___call__ rfl rfl rfl rfl rfl (by decide) (by decide) (by decide) _ (fun _ => rfl) (fun _ _ _ us hl => match us, hl with | [_, _], _ => rfl) G
  | multiply =>
    obtain ⟨c, cc, D⟩ := supD_of (SaysC.at_ C 3) (u_Multiply___call__ T)
    exact fn_super SP D (n_super T) nsc_Multiply___call__ rfl rfl rfl rfl rfl (by decide) (by decide) (by decide) _ (fun _ => rfl) (fun _ _ _ us hl => match us, hl with | [_, _], _ => rfl) G
  | screen =>
    obtain ⟨c, cc, D⟩ := supD_of (SaysC.at_ C 4) (u_Screen___call__ T)
    exact fn_super SP D (n_super T) nsc_Screen___call__ rfl rfl rfl rfl rfl (by decide) (by decide) (by decide) _ (fun _ => rfl) (fun _ _ _ us hl => match us, hl with | [_, _], _ => rfl) G
end
section
variable {X : Cx} {Γ : List Cell} {e o : Expr} {pos : Pos} {a : Lay} {as : List Lay} {x : Rat}
theorem x_atLy (SP : SupP X.prog file) (C : SaysC sn X.K) (T : Tx ex fn X.K X.mg) (hr : Room 9 X.A) (h : XE X o Γ (sLy X.K) (· = a)) (h2 : XE X e Γ (sF X.K) (· = x)) (hp : PrCa a x)
    (ht : eval (.Call o [e] [] pos) X.env = (do callWith pos (← eval o X.env) [] (backTo pos (starEach [e] X.env)) (backToKw pos (keywordEach [] X.env))) := by rfl)
    (hst : starEach [e] X.env = (false, eval e X.env) :: starEach [] X.env := by rfl) : XE X (.Call o [e] [] pos) Γ (sF X.K) (· = seen a x) :=
  xe_eq (x_callO ins_Lm (coL T a.mode) (c_Ly_call SP C T a.mode) hr (x_asM h) (xa h2 xa0 hst) hp ht hst rfl) rfl
theorem hiS {K : Fg} (H : Hp) (v : V) (as : List Lay) (h : sS K H v as) : ∃ p dx fs, v = .ref p ∧ H p = some (.ins (aGlo "Stack" K) dx fs) ∧ fs.lookup ("steps" : PySem.Str) = none := by
  obtain ⟨p, dx, x, h1, h2, _⟩ := h
  exact ⟨p, dx, _, h1, h2, rfl⟩
end
end PC
set_option Elab.async false
set_option linter.all false
set_option maxRecDepth 100000
set_option maxHeartbeats 4000000
namespace PL
open PySem PySem.Spec
open PyProof.Rows hiding St
open L2
section
variable {X : Cx} {α : Type} {s : Sh α} {K : PySem.W.Frag}
/-- a list != [] -/
def rNe0 : R2 := fun x y H Q => ∃ p xs q, x = .ref p ∧ H p = some (.lst xs) ∧ y = .ref q ∧ H q = some (.lst []) ∧ ∀ H', Same H H' → Q (.bl (!xs.isEmpty)) H'
theorem op_ne0 (hr : Room 1 X.A) : OpR X (compareOp .NotEq) rNe0 := by
  intro pins st σ H x y u v Q I rx ry ⟨p, xs, q, e1, h1, e2, h2, k⟩
  cases xs with
  | nil =>
    subst e1 e2
    exact op_rc (rcS_listne (s := sInt) eqS_int) rfl hr pins st σ H _ _ u v Q I rx ry ⟨[], [], ⟨p, [], rfl, h1, .nil⟩, ⟨q, [], rfl, h2, .nil⟩, fun H' e => k H' e⟩
  | cons z zs =>
    subst e1 e2
    cases rx
    cases ry
    show wpAny _ _ (richCompare .NotEq _ _) _ _ _
    obtain ⟨its, k1, r1, o1⟩ := obj_list I h1
    obtain ⟨its2, k2, r2, o2⟩ := obj_list I h2
    refine thn (Q := fun r s' => r = .bool true ∧ ∃ H', Inv X pins σ H' s' ∧ Same H H') (wpAny_richCompare_same_room (op := .NotEq) ⟨_, o1, rfl⟩ ⟨_, o2, rfl⟩ F.slot_list_ne (GQ.call_here F.slot_list_ne ⟨_, o1, rfl⟩ F.entry_list_ne (F.args_list_ne_2 _ _) ?_) hr.units0) fun r s' ⟨e, H', I', sm⟩ => ?_
    · refine GR.list_ne_len (R := wants (fun v s' => v ≠ .notImplemented ∧ (v = .bool true ∧ ∃ H', Inv X pins σ H' s' ∧ Same H H')) X.xe) p q o1 o2 ?_ ⟨(fun z => nomatch z), rfl, H, I, Same.refl _⟩
      rw [List.size_toArray, List.size_toArray, ← r1.length, ← r2.length]
      show ¬ (zs.length + 1 = 0)
      omega
    · subst e
      exact ⟨.bl true, H', I', rfl, k H' sm⟩
theorem o2_ne0 : Op2 rNe0 (sL K s) (sL K s) sBl (fun _ b => b = []) (fun a b c => c = !a.isEmpty) := fun H x y a b Q ⟨p, xs, e1, h1, h2⟩ ⟨q, ys, e2, h3, h4⟩ hp k => by
  subst hp
  cases h4
  refine ⟨p, xs, q, e1, h1, e2, h3, fun H' sm => k _ _ H' rfl sm ?_⟩
  show V.bl _ = V.bl _
  cases h2 <;> rfl
end
end PL
set_option Elab.async false
set_option linter.all false
set_option maxRecDepth 100000
set_option maxHeartbeats 4000000
namespace PC
open PySem PySem.Spec
open PyProof.Rows hiding St
open L2 PL TX PM
open TL
theorem atI_end {α : Type} (r : List α) (a : α) : atI (r ++ [a]) (-1) = some a := by
  unfold atI
  have e : ixN (r ++ [a]).length (-1) = some r.length := by
    unfold ixN
    rw [List.length_append, List.length_singleton]
    simp
    omega
  rw [e]
  show (r ++ [a])[r.length]? = some a
  simp
section
variable {P : Program} {w : World} {K : Fg} {mg : PySem.Str → Option Value} {base : Heap}
theorem c_F_read (T : Tx ex fn K mg) : FnR P w K mg base CX0 5 (aRec "Frac" "read" "classmethod" K) (spG (aC (sCl (aGlo "Frac" K)) (aC sTq aN)) (fun a => 0 ≤ a.2.1 ∧ Bd 400 a.2.1) (sF K) (fun a r => r = a.2.1)) := by
  obtain ⟨fd, F⟩ := f_Frac_read T
  refine fn_x F sc_Frac_read (argC_cons (argC_cons argC_nil)) (fun _ => rfl) (n := 1) (fun _ => rfl) (fun cdv A outer s H E hr ⟨_, q, _⟩ hp => ?_) (fun _ _ _ _ _ _ us hl => match us, hl with | [_, _], _ => rfl)
  have nd := sc_Frac_read.nd
  have h4 : Room 4 _ := hr
  have h3 : Room 3 _ := hr.mono (by decide)
  have hb : Bd 400 q := hp.2
  have dpos := q.den_pos
  refine xb_set (s := sOpt (sP K sInt sInt)) (a := some (q.num, (q.den : Int))) 2 nd (x_ifE (Pc := (· = true)) (xt_val (x_isT tyS_str (r := true) (kit_ty (a := "str") (b := "str") (by decide +kernel)) (n_isinstance T) (n_str T) (x_ofTq (xv 1)))) (fun _ => xe_eq (x_call (c_read_pair T) h3 (g_read_pair T) (k_read_pair T) (xa (xv 1) xa0) hp) rfl) (fun h => by cases h)) ?_
  refine xb_ifR (b := false) (xt_eq (xt_cmpD (b := ()) (f := fun (a : Option (Int × Int)) (b : Unit) => a.isNone) op_isN o2_isN (xv 2) (xe_imp x_non fun _ _ => rfl) trivial) rfl) (fun h => by cases h) fun _ => ?_
  refine xb_ret (ef (xe_imp (x_makeV (Pa := (· = (q.num, ((q.den : Int), ())))) (xv 0) (mk_F T) (c_Frac2 T) h4 (xa (x_p0 (ab := (q.num, (q.den : Int))) (x_getO (xv 2))) (xa (x_p1 (ab := (q.num, (q.den : Int))) (x_getO (xv 2))) xa0)) fun a e => by subst e; exact ⟨by show 0 < (q.den : Int); omega, Nat.lt_of_lt_of_le (show (q.den : Int).natAbs < 2 ^ 400 by have := hb.2; omega) (Nat.pow_le_pow_right (by decide) (by decide))⟩) fun u h => ?_))
  obtain ⟨_, rfl, h⟩ := h
  have h : u = Rat.divInt q.num q.den := h
  show u = q
  rw [h, Rat.num_divInt_den]
theorem c_read_layer (T : Tx ex fn K mg) : FnR P w K mg base CX0 10 (aGlo "read_layer" K) (spD (aC sTl aN) (fun a => LayOk 400 a.1) (sLy K) (fun a => a.1)) := by
  obtain ⟨fd, F⟩ := f_read_layer T
  refine fn_x F sc_read_layer (argC_cons argC_nil) (fun _ => rfl) (n := 1) (fun _ => rfl) (fun cdv A outer s H E hr ⟨a, _⟩ hp => ?_) (fun _ _ _ _ _ _ us hl => match us, hl with | [_], _ => rfl)
  have nd := sc_read_layer.nd
  have hp : LayOk 400 a := hp
  refine xb_set (s := sOpt (sLy K)) (a := some a) 1 nd (x_ifE (Pc := (· = true)) (xt_val (x_isT tyS_str (r := true) (kit_ty (a := "str") (b := "str") (by decide +kernel)) (n_isinstance T) (n_str T) (x_ofTl (xv 0)))) (fun _ => xe_eq (x_call (c_parse_layer T) hr (g_parse_layer T) (k_parse_layer T) (xa (xv 0) xa0) hp) rfl) (fun h => by cases h)) ?_
  refine xb_ifR (b := false) (xt_eq (xt_cmpD (b := ()) (f := fun (a : Option Lay) (b : Unit) => a.isNone) op_isN o2_isN (xv 1) (xe_imp x_non fun _ _ => rfl) trivial) rfl) (fun h => by cases h) fun _ => ?_
  exact xb_ret (ef (x_getO (a := a) (xv 1)))
theorem c_written (T : Tx ex fn K mg) : FnR P w K mg base CX0 3 (aGlo "_law_written" K) (spD (aC (sL K (sSh K)) aN) (fun a => a.1.length ≤ 24 ∧ ∀ b ∈ a.1, LayOk 400 b) sTs (fun a => a.1)) := by
  obtain ⟨fd, F⟩ := f__law_written T
  refine fn_x F sc__law_written (argC_cons argC_nil) (fun _ => rfl) (n := 1) (fun _ => rfl) (fun cdv A outer s H E hr ⟨as, _⟩ hp => ?_) (fun _ _ _ _ _ _ us hl => match us, hl with | [_], _ => rfl)
  obtain ⟨hl, hok⟩ := hp
  have hl : as.length ≤ 24 := hl
  have hok : ∀ b ∈ as, LayOk 400 b := hok
  have nd := sc__law_written.nd
  have h2 : Room 2 _ := hr
  have h1 : Room 1 _ := hr.mono (by decide)
  have hs := sum_L hok (Nat.le_refl _)
  refine xb_ret (ef (x_ifE (Pc := fun b => b = !as.isEmpty) (xt_eq (xt_cmpD (f := fun (a b : List Lay) => !a.isEmpty) (a := as) (b := []) (op_ne0 h1) o2_ne0 (xv 0) (x_lst (as := ([] : List Lay)) xs_nil (by show 0 ≤ 16777216; decide)) rfl) rfl) (fun h => ?_) fun h => ?_))
  · have hne : as ≠ [] := fun z => by subst z; cases h
    refine x_Ts (xe_eq (x_joinL (ys := as.map strL) x_str (x_mapN (s := sStr) 1 (xs := as) (f := strL) nd (xi_list (xv 0)) (blkOk_by (own := [("_law_sheet_here", 1)]) (N := N__law_written) (sc := defScope s__law_written) (by decide +kernel)) (fun a ha s' H C cl fp => xe_eq (x_call (c_label T) h2 (g__law_label T) (k__law_label T) (xa (xv 1) xa0) (hok a ha)) rfl) (by omega) fun _ _ _ _ _ => pg_name nd rfl (Or.inl rfl)) ?_) rfl) ?_
    · have e2 : ((", " : String) : PySem.Str).length = 2 := rfl
      rw [List.length_map, e2]
      omega
    · show Txt.join ((", " : String) : PySem.Str) (as.map strL) = strS as
      unfold strS
      rw [if_neg hne]
      rfl
  · have hne : as = [] := by
      cases as with
      | nil => rfl
      | cons a t => cases h
    subst hne
    exact x_Ts x_str rfl
theorem c_summed (T : Tx ex fn K mg) : FnR P w K mg base CX0 9 (aGlo "_law_summed" K) (spD (aC (sL K (sSh K)) aN) (fun a => a.1.length ≤ 24 ∧ ∀ b ∈ a.1, PrLa b) (sS K) (fun a => a.1)) := by
  obtain ⟨fd, F⟩ := f__law_summed T
  refine fn_x F sc__law_summed (argC_cons argC_nil) (fun _ => rfl) (n := 2) (fun _ => rfl) (fun cdv A outer s H E hr ⟨as, _⟩ hp => ?_) (fun _ _ _ _ _ _ us hl => match us, hl with | [_], _ => rfl)
  obtain ⟨h24, hall⟩ := hp
  have h24 : as.length ≤ 24 := h24
  have hall : ∀ b ∈ as, PrLa b := hall
  have h4 : Room 4 _ := hr.mono (by decide)
  have h5 : Room 5 _ := hr.mono (by decide)
  have nd := sc__law_summed.nd
  refine xb_set (s := sS K) (a := []) 1 nd (xe_imp (x_make0 (mk_S T) (c_Stack_init T) h4 (g_Stack T) (by show 0 ≤ 24; decide)) fun r h => h) ?_
  refine xb_for (Pl := fun xs => xs = as) (vs := [2]) (gt := gName 2) (I := fun xs i Γ o => o = .no ∧ ∃ c2, Γ = [Ce (sL K (sSh K)) as, Ce (sS K) (as.take i), c2])
    (N := fun Γ o => o = .no ∧ ∃ c2, Γ = [Ce (sL K (sSh K)) as, Ce (sS K) as, c2])
    PassesOwn.never rfl (ei (xi_list (P := (· = as)) (xv 0))) (pg_name nd rfl (Or.inl rfl)) (tgt_name 2) ?_ ?_ ?_ ?_
  · rintro xs rfl
    exact ⟨rfl, _, rfl⟩
  · rintro ls rfl i a Γ o hx ⟨rfl, c2, rfl⟩
    refine ⟨fun j hj => rfl, ?_⟩
    have hi := (List.getElem?_eq_some_iff.mp hx).1
    refine xb_set (s := sS K) (a := ls.take (i + 1)) 1 nd (xe_eq (x_opD (f := fun a b => a ++ b) (pre := fun a b => a.length + b.length ≤ 24) (op_own (c_S_add T) (m_Stack___add__ T) (c_Stack T).sf h5) (o2_own ins_S ins_S) (xv 1) (xe_eq (x_make (mk_S T) (c_Stack_init T) h4 (g_Stack T) (xs (x_call (c_layer T) hr (g__law_layer T) (k__law_layer T) (xa (xv 2) xa0) (hall a (List.mem_of_getElem? hx))) xs_nil) (by show 1 ≤ 24; decide)) rfl) (by show (ls.take i).length + 1 ≤ 24; rw [List.length_take]; omega)) (take_snoc hx).symm) ?_
    exact xb_nil ⟨rfl, _, rfl⟩
  · rintro xs rfl Γ o ⟨rfl, c2, rfl⟩
    refine ⟨rfl, c2, ?_⟩
    rw [List.take_length]
  · rintro Γ o ⟨rfl, c2, rfl⟩
    exact xb_ret (ef (xe_eq (xv 1) rfl))
/-- of a tuple of layers -/
theorem c_of_tup (T : Tx ex fn K mg) : FnR P w K mg base CX0 6 (aGlo "_law_of_layers" K) (spD (aC (sU K (sLy K)) aN) (fun a => a.1.length ≤ 24) (sS K) (fun a => a.1)) := by
  obtain ⟨fd, F⟩ := f__law_of_layers T
  refine fn_x F sc__law_of_layers (argC_cons argC_nil) (fun _ => rfl) (n := 2) (fun _ => rfl) (fun cdv A outer s H E hr ⟨as, _⟩ hp => ?_) (fun _ _ _ _ _ _ us hl => match us, hl with | [_], _ => rfl)
  have h24 : as.length ≤ 24 := hp
  have h4 : Room 4 _ := hr.mono (by decide)
  have h5 : Room 5 _ := hr
  have nd := sc__law_of_layers.nd
  refine xb_set (s := sS K) (a := []) 1 nd (xe_imp (x_make0 (mk_S T) (c_Stack_init T) h4 (g_Stack T) (by show 0 ≤ 24; decide)) fun r h => h) ?_
  refine xb_for (Pl := fun xs => xs = as) (vs := [2]) (gt := gName 2) (I := fun xs i Γ o => o = .no ∧ ∃ c2, Γ = [Ce (sU K (sLy K)) as, Ce (sS K) (as.take i), c2])
    (N := fun Γ o => o = .no ∧ ∃ c2, Γ = [Ce (sU K (sLy K)) as, Ce (sS K) as, c2])
    PassesOwn.never rfl (ei (xi_tup (P := (· = as)) (xv 0))) (pg_name nd rfl (Or.inl rfl)) (tgt_name 2) ?_ ?_ ?_ ?_
  · rintro xs rfl
    exact ⟨rfl, _, rfl⟩
  · rintro ls rfl i a Γ o hx ⟨rfl, c2, rfl⟩
    refine ⟨fun j hj => rfl, ?_⟩
    have hi := (List.getElem?_eq_some_iff.mp hx).1
    refine xb_set (s := sS K) (a := ls.take (i + 1)) 1 nd (xe_eq (x_opD (f := fun a b => a ++ b) (pre := fun a b => a.length + b.length ≤ 24) (op_own (c_S_add T) (m_Stack___add__ T) (c_Stack T).sf h5) (o2_own ins_S ins_S) (xv 1) (xe_eq (x_make (mk_S T) (c_Stack_init T) h4 (g_Stack T) (xs (xv 2) xs_nil) (by show 1 ≤ 24; decide)) rfl) (by show (ls.take i).length + 1 ≤ 24; rw [List.length_take]; omega)) (take_snoc hx).symm) ?_
    exact xb_nil ⟨rfl, _, rfl⟩
  · rintro xs rfl Γ o ⟨rfl, c2, rfl⟩
    refine ⟨rfl, c2, ?_⟩
    rw [List.take_length]
  · rintro Γ o ⟨rfl, c2, rfl⟩
    exact xb_ret (ef (xe_eq (xv 1) rfl))
/-- of a list of layers -/
theorem c_of_lst (T : Tx ex fn K mg) : FnR P w K mg base CX0 6 (aGlo "_law_of_layers" K) (spD (aC (sL K (sLy K)) aN) (fun a => a.1.length ≤ 24) (sS K) (fun a => a.1)) := by
  obtain ⟨fd, F⟩ := f__law_of_layers T
  refine fn_x F sc__law_of_layers (argC_cons argC_nil) (fun _ => rfl) (n := 2) (fun _ => rfl) (fun cdv A outer s H E hr ⟨as, _⟩ hp => ?_) (fun _ _ _ _ _ _ us hl => match us, hl with | [_], _ => rfl)
  have h24 : as.length ≤ 24 := hp
  have h4 : Room 4 _ := hr.mono (by decide)
  have h5 : Room 5 _ := hr
  have nd := sc__law_of_layers.nd
  refine xb_set (s := sS K) (a := []) 1 nd (xe_imp (x_make0 (mk_S T) (c_Stack_init T) h4 (g_Stack T) (by show 0 ≤ 24; decide)) fun r h => h) ?_
  refine xb_for (Pl := fun xs => xs = as) (vs := [2]) (gt := gName 2) (I := fun xs i Γ o => o = .no ∧ ∃ c2, Γ = [Ce (sL K (sLy K)) as, Ce (sS K) (as.take i), c2])
    (N := fun Γ o => o = .no ∧ ∃ c2, Γ = [Ce (sL K (sLy K)) as, Ce (sS K) as, c2])
    PassesOwn.never rfl (ei (xi_list (P := (· = as)) (xv 0))) (pg_name nd rfl (Or.inl rfl)) (tgt_name 2) ?_ ?_ ?_ ?_
  · rintro xs rfl
    exact ⟨rfl, _, rfl⟩
  · rintro ls rfl i a Γ o hx ⟨rfl, c2, rfl⟩
    refine ⟨fun j hj => rfl, ?_⟩
    have hi := (List.getElem?_eq_some_iff.mp hx).1
    refine xb_set (s := sS K) (a := ls.take (i + 1)) 1 nd (xe_eq (x_opD (f := fun a b => a ++ b) (pre := fun a b => a.length + b.length ≤ 24) (op_own (c_S_add T) (m_Stack___add__ T) (c_Stack T).sf h5) (o2_own ins_S ins_S) (xv 1) (xe_eq (x_make (mk_S T) (c_Stack_init T) h4 (g_Stack T) (xs (xv 2) xs_nil) (by show 1 ≤ 24; decide)) rfl) (by show (ls.take i).length + 1 ≤ 24; rw [List.length_take]; omega)) (take_snoc hx).symm) ?_
    exact xb_nil ⟨rfl, _, rfl⟩
  · rintro xs rfl Γ o ⟨rfl, c2, rfl⟩
    refine ⟨rfl, c2, ?_⟩
    rw [List.take_length]
  · rintro Γ o ⟨rfl, c2, rfl⟩
    exact xb_ret (ef (xe_eq (xv 1) rfl))
/-- what one sees layer by layer -/
theorem c_rows (SP : SupP P file) (C : SaysC sn K) (T : Tx ex fn K mg) : FnR P w K mg base CX0 10 (aGlo "_law_shown" K) (spD (aC (sU K (sLy K)) (aC (sF K) aN)) (fun a => PrVt a.1 a.2.1) (sL K (sF K)) (fun a => stepsOf a.1 a.2.1)) := by
  obtain ⟨fd, F⟩ := f__law_shown T
  refine fn_x F sc__law_shown (argC_cons (argC_cons argC_nil)) (fun _ => rfl) (n := 2) (fun _ => rfl) (fun cdv A outer s H E hr ⟨as, x, _⟩ hp => ?_) (fun _ _ _ _ _ _ us hl => match us, hl with | [_, _], _ => rfl)
  obtain ⟨n, m, W, ok, h0, h1, hW, hm, hd, hn⟩ := hp
  have ok : StOk n as := ok
  have h0 : 0 ≤ x := h0
  have h1 : x ≤ 1 := h1
  have hd : x.den ∣ W := hd
  have hlen := ok.len
  have nd := sc__law_shown.nd
  refine xb_own (s := sF K) (as := [x]) 2 nd (xs (xv 1) xs_nil) ?_ (by show 1 ≤ 16777216; decide) (hiΓ := by show 2 < 4; decide)
  refine xb_for (Pl := fun xs => xs = as) (vs := [3]) (gt := gName 3) (I := fun xs i Γ o => o = .at_ 2 (sF K) inferInstance (stepsOf (as.take i) x) ∧ ∃ c3, Γ = [Ce (sU K (sLy K)) as, Ce (sF K) x, .no, c3])
    (N := fun Γ o => o = .at_ 2 (sF K) inferInstance (stepsOf as x) ∧ ∃ c3, Γ = [Ce (sU K (sLy K)) as, Ce (sF K) x, .no, c3])
    PassesOwn.never rfl (ei (xi_tup (P := (· = as)) (xv 0))) (pg_name nd rfl (Or.inl rfl)) (tgt_name 3) ?_ ?_ ?_ ?_
  · rintro xs rfl
    exact ⟨rfl, _, rfl⟩
  · rintro ls rfl i a Γ o hx ⟨rfl, c3, rfl⟩
    refine ⟨fun j hj => by rw [List.mem_singleton.mp hj]; rfl, ?_⟩
    have la := ok.lay (List.mem_of_getElem? hx)
    have bx := thru_bd (ok.take i) h0 h1 hW hm hd
    have hv : isVal (thru (ls.take i) x) = true := decide_eq_true (thru_in (ok.take i).lk ⟨h0, h1⟩)
    have e1 : thru (ls.take (i + 1)) x = seen a (thru (ls.take i) x) := by rw [take_snoc hx, thru_snoc]
    have hlast : atI (stepsOf (ls.take i) x) (-1) = some (thru (ls.take i) x) := by
      have h := stepsOf_last (ls.take i) x
      obtain ⟨r, hr'⟩ := List.getLast?_eq_some_iff.mp h
      rw [hr']
      exact atI_end r _
    refine xb_append (P := (· = seen a (thru (ls.take i) x))) (efr (xe_eq (x_atLy SP C T hr (xv 3) (x_ixL (as := stepsOf (ls.take i) x) (a := thru (ls.take i) x) (xv 2) (x_un un_neg o1_neg x_int trivial) hlast) ⟨⟨n, n + m, la.bt, la.bc, bx, by omega⟩, hv⟩) rfl)) (fun b hb => ?_) ?_
    · subst hb
      refine xb_nil ⟨?_, _, rfl⟩
      rw [take_snoc hx, stepsOf_snoc, ← take_snoc hx, e1]
    · rw [stepsOf_len, List.length_take]
      omega
  · rintro xs rfl Γ o ⟨rfl, c3, rfl⟩
    refine ⟨?_, c3, rfl⟩
    rw [List.take_length]
  · rintro Γ o ⟨rfl, c3, rfl⟩
    exact xb_retL (xv 2)
end
end PC
set_option Elab.async false
set_option linter.all false
set_option maxRecDepth 100000
set_option maxHeartbeats 4000000
namespace PC
open PySem PySem.Spec
open PyProof.Rows hiding St
open L2 PL TX PM
/-! ### plain layers (no program) -/
def plOf (a : Lay) : Lay := (plainOf a).getD a
theorem pl_seen {a : Lay} (h : Lk a) {x : Rat} (h0 : 0 ≤ x) (h1 : x ≤ 1) : seen (plOf a) x = seen a x := by
  obtain ⟨m, t, c⟩ := a
  cases m
  · rfl
  · show seen ((if t.num = 0 then some _ else none).getD _) x = _
    split
    · rename_i hz
      have hz : t = 0 := Rat.num_eq_zero.mp hz
      show (1 - c) * x + c * t = (1 - c) * x + c * (if x ≤ t then x else t)
      split
      · have : x = t := by grind
        rw [this]
      · rfl
    · rfl
  · show seen ((if t = 1 then some _ else none).getD _) x = _
    split
    · rename_i hz
      have hz : t = 1 := hz
      show (1 - c) * x + c * t = (1 - c) * x + c * (if t ≤ x then x else t)
      split
      · have : x = t := by grind
        rw [this]
      · rfl
    · rfl
  · show seen ((if 0 < (c * (1 - t)).num then some _ else none).getD _) x = _
    split
    · show (1 - c * (1 - t)) * x + c * (1 - t) * 0 = (1 - c) * x + c * (x * t)
      grind
    · rfl
  · show seen ((if 0 < (c * t).num then some _ else none).getD _) x = _
    split
    · show (1 - c * t) * x + c * t * 1 = (1 - c) * x + c * (x + t - x * t)
      grind
    · rfl
theorem posn {q : Rat} (h : 0 < q.num) : 0 < q := by
  apply (Rat.lt_iff 0 q).mpr
  simpa using h
theorem den_leP {a b : Rat} : (a * b).den ≤ a.den * b.den := Nat.le_of_dvd (Nat.mul_pos a.den_pos b.den_pos) (den_mul a b)
/-- the plain layer is a layer, its fractions are no longer -/
theorem pl_lay {a : Lay} (h : Lk a) : Lk (plOf a) ∧ dOf (plOf a) ≤ dOf a := by
  obtain ⟨m, t, c⟩ := a
  obtain ⟨⟨t0, t1⟩, c0, c1⟩ := id h
  have t0 : 0 ≤ t := t0
  have t1 : t ≤ 1 := t1
  have c0 : 0 < c := c0
  have c1 : c < 1 := c1
  have keep : ∀ m', Lk ⟨m', t, c⟩ ∧ dOf ⟨m', t, c⟩ ≤ dOf ⟨m, t, c⟩ := fun m' => ⟨⟨⟨t0, t1⟩, c0, c1⟩, Nat.le_refl _⟩
  have mul : ∀ (z d : Rat), z.den = 1 → 0 ≤ z → z ≤ 1 → 0 < c * d → d ≤ 1 → 0 ≤ d → d.den ≤ t.den → Lk ⟨.normal, z, c * d⟩ ∧ dOf ⟨.normal, z, c * d⟩ ≤ dOf ⟨m, t, c⟩ := fun z d hz z0 z1 hp d1 d0 hd => by
    refine ⟨⟨⟨z0, z1⟩, hp, ?_⟩, ?_⟩
    · have := Rat.mul_le_mul_of_nonneg_left d1 (Rat.le_of_lt c0)
      show c * d < 1
      grind
    · show z.den * (c * d).den ≤ t.den * c.den
      rw [hz, Nat.one_mul, Nat.mul_comm]
      exact Nat.le_trans den_leP (Nat.mul_le_mul_left _ hd)
  cases m
  · exact keep .normal
  · show Lk ((if t.num = 0 then some _ else none).getD _) ∧ dOf ((if t.num = 0 then some _ else none).getD _) ≤ _
    split
    · exact keep .normal
    · exact keep .darken
  · show Lk ((if t = 1 then some _ else none).getD _) ∧ dOf ((if t = 1 then some _ else none).getD _) ≤ _
    split
    · exact keep .normal
    · exact keep .lighten
  · show Lk ((if 0 < (c * (1 - t)).num then some _ else none).getD _) ∧ dOf ((if 0 < (c * (1 - t)).num then some _ else none).getD _) ≤ _
    split
    · rename_i hp
      exact mul 0 (1 - t) rfl (by decide) (by decide) (posn hp) (by grind) (by grind) (Nat.le_of_dvd t.den_pos (den_one_sub t))
    · exact keep .multiply
  · show Lk ((if 0 < (c * t).num then some _ else none).getD _) ∧ dOf ((if 0 < (c * t).num then some _ else none).getD _) ≤ _
    split
    · rename_i hp
      exact mul 1 t rfl (by decide) (by decide) (posn hp) t1 t0 (Nat.le_refl _)
    · exact keep .screen
theorem pl_prod : ∀ {as : List Lay}, (∀ a ∈ as, Lk a) → prodD (as.map plOf) ≤ prodD as
  | [], _ => Nat.le_refl _
  | a :: t, h => Nat.mul_le_mul (pl_lay (h a List.mem_cons_self)).2 (pl_prod fun b hb => h b (List.mem_cons_of_mem _ hb))
theorem StOk.pl {n : Nat} {as : List Lay} (h : StOk n as) : StOk n (as.map plOf) :=
  ⟨fun b hb => by obtain ⟨a, ha, rfl⟩ := List.mem_map.mp hb; exact (pl_lay (h.lk a ha)).1, by rw [List.length_map]; exact h.len, Nat.lt_of_le_of_lt (pl_prod h.lk) h.pd⟩
theorem thru_pl : ∀ {as : List Lay}, (∀ a ∈ as, Lk a) → ∀ {x : Rat}, 0 ≤ x → x ≤ 1 → thru (as.map plOf) x = thru as x
  | [], _, _, _, _ => rfl
  | a :: t, h, x, h0, h1 => by
    show thru (t.map plOf) (seen (plOf a) x) = thru t (seen a x)
    rw [pl_seen (h a List.mem_cons_self) h0 h1]
    have hi := thru_in (as := [a]) (x := x) (fun b hb => by rw [List.mem_singleton.mp hb]; exact h a List.mem_cons_self) ⟨h0, h1⟩
    exact thru_pl (fun b hb => h b (List.mem_cons_of_mem _ hb)) hi.1 hi.2
theorem prodD_pow {M : Nat} : ∀ {as : List Lay}, (∀ b ∈ as, dOf b ≤ M) → prodD as ≤ M ^ as.length
  | [], _ => Nat.le_refl _
  | a :: t, h => by
    show dOf a * prodD t ≤ M ^ (t.length + 1)
    rw [Nat.pow_succ, Nat.mul_comm]
    exact Nat.mul_le_mul (prodD_pow fun b hb => h b (List.mem_cons_of_mem _ hb)) (h a List.mem_cons_self)
theorem dOf_pow {k : Nat} {a : Lay} (h : LayOk k a) : dOf a ≤ 2 ^ (2 * k) := by
  show a.tint.den * a.cover.den ≤ _
  rw [Nat.two_mul, Nat.pow_add]
  exact Nat.mul_le_mul (Nat.le_of_lt h.bt.2) (Nat.le_of_lt h.bc.2)
theorem stok_of {k n m : Nat} {as : List Lay} (h : ∀ b ∈ as, LayOk k b) (hl : as.length ≤ m) (hm : m ≤ 24) (hn : 2 * k * m < n) : StOk n as := by
  refine ⟨fun a ha => (h a ha).lk, by omega, ?_⟩
  refine Nat.lt_of_le_of_lt (prodD_pow fun b hb => dOf_pow (h b hb)) ?_
  rw [← Nat.pow_mul]
  exact Nat.pow_lt_pow_right (by decide) (Nat.lt_of_le_of_lt (Nat.mul_le_mul_left _ hl) hn)
end PC
set_option Elab.async false
set_option linter.all false
set_option maxRecDepth 100000
set_option maxHeartbeats 4000000
namespace PC
open PySem PySem.Spec
open PyProof.Rows hiding St
open L2 PL TX PM
open TL
theorem lcr_ix {α β : Type} {Pe : α → β → Prop} : ∀ {xs : List α} {ys : List β}, LcR (fun _ b => b = true) Pe xs ys → ∀ (i : Nat) (x : α), xs[i]? = some x → ∃ y, ys[i]? = some y ∧ Pe x y
  | _, _, .nil, i, x, h => by simp at h
  | _, _, .no c t, i, x, h => by cases c
  | _, _, .yes c e t, 0, x, h => by simp at h; subst h; exact ⟨_, rfl, e⟩
  | _, _, .yes c e t, i + 1, x, h => by
    obtain ⟨y, h1, h2⟩ := lcr_ix t i x (by simpa using h)
    exact ⟨y, by simpa using h1, h2⟩
theorem items_all {as ys : List Lay} (h : LcR (fun _ b => b = true) (fun (i : Int) y => as[i.toNat]? = some y) (rangeL 0 as.length) ys) : ys = as := by
  have hl := lcr_len2 h
  rw [rangeL_len] at hl
  refine List.ext_getElem? fun i => ?_
  by_cases hi : i < as.length
  · obtain ⟨y, h1, h2⟩ := lcr_ix h i _ (rangeL_at hi)
    have e : (0 + (i : Int)).toNat = i := by omega
    rw [e] at h2
    rw [h1, h2]
  · rw [List.getElem?_eq_none (by omega), List.getElem?_eq_none (by omega)]
theorem steps_bd {n : Nat} : ∀ {as : List Lay} {x : Rat}, (∀ i, Bd n (thru (as.take i) x)) → ∀ y ∈ stepsOf as x, Bd n y
  | [], x, h, y, hy => by
    rw [List.mem_singleton.mp hy]
    exact h 0
  | a :: t, x, h, y, hy => by
    rcases List.mem_cons.mp hy with e | hy
    · rw [e]; exact h 0
    · exact steps_bd (as := t) (x := seen a x) (fun i => h (i + 1)) y hy
theorem steps_in : ∀ {as : List Lay} {x : Rat}, (∀ a ∈ as, Lk a) → 0 ≤ x ∧ x ≤ 1 → ∀ y ∈ stepsOf as x, 0 ≤ y ∧ y ≤ 1
  | [], x, _, h, y, hy => by
    rw [List.mem_singleton.mp hy]
    exact h
  | a :: t, x, hl, h, y, hy => by
    rcases List.mem_cons.mp hy with e | hy
    · rw [e]; exact h
    · exact steps_in (fun b hb => hl b (List.mem_cons_of_mem _ hb)) (thru_in (as := [a]) (fun b hb => by rw [List.mem_singleton.mp hb]; exact hl a List.mem_cons_self) h) y hy
section
variable {X : Cx} {Γ : List Cell} {e e1 e2 : Expr} {pos p apos : Pos} {as bs : List Lay} {q : Rat} {y : PySem.Str} (T : Tx ex fn X.K X.mg)
theorem co_lenStr : CallOp (fun xs H Q => ∃ z, xs = [.str z] ∧ z.length ≤ sizeLine ∧ Q (.int z.length) H) (aC sStr aN) sInt (fun a => a.1.length ≤ 16777216) (fun a c => c = (a.1.length : Int)) := fun H xs a Q ⟨v, w, e, h1, h2⟩ hp k => by
  cases h2
  cases h1
  subst e
  exact ⟨a.1, rfl, hp, k _ _ H rfl (Same.refl H) rfl⟩
include T
theorem xt_eqS (hr : Room 4 X.A) (h1 : XE X e1 Γ (sS X.K) (· = as)) (h2 : XE X e2 Γ (sS X.K) (· = bs)) (hb : behindInMarks .Eq e2 = false := by first | exact nomark _ | rfl) : XT X (.Compare e1 [.Eq] [e2] pos) Γ (· = decide (as = bs)) := xt_cmpD (f := fun a b => decide (a = b)) (cmp_own rfl (c_S_eq T) (m_Stack___eq__ T) hr) (o2_own ins_S ins_S) h1 h2 trivial hb
theorem x_readS {pl : Sem Bool} (hr : Room 11 X.A) (h : XE X e Γ sTs (· = as)) (hl : as.length ≤ 24) (hok : ∀ b ∈ as, LayOk 400 b) (hg : Gl X "Stack" := by rfl)
    (hst : starEach [e] X.env = (false, eval e X.env) :: starEach [] X.env := by rfl)
    (ht : eval (.Call (.Attribute (.Name "Stack" p) "read" apos) [e] [] pos) X.env = (do
      let ov ← eval (.Name "Stack" p) X.env
      standAt apos.atName
      let (f, first) ← holding [ov] (getMethod ov "read" pl)
      callWith pos f first (backTo pos (starEach [e] X.env)) (backToKw pos (keywordEach [] X.env))) := by rfl) : XE X (.Call (.Attribute (.Name "Stack" p) "read" apos) [e] [] pos) Γ (sS X.K) (· = as) :=
  xe_imp (x_cmeth (pl := pl) (Pa := (· = (as, ()))) (c_Stack T).rd (p_Stack_read T) (c_S_read T) hr (g_Stack T) (xa h xa0 hst) (fun b e => by subst e; exact ⟨hl, hok⟩) hg (by decide) hst rfl ht) fun r ⟨b, hb, z⟩ => by
    subst hb
    exact z
theorem x_readF {pl : Sem Bool} (hr : Room 5 X.A) (h : XE X e Γ sTq (· = q)) (h0 : 0 ≤ q) (hb : Bd 400 q) (hg : Gl X "Frac" := by rfl)
    (hst : starEach [e] X.env = (false, eval e X.env) :: starEach [] X.env := by rfl)
    (ht : eval (.Call (.Attribute (.Name "Frac" p) "read" apos) [e] [] pos) X.env = (do
      let ov ← eval (.Name "Frac" p) X.env
      standAt apos.atName
      let (f, first) ← holding [ov] (getMethod ov "read" pl)
      callWith pos f first (backTo pos (starEach [e] X.env)) (backToKw pos (keywordEach [] X.env))) := by rfl) : XE X (.Call (.Attribute (.Name "Frac" p) "read" apos) [e] [] pos) Γ (sF X.K) (· = q) :=
  xe_imp (x_cmeth (pl := pl) (Pa := (· = (q, ()))) (c_Frac T).rd (p_Frac_read T) (c_F_read T) hr (g_Frac T) (xa h xa0 hst) (fun b e => by subst e; exact ⟨h0, hb⟩) hg (by decide) hst rfl ht) fun r ⟨b, hb, z⟩ => by
    subst hb
    exact z
end
end PC
set_option Elab.async false
set_option linter.all false
set_option maxRecDepth 100000
set_option maxHeartbeats 4000000
namespace PC
open PySem PySem.Spec
open PyProof.Rows hiding St
open L2 PL TX PM
open TL
section
variable {P : Program} {w : World} {K : Fg} {mg : PySem.Str → Option Value} {base : Heap}
theorem shs_st {as : List Lay} (h : Shs as) : StOk 247 as := by
  rcases h.ok with ⟨h1, h2⟩ | h2
  · exact stok_of h2 h1 (by decide) (by decide)
  · exact stok_of h2 h.len (by decide) (by decide)
theorem c_one_right (SP : SupP P file) (C : SaysC sn K) (T : Tx ex fn K mg) : FnR P w K mg base CX0 14 (aGlo "_law_one_right" K) (spG (aC (sBox okPool) (aC (sL K (sSh K)) aN)) (fun a => Shs a.2.1) sBl (fun _ r => r = true)) := by
  obtain ⟨fd, F⟩ := f__law_one_right T
  obtain ⟨fs, hbS, FS⟩ := c_S_steps (P := P) (w := w) (base := base) T
  refine fn_x F sc__law_one_right (argC_cons (argC_cons argC_nil)) (fun _ => rfl) (n := 10) (fun _ => rfl) (fun cdv A outer s H E hr ⟨pl, as, _⟩ hp => ?_) (fun _ _ _ _ _ _ us hl => match us, hl with | [_, _], _ => rfl)
  have hp : Shs as := hp
  have nd := sc__law_one_right.nd
  have h13 : Room 13 _ := hr
  have h12 : Room 12 _ := hr.mono (by decide)
  have h11 : Room 11 _ := hr.mono (by decide)
  have h10 : Room 10 _ := hr.mono (by decide)
  have h9 : Room 9 _ := hr.mono (by decide)
  have h8 : Room 8 _ := hr.mono (by decide)
  have h7 : Room 7 _ := hr.mono (by decide)
  have h6 : Room 6 _ := hr.mono (by decide)
  have h5 : Room 5 _ := hr.mono (by decide)
  have h4 : Room 4 _ := hr.mono (by decide)
  have h3 : Room 3 _ := hr.mono (by decide)
  have h2 : Room 2 _ := hr.mono (by decide)
  have h1 : Room 1 _ := hr.mono (by decide)
  have h12l := hp.len
  have ok41 := hp.all
  have ok400 : ∀ b ∈ as, LayOk 400 b := fun b hb => (ok41 b hb).mono (by decide)
  have st := shs_st hp
  have hlk := st.lk
  have hl24 : as.length ≤ 24 := by omega
  have pla : as.length ≤ 24 ∧ ∀ b ∈ as, PrLa b := ⟨hl24, fun b hb => ⟨41, ok41 b hb, by decide⟩⟩
  have hlenS := len_S ok400 (Nat.le_refl _) hl24
  -- box, shade
  refine xb_unp2P (s := sS K) (t := sF K) (Pp := fun ab => ab.1 = as ∧ Gray 41 ab.2) 2 3 rfl nd (ef (xe_imp (x_tup2 (P := (· = as)) (R := Gray 41) (xe_eq (x_call (c_summed T) h9 (g__law_summed T) (k__law_summed T) (xa (xv 1) xa0) pla) rfl) (xe_imp (x_callG (c_frac T) h5 (g__law_frac T) (k__law_frac T) (xa_consG (x_callP (c_gray T) h2 (g__law_gray T) (k__law_gray T) (xa (xv 0) xa0) trivial) xa_nil) fun a h => Bd.mono h.1.2 (by decide)) fun r h => by obtain ⟨a, h1, h2⟩ := h; have h2 : r = a.1 := h2; rw [h2]; exact h1.1)) fun ab h => h)) fun bx sh hb => ?_
  obtain ⟨hb1, hg⟩ := hb
  have hb1 : bx = as := hb1
  have hg : Gray 41 sh := hg
  subst hb1
  have hv : 0 ≤ sh ∧ sh ≤ 1 := of_decide_eq_true hg.1
  have pvt : ∀ {bs : List Lay}, StOk 247 bs → PrVt bs sh := fun {bs} h => ⟨247, 41, sh.den, h, hv.1, hv.2, sh.den_pos, hg.2.2, Nat.dvd_refl _, by decide⟩
  have pv := pvt st
  have pk : PrKp bx := ⟨247, st, by decide⟩
  -- parts
  refine xb_set (s := sL K sStr) (a := bx.map strL) 4 nd (x_ifE (Pc := fun b => b = !bx.isEmpty) (xt_eq (xt_cmpD (f := fun (a b : List Lay) => !a.isEmpty) (a := bx) (b := []) (op_ne0 h1) o2_ne0 (xv 1) (x_lst (as := ([] : List Lay)) xs_nil (by show 0 ≤ 16777216; decide)) rfl) rfl) (fun h => xe_eq (x_split (a := strS bx) (b := coS) (x_strS T h9 (xv 2) hl24 ok400) x_str (by decide +kernel) (by omega)) (split_S (fun a ha => ⟨(ok41 a ha).tint.1, Rat.le_of_lt (ok41 a ha).cover.1⟩) fun z => by subst z; cases h)) fun h => xe_eq (x_lst (as := ([] : List PySem.Str)) xs_nil (by show 0 ≤ 16777216; decide)) (by cases bx with | nil => rfl | cons a t => cases h)) ?_
  -- mates
  refine xb_set (s := sL K (sS K)) (a := [bx, bx]) 5 nd (x_lst (xs (x_readS T h11 (x_Ts (x_strS T h9 (xv 2) hl24 ok400) rfl) hl24 ok400) (xs (xe_eq (x_call (c_of_tup T) h6 (g__law_of_layers T) (k__law_of_layers T) (xa (x_layersS T h2 (xv 2)) xa0) hl24) rfl) xs_nil)) (by show 2 ≤ 16777216; decide)) ?_
  refine xb_set (s := sL K (sS K)) (a := [bx, bx, bx]) 5 nd (xe_eq (x_opD (f := fun a b => a ++ b) (a := [bx, bx]) (b := [bx]) op_cat o2_cat (xv 5) (x_lst (xs (xe_eq (x_call (c_of_lst T) h6 (g__law_of_layers T) (k__law_of_layers T) (xa (xe_eq (x_mapN 6 (s := sLy K) (xs := bx) (f := fun a => a) nd (xi_list (x_Tls (xv 4))) (blkOk_by (own := [("_law_part", 6)]) (N := N__law_one_right) (sc := defScope s__law_one_right) (by decide +kernel)) (fun a ha s' H C' cl fp => xe_eq (x_call (c_read_layer T) h10 (g_read_layer T) (k_read_layer T) (xa (xv 6) xa0) (ok400 a ha)) rfl) (by omega) (fun _ _ _ _ _ => pg_name nd rfl (Or.inl rfl))) (List.map_id' bx)) xa0) hl24) rfl) xs_nil) (by show 1 ≤ 16777216; decide)) (by show 2 + 1 ≤ 16777216; decide)) rfl) ?_
  refine xb_set (s := sL K (sS K)) (a := [bx, bx, bx, bx, bx]) 5 nd (xe_eq (x_opD (f := fun a b => a ++ b) (a := [bx, bx, bx]) (b := [bx, bx]) op_cat o2_cat (xv 5) (x_lst (xs (xe_eq (x_call (c_of_lst T) h6 (g__law_of_layers T) (k__law_of_layers T) (xa (xe_imp (P' := (· = bx)) (x_lcG (s := sLy K) (Pl := fun l : List Int => l = rangeL 0 bx.length) (Pe := fun (i : Int) y => bx[i.toNat]? = some y) [("_law_k", 7)] rfl nd (xi_imp (xi_range1 (n_range T) (x_lenK T h2 (xv 2) (by omega)) fun n h => by have h : n = (bx.length : Int) := h; omega) fun zs hz => ?_) (blkOk_by (own := [("_law_k", 7)]) (N := N__law_one_right) (sc := defScope s__law_one_right) (by decide +kernel)) (fun _ _ _ _ _ => pg_name nd rfl (Or.inl rfl)) (tgt_name 7) (fun l e => by rw [e, rangeL_len]; omega) (fun x hx s' H C' cl fp => ?_)) fun ys h => ?_) xa0) hl24) rfl) (xs (x_readS T h11 (xe_eq (x_call (c_written T) h3 (g__law_written T) (k__law_written T) (xa (xv 1) xa0) ⟨hl24, ok400⟩) rfl) hl24 ok400) xs_nil)) (by show 2 ≤ 16777216; decide)) (by show 3 + 2 ≤ 16777216; decide)) rfl) ?_
  · obtain ⟨n, rfl, e⟩ := hz
    exact e
  · obtain ⟨l, rfl, hx⟩ := hx
    obtain ⟨i, hi⟩ := List.getElem?_of_mem hx
    obtain ⟨hi2, rfl⟩ := rangeL_get hi
    have e : (0 + (i : Int)).toNat = i := by omega
    have hget : bx[(0 + (i : Int)).toNat]? = some bx[i] := by rw [e]; exact List.getElem?_eq_getElem hi2
    exact xe_imp (x_itemS T h4 (xv 2) (xv 7) (by omega) hget) fun r h => by rw [h]; exact hget
  · obtain ⟨l, rfl, h⟩ := h
    exact items_all h
  -- the mates
  refine xb_for (Pl := fun xs => xs = [bx, bx, bx, bx, bx]) (vs := [8]) (gt := gName 8) (I := fun xs i Γ o => o = .no ∧ ∃ c8, Γ = [Ce (sBox okPool) pl, Ce (sL K (sSh K)) bx, Ce (sS K) bx, Ce (sF K) sh, Ce (sL K sStr) (bx.map strL), Ce (sL K (sS K)) [bx, bx, bx, bx, bx], .no, .no, c8, .no, .no, .no])
    (N := fun Γ o => o = .no ∧ ∃ c8, Γ = [Ce (sBox okPool) pl, Ce (sL K (sSh K)) bx, Ce (sS K) bx, Ce (sF K) sh, Ce (sL K sStr) (bx.map strL), Ce (sL K (sS K)) [bx, bx, bx, bx, bx], .no, .no, c8, .no, .no, .no])
    PassesOwn.never rfl (ei (xi_list (P := (· = [bx, bx, bx, bx, bx])) (xv 5))) (pg_name nd rfl (Or.inl rfl)) (tgt_name 8) ?_ ?_ ?_ ?_
  · rintro xs rfl
    exact ⟨rfl, _, rfl⟩
  · rintro xs rfl i mt Γ o hx ⟨rfl, c8, rfl⟩
    refine ⟨fun j hj => rfl, ?_⟩
    have em : mt = bx := by
      have := List.mem_of_getElem? hx
      simpa using this
    subst em
    refine xb_ifR (b := false) (xt_eq (xw_pt (xw_or (pp := false) (q := false) (xt_eq (xt_not (xt_eqS T h4 (xv 8) (xv 2))) (by rw [decide_eq_true rfl]; rfl)) fun _ => xw_eq (xw_or (pp := false) (q := false) (xt_eq (xt_neS T h5 (xv 8) (xv 2)) (by rw [decide_eq_true rfl]; rfl)) fun _ => xw_or1 (xt_eq (xt_cmpD (f := fun a b => not (decide (a = b))) (op_rc (rcS_listne eqS_str) rfl h1) o2_rc (x_lst (as := [strS mt, reprS mt]) (xs (x_strS T h9 (xv 8) hl24 ok400) (xs (x_reprS T h12 (xv 8) hl24 ok400) xs_nil)) (by show 2 ≤ 16777216; decide)) (x_lst (as := [strS mt, reprS mt]) (xs (x_strS T h9 (xv 2) hl24 ok400) (xs (x_reprS T h12 (xv 2) hl24 ok400) xs_nil)) (by show 2 ≤ 16777216; decide)) trivial) (by rw [decide_eq_true rfl]; rfl))) rfl)) rfl) (fun h => by cases h) fun _ => ?_
    refine xb_ifR (b := false) (xt_eq (xw_pt (xw_or (pp := false) (q := false) (xt_eq (xt_neF T h2 (x_atS T h9 (xv 8) (xv 3) pv) (x_atS T h9 (xv 2) (xv 3) pv)) (by rw [decide_eq_true rfl]; rfl)) fun _ => xw_or1 (xt_eq (xt_neF T h2 (x_keepsS T h7 (xv 8) pk) (x_keepsS T h7 (xv 2) pk)) (by rw [decide_eq_true rfl]; rfl)))) rfl) (fun h => by cases h) fun _ => ?_
    refine xb_ifR (b := false) (xt_eq (xt_cmpD (f := fun a b => not (decide (a = b))) (op_rc (rcS_listne (eqS_F T)) rfl h2) o2_rc (xe_eq (x_listM hiS (c_Stack T).cl (mm_Stack_steps T) FS hbS h11 h8 (xv 8) (xa (xv 3) xa0) pv (n_list T)) rfl) (xe_eq (x_listM hiS (c_Stack T).cl (mm_Stack_steps T) FS hbS h11 h8 (xv 2) (xa (xv 3) xa0) pv (n_list T)) rfl) trivial) (by rw [decide_eq_true rfl]; rfl)) (fun h => by cases h) fun _ => xb_nil ⟨rfl, _, rfl⟩
  · rintro xs rfl Γ o ⟨rfl, c8, rfl⟩
    exact ⟨rfl, _, rfl⟩
  rintro Γ o ⟨rfl, c8, rfl⟩
  have hrows := steps_in hlk hv
  have hbd : ∀ y ∈ stepsOf bx sh, Bd 288 y := steps_bd (n := 288) fun i => thru_bd (st.take i) hv.1 hv.2 sh.den_pos hg.2.2 (Nat.dvd_refl _)
  have hlast : atI (stepsOf bx sh) (-1) = some (thru bx sh) := by
    obtain ⟨r, hr'⟩ := List.getLast?_eq_some_iff.mp (stepsOf_last bx sh)
    rw [hr']
    exact atI_end r _
  have hrl : (stepsOf bx sh).length ≤ 25 := by rw [stepsOf_len]; omega
  -- rows
  refine xb_set (s := sL K (sF K)) (a := stepsOf bx sh) 9 nd (xe_eq (x_call (c_rows SP C T) h10 (g__law_shown T) (k__law_shown T) (xa (x_layersS T h2 (xv 2)) (xa (xv 3) xa0)) pv) rfl) ?_
  refine xb_ifR (b := false) (xt_eq (xw_pt (xw_or (pp := false) (q := false) (xt_eq (xt_cmpD (f := fun a b => not (decide (a = b))) (op_rc (rcS_listne (eqS_F T)) rfl h2) o2_rc (xv 9) (xe_eq (x_listM hiS (c_Stack T).cl (mm_Stack_steps T) FS hbS h11 h8 (xv 2) (xa (xv 3) xa0) pv (n_list T)) rfl) trivial) (by rw [decide_eq_true rfl]; rfl)) fun _ => xw_eq (xw_or (pp := false) (q := false) (xt_eq (xt_neF T h2 (x_ixL (as := stepsOf bx sh) (a := thru bx sh) (xv 9) (x_un un_neg o1_neg x_int trivial) hlast) (x_atS T h9 (xv 2) (xv 3) pv)) (by rw [decide_eq_true rfl]; rfl)) fun _ => xw_or1 (xt_eq (xt_not (xt_val (x_callB (cr_all rfl) co_all (n_all T) rfl (xa (x_mapN 10 (s := sBl) (xs := stepsOf bx sh) (f := isVal) nd (xi_list (xv 9)) (blkOk_by (own := [("_law_made", 10)]) (N := N__law_one_right) (sc := defScope s__law_one_right) (by decide +kernel)) (fun a ha s' H C' cl fp => xe_eq (x_smeth (pl := _) (c_Frac T).rd (p_Frac_is_value T) (c_F_is_value T) h1 (g_Frac T) (xa (xv 10) xa0) trivial) rfl) (by omega) (fun _ _ _ _ _ => pg_name nd rfl (Or.inl rfl))) xa0) trivial))) ?_)) rfl)) rfl) (fun h => by cases h) fun _ => ?_
  · show (!((stepsOf bx sh).map isVal).all id) = false
    have : ((stepsOf bx sh).map isVal).all id = true := by
      rw [List.all_eq_true]
      intro b hb
      obtain ⟨y, hy, rfl⟩ := List.mem_map.mp hb
      exact decide_eq_true (hrows y hy)
    rw [this]
    rfl
  refine xb_ifR (b := false) (xt_eq (xt_not (xt_val (x_callB (cr_all rfl) co_all (n_all T) rfl (xa (x_filtN 10 (s := sBl) (xs := stepsOf bx sh) (f := fun _ : Rat => true) (q := fun y => decide ((strQ y).length < 16)) nd (xi_list (xv 9)) (blkOk_by (own := [("_law_made", 10)]) (N := N__law_one_right) (sc := defScope s__law_one_right) (by decide +kernel)) (fun a ha s' H C' cl fp => ?_) (fun a ha s' H C' cl fp => ?_) (by omega) (fun _ _ _ _ _ => pg_name nd rfl (Or.inl rfl))) xa0) trivial))) ?_) (fun h => by cases h) fun _ => ?_
  · have b19 : Bd 1919 a := (hbd a ha).mono (by decide)
    have tl19 := len_strQ b19 (Nat.le_refl _)
    refine xt_eq (xt_cmpD (f := fun a b => decide (a < b)) op_lt o2_B0 (xe_eq (a' := ((strQ a).length : Int)) (x_callB call_len_str co_lenStr (n_len T) PySem.boot_len (xa (x_strF T h3 (xv 10) b19) xa0) (by show (strQ a).length ≤ 16777216; omega)) rfl) x_int trivial) ?_
    rw [decide_eq_decide]
    omega
  · have b19 : Bd 1919 a := (hbd a ha).mono (by decide)
    exact xe_eq (x_eqF T h1 (x_readF T h5 (x_Tq (x_strF T h3 (xv 10) b19) rfl) (hrows a ha).1 ((hbd a ha).mono (by decide))) (xv 10)) (decide_eq_true rfl)
  · show (!(((stepsOf bx sh).filter _).map fun _ => true).all id) = false
    simp
  -- the plain one
  have stp := st.pl
  have hpl : ∀ x, 0 ≤ x → x ≤ 1 → thru (bx.map plOf) x = thru bx x := fun x a b => thru_pl hlk a b
  have d1 : diffOf bx (bx.map plOf) = none := diff_none hlk stp.lk fun x a b => (hpl x a b).symm
  have d2 : diffOf (bx.map plOf) bx = none := diff_none stp.lk hlk hpl
  have df1 : PrDf (bx, bx.map plOf, ()) := ⟨247, st, stp, by decide⟩
  have df2 : PrDf (bx.map plOf, bx, ()) := ⟨247, stp, st, by decide⟩
  refine xb_set (s := sS K) (a := bx.map plOf) 11 nd (xe_eq (x_call (c_of_lst T) h6 (g__law_of_layers T) (k__law_of_layers T) (xa (x_mapN 10 (s := sLy K) (xs := bx) (f := plOf) nd (xi_tup (x_layersS T h2 (xv 2))) (blkOk_by (own := [("_law_made", 10)]) (N := N__law_one_right) (sc := defScope s__law_one_right) (by decide +kernel)) (fun a ha s' H C' cl fp => ?_) (by omega) (fun _ _ _ _ _ => pg_name nd rfl (Or.inl rfl))) xa0) (by show (bx.map plOf).length ≤ 24; rw [List.length_map]; exact hl24)) rfl) ?_
  · have pp : ∃ k, LayOk k a ∧ 2 * k + 20 ≤ 9000 := ⟨41, ok41 a ha, by decide⟩
    refine x_ifE (Pc := fun b => b = (plainOf a).isNone) (xt_eq (xt_cmpD (b := ()) (f := fun (a : Option Lay) (b : Unit) => a.isNone) op_isN o2_isN (x_plain T h8 (xv 10) pp) (xe_imp x_non fun _ _ => rfl) trivial) rfl) (fun h => xe_eq (xv 10) ?_) fun h => ?_
    · show a = (plainOf a).getD a
      cases hq : plainOf a with
      | none => rfl
      | some b => rw [hq] at h; cases h
    · cases hq : plainOf a with
      | none => rw [hq] at h; cases h
      | some b =>
        refine xe_eq (x_getO (a := b) (xe_eq (x_plain T h8 (xv 10) pp) hq)) ?_
        show b = (plainOf a).getD a
        rw [hq]
        rfl
  refine xb_ret (ef (xe_eq (x_and (pp := true) (q := true) (xe_eq (x_call (c_looks_same T) h10 (g_looks_same T) (k_looks_same T) (xa (xv 2) (xa (xv 11) xa0)) df1) (by show (diffOf bx (bx.map plOf)).isNone = true; rw [d1]; rfl)) fun _ => x_and (pp := true) (q := true) (xe_eq (x_cmpD (b := ()) (f := fun (a : Option Rat) (b : Unit) => a.isNone) op_isN o2_isN (x_call (c_difference T) h9 (g_difference T) (k_difference T) (xa (xv 11) (xa (xv 2) xa0)) df2) (xe_imp x_non fun _ _ => rfl) trivial) (by show (diffOf (bx.map plOf) bx).isNone = true; rw [d2]; rfl)) fun _ => x_last (xe_eq (x_eqF T h1 (x_atS T h9 (xv 11) (xv 3) (pvt stp)) (x_atS T h9 (xv 2) (xv 3) pv)) (decide_eq_true (hpl sh hv.1 hv.2)))) rfl))
end
end PC
set_option Elab.async false
set_option linter.all false
set_option maxRecDepth 100000
set_option maxHeartbeats 4000000
namespace PC
open PySem PySem.Spec
open PyProof.Rows hiding St
open L2 PL TX PM
section
variable {P : Program} {w : World} {K : Fg} {mg : PySem.Str → Option Value} {base : Heap}
theorem c_cell (T : Tx ex fn K mg) : FnR P w K mg base CX0 1 (aGlo "_law_cell" K) (spG (aC (sSc K) (aC sInt aN)) (fun a => 0 ≤ a.2.1 ∧ a.2.1 < 1000) sInt (fun _ _ => True)) := by
  obtain ⟨fd, F⟩ := f__law_cell T
  refine fn_x F sc__law_cell (argC_cons (argC_cons argC_nil)) (fun _ => rfl) (n := 2) (fun _ => rfl) (fun cdv A outer s H E hr ⟨l, k, _⟩ hp => ?_) (fun _ _ _ _ _ _ us hl => match us, hl with | [_, _], _ => rfl)
  obtain ⟨h0, h1⟩ := hp
  have h0 : 0 ≤ k := h0
  have h1 : k < 1000 := h1
  refine xb_ifR (xt_cmpD (f := fun a b => decide (a < b)) op_lt o2_B0 (xv 1) (x_lenS (n_len T) (xv 0)) trivial) (fun h => ?_) fun _ => ?_
  · have h : k < (l.length : Int) := of_decide_eq_true h
    obtain ⟨j, rfl⟩ : ∃ j : Nat, k = (j : Int) := ⟨k.toNat, by omega⟩
    have hj := List.getElem?_eq_getElem (show j < l.length by omega)
    exact xb_ret (ef (xe_imp (x_ixS (xv 0) (xv 1) (atI_nat hj)) fun _ _ => trivial))
  have ck : CMul k k := .inl ⟨by omega, by omega⟩
  refine xb_setP (s := sInt) (P := fun _ => True) 2 sc__law_cell.nd (ef (xe_imp (x_opD (f := fun a b => a % b) op_mod o2_I (x_opD (f := fun a b => a * b) op_mul o2_I x_int (x_opD (f := fun a b => a + b) op_add o2_I0 (x_opD (f := fun a b => a + b) op_add o2_I0 (x_opD (f := fun a b => a * b) op_mul o2_I (xv 1) (xv 1) ck) (x_opD (f := fun a b => a * b) op_mul o2_I x_int (xv 1) (.inl ⟨by decide, by decide⟩)) trivial) x_int trivial) (.inl ⟨by decide, by decide⟩)) x_int (by decide)) fun _ _ => trivial)) fun st _ => ?_
  refine xb_for (Pl := fun _ => True) (vs := [3]) (gt := gName 3) (I := fun _ _ Γ o => o = .no ∧ ∃ st c3, Γ = [Ce (sSc K) l, Ce sInt k, Ce sInt st, c3]) (N := fun Γ o => o = .no ∧ ∃ st c3, Γ = [Ce (sSc K) l, Ce sInt k, Ce sInt st, c3])
    PassesOwn.never rfl (ei (xi_imp (xi_list (x_slS (xv 0) xo_none (xo_some x_int))) fun _ _ => trivial)) (pg_name sc__law_cell.nd rfl (Or.inl rfl)) (tgt_name 3) ?_ ?_ ?_ ?_
  · exact fun xs _ => ⟨rfl, st, _, rfl⟩
  · rintro xs _ i x Γ o hx ⟨rfl, st, c3, rfl⟩
    refine ⟨fun j hj => rfl, ?_⟩
    refine xb_setP (s := sInt) (P := fun _ => True) 2 sc__law_cell.nd (ef (xe_imp (x_opD (f := fun a b => a % b) op_mod o2_I (x_opD (f := fun a b => a + b) op_add o2_I0 (x_opD (f := fun a b => a * b) op_mul o2_I (xv 2) x_int (.inr ⟨by decide, by decide⟩)) (xv 3) trivial) x_int (by decide)) fun _ _ => trivial)) fun st2 _ => ?_
    exact xb_nil ⟨rfl, st2, _, rfl⟩
  · exact fun xs _ Γ o h => h
  · rintro Γ o ⟨rfl, st, c3, rfl⟩
    exact xb_ret (ef (xe_imp (xv 2) fun _ _ => trivial))
end
end PC
set_option Elab.async false
set_option linter.all false
set_option maxRecDepth 100000
set_option maxHeartbeats 4000000
namespace PC
open PySem PySem.Spec
open PyProof.Rows hiding St
open L2 PL TX PM
section
variable {P : Program} {w : World} {K : Fg} {mg : PySem.Str → Option Value} {base : Heap}
theorem c_law_right (SP : SupP P file) (C : SaysC sn K) (T : Tx ex fn K mg) : FnR P w K mg base CX0 15 (aGlo "_law_right" K) (spG (aC (sBox okPool) aN) (fun _ => True) sBl (fun _ r => r = true)) := by
  obtain ⟨fd, F⟩ := f__law_right T
  refine fn_x F sc__law_right (argC_cons argC_nil) (fun _ => rfl) (n := 1) (fun _ => rfl) (fun cdv A outer s H E hr ⟨pl, _⟩ hp => ?_) (fun _ _ _ _ _ _ us hl => match us, hl with | [_], _ => rfl)
  have nd := sc__law_right.nd
  have h14 : Room 14 _ := hr
  have h4 : Room 4 _ := hr.mono (by decide)
  refine xb_ret (ef (xe_eq (x_callB (cr_all rfl) co_all (n_all T) rfl (xa (x_mapN 1 (s := sBl) (xs := ([3, 6, 12] : List Int)) (f := fun _ : Int => true) nd (xi_list (x_lst (xs x_int (xs x_int (xs x_int xs_nil))) (by show 3 ≤ 16777216; decide))) (blkOk_by (own := [("_law_high", 1)]) (N := N__law_right) (sc := defScope s__law_right) (by decide +kernel)) (fun k hk s' H C' cl fp => ?_) (by decide) fun _ _ _ _ _ => pg_name nd rfl (Or.inl rfl)) xa0) trivial) rfl))
  have hk : 0 ≤ k ∧ k ≤ 12 := by
    simp only [List.mem_cons, List.not_mem_nil, or_false] at hk
    omega
  refine xe_imp (x_callG (c_one_right SP C T) h14 (g__law_one_right T) (k__law_one_right T) (xa_consG (xv 0) (xa_consG (x_callP (c_sheets T) h4 (g__law_sheets T) (k__law_sheets T) (xa (xv 0) (xa (xv 1) xa0)) hk) xa_nil)) fun a h => h.2.1) fun r h => ?_
  obtain ⟨a, _, h⟩ := h
  exact h
abbrev spLaw (K : Fg) : Sp := spD (aC (sSc K) aN) (fun a => a.1.length ≤ 63) sBl (fun _ => true)
theorem ok_law (SP : SupP P file) (C : SaysC sn K) (T : Tx ex fn K mg) {fd : FuncData} (F : FunD K d_law.name d_law.qual (defArgs s_law) (defBody s_law) (defScope s_law) (d_law.dvs K) (d_law.kws K) (aGlo "law" K) fd) : FnOk P w K mg base CX0 16 (aGlo "law" K) fd ["_law_script"] (spLaw K) := by
  refine fn_xOk F sc_law (argC_cons argC_nil) (fun _ => rfl) (n := 1) (fun _ => rfl) (fun cdv A outer s H E hr ⟨l, _⟩ hp => ?_)
  have nd := sc_law.nd
  have hp : l.length ≤ 63 := hp
  have h1 : Room 1 _ := hr.mono (by decide)
  refine xb_ret (ef (xe_eq (x_callB (cr_all rfl) co_all (n_all T) rfl (xa (x_mapN 1 (f := fun _ : Int => true) nd (xi_r1 (n_range T) (x_callB (call_max2 rfl) co_max2 (n_max T) rfl (xa x_int (xa (x_callB (call_min2 rfl) co_min2 (n_min T) rfl (xa (x_lenS (n_len T) (xv 0)) (xa x_int xa0)) trivial) xa0)) trivial) ?_) (blkOk_by (own := [("_law_k", 1)]) (N := N_law) (sc := defScope s_law) (by decide +kernel)) (fun k hk s' H C' cl fp => ?_) ?_ fun _ _ _ _ _ => pg_name nd rfl (Or.inl rfl)) xa0) trivial) ?_))
  · show -(2 ^ 62) ≤ max (2 : Int) (min (l.length : Int) 4) ∧ max (2 : Int) (min (l.length : Int) 4) < 2 ^ 62
    omega
  · obtain ⟨i, hi⟩ := List.getElem?_of_mem hk
    obtain ⟨hi2, rfl⟩ := rangeL_get hi
    have hi2 : i < (max (2 : Int) (min (l.length : Int) 4)).toNat := hi2
    refine xe_imp (x_callG (c_law_right SP C T) hr (g__law_right T) (k__law_right T) (xa_consG (xe_imp (x_callG (c_pool T) h1 (g__law_pool T) (k__law_pool T) (xa_consG (x_callP (c_cell T) h1 (g__law_cell T) (k__law_cell T) (xa (xv 0) (xa (xv 1) xa0)) ⟨by show (0 : Int) ≤ 0 + (i : Int); omega, by show (0 : Int) + (i : Int) < 1000; omega⟩) xa_nil) fun _ _ => trivial) fun r h => trivial) xa_nil) fun _ _ => trivial) fun r h => h.choose_spec.2
  · rw [rangeL_len]
    show (max (2 : Int) (min (l.length : Int) 4)).toNat ≤ 16000000
    omega
  · show ((rangeL 0 _).map fun _ => true).all id = true
    simp
end
end PC
set_option Elab.async false
set_option linter.all false
set_option maxRecDepth 100000
set_option maxHeartbeats 0
namespace HD
open PySem PySem.Spec PyProof.Rows L2 PL
theorem facts {P : Program} {w : World} {K : PySem.W.Frag} {h : Heap} {mg : PySem.Str → Option Value} {f : Addr} (X : K.In h) (G : h.Ns mainGlobals mg) (hfa : mg ("law" : PySem.Str) = some (.ref f)) (c : SaysS TX.ex TX.fn TX.sn K) (SP : SupP P TX.file) :
    ∃ fd : FuncData, (∀ (s : Shared) (v : Value), BindsTo s fd ⟨[v], []⟩ [("_law_script", v)]) ∧ ∀ base : Heap, K.In base → base.Ns mainGlobals mg → FnOk P w K mg base CX0 16 f fd ["_law_script"] (PC.spLaw K) := by
  have T : Tx TX.ex TX.fn K mg := ⟨c.p, fun x q => He.glo_ok X G q, fun x q => He.free_ok X G q, fun x i q => He.int_ok X G q, fun x z q => He.str_ok X G q⟩
  have e := hfa.symm.trans (TX.g_law T)
  cases e
  obtain ⟨fd, F⟩ := TX.f_law T
  have b := FunD.bindsA (ps := ["_law_script"]) F fun _ _ _ _ _ _ us hl => match us, hl with | [_], _ => rfl
  exact ⟨fd, fun s v => b s [v] rfl, fun base _ _ => PC.ok_law SP c.c T F⟩
end HD
open PySem PySem.W PySem.Calls PyProof.Rows
theorem PySem.Challenge.cw_tonestacks_k67_whole_written_read_and_la_holds : PySem.Challenge.rw_tonestacks_k67_whole_written_read_and_la.Holds := by
  w_on; o_law
  refine HandSHeadRun.head_any (r := OpenLaw.row PySem.Challenge.rw_tonestacks_k67_whole_written_read_and_la) (q := view (OpenLaw.row PySem.Challenge.rw_tonestacks_k67_whole_written_read_and_la).prog [95]) (H := HD.hk) (ob := HD.ob) (M := 60000) (loose := HD.names) (d := HandSHeadRun.topDef (OpenLaw.row PySem.Challenge.rw_tonestacks_k67_whole_written_read_and_la).prog 95) (kwd := []) HD.ob_eq
    (by kernel_rfl) (fun s => by kernel_rfl) HD.run (by kernel_rfl) (by kernel_rfl) (by kernel_rfl) (by rfl) (by first | assumption | decide +kernel) (by decide +kernel) ⟨rfl, rfl, rfl, rfl, rfl, by decide +kernel⟩ ?hw ?hc
  case hw => w_witness2
  case hc =>
    refine L2.walk_ofE (l := PySem.Challenge.rw_tonestacks_k67_whole_written_read_and_la) (n := 63) (k := 16) (x := "_law_script") (CX := L2.CX0) rfl (by decide) (by kernel_rfl) ⟨rfl, by decide, by decide⟩ ?F (fun _ _ _ _ z => z)
    intro w mg fa h Y G hmg0
    obtain ⟨K, KX, c⟩ := Y
    have hmg : mg ("law" : PySem.Str) = some (.ref fa) := by
      have e : (HandSHeadRun.topDef (OpenLaw.row PySem.Challenge.rw_tonestacks_k67_whole_written_read_and_la).prog 95).name = ("law" : PySem.Str) := by kernel_rfl
      rw [← e]
      exact hmg0
    obtain ⟨fd, hb, hF⟩ := HD.facts (P := (PySem.Challenge.rw_tonestacks_k67_whole_written_read_and_la).prog) (w := w) KX G hmg c ⟨by kernel_rfl, by kernel_rfl⟩
    refine ⟨K, fd, PC.spLaw K, KX, hb, fun H a ns hl _ hS => ⟨(ns, ()), ⟨_, _, rfl, ⟨a, rfl, hS⟩, rfl⟩, hl, fun r v H' hr _ hv => ?_⟩, hF⟩
    cases hr
    exact hv
