import PyProof.Rows.All
import Wide.All
import OpenK.AllK
import Wide.FinOn
import KE.KStateDown
import HandS.Head0
import HandS.Head1
import HandS.Head2
import HandS.HeadEnd
import HandS.HeadHook1
import HandS.HeadHook2
import HandS.ForMost
import HandS.Wide
import HandS.ExcIs
import HandS.ExcField
import KE.KTryMore
import HandS.TupAny
import HandS.Style
import HandS.More
import HandS.IsInst
import KE.DataEq
import HandS.TupMul
import KE.KEqNest
import PyProof.ListStr
import HandS.TryOnly
import KE.KIntText
import HandS.Star
import HandS.CallRecv
import HandS.TupSets
import HandS.Finally
import HandS.DictTup
import KE.GoesMore
import KE.GoesZip
import HandS.Zip
import HandS.Codes
import HandS.SortKw
import KE.DataMinMax
import HandS.SetFor
import HandS.SetTxt0
import KE.KDictPairs
import HandS.RevRange
import HandS.RevTup
import HandS.Rev
import HandS.Conv
import PyProof.Rows.StrNews2
import PyProof.Rows.StrInSeq3
import HandS.ExcInit
import KE.KExcIs
import HandS.ExcOwn
import HandS.ExcValue
import HandS.Small
import HandS.Comp
import HandS.Defaults
import HandS.EndBits
import PySem.Challenge.RW_notekeep_k05_no_name
set_option Elab.async false
section
namespace NK
open PySem PySem.Spec L2
set_option autoImplicit false
/-- a text as its codes -/
abbrev W := List Nat
def S (w : W) : Str := ⟨w.toArray⟩
abbrev K1 := Sum Int W
/-- a class: its name and number, its instances' attributes, its methods (name, number, parameters), what makes it (number, arguments) -/
structure CI where
  name : Str
  idx : Nat
  attrs : List W
  ms : List (W × Nat × Nat)
  mkr : Option (Nat × Nat)
/-- a def as the top has it: its name, its number, its statement, its names, its parameters, where it stands, its qualified name -/
structure DefI where
  name : Str
  idx : Nat
  st : Stmt
  N : List Str
  ps : List Str
  at_ : Str × Option Str
  qual : Str
def DefI.D (d : DefI) : He.DefD := ⟨d.at_, d.name, d.qual, defArgs d.st, defBody d.st, defScope d.st, [], []⟩
/-- the j-th statement of a class's body -/
def clsS (s : Stmt) (j : Nat) : Stmt := match s with
  | .ClassDef _ _ _ b _ _ _ _ _ _ _ => b.getD j s
  | s => s
def wKeep : W := [75, 101, 101, 112, 69, 114, 114, 111, 114]
def wVal : W := [86, 97, 108, 117, 101, 69, 114, 114, 111, 114]
/-- an exception of the class w is one of t's -/
def subX (w t : W) : Bool := w == t || t == wKeep || t == wVal
/-- the classes that isinstance is asked of -/
def xNames : List W := [wVal, wKeep, [78, 111, 78, 97, 109, 101], [84, 111, 111, 71, 114, 101, 97, 116], [78, 111, 77, 101, 97, 115, 117, 114, 101], [78, 111, 84, 101, 120, 116], [78, 111, 76, 111, 111, 112]]
def clV (K : PySem.W.Frag) (t : W) : Value := if t = wVal then .type "ValueError" else .ref (He.ga K (S t))
/-- a class of exceptions: its name, its fields, its __init__ -/
structure XI where
  w : W
  xs : List W
  ini : Option DefI
def oexB (K : PySem.W.Frag) (C : Addr) : Bool := (match K.lookup C with
  | some ⟨.type "type", _, .cls cd, sl⟩ => (match cd.mro, sl.toList with
    | .ref C' :: bm, [_, _, _, _, some (.builtin n), _] => C' == C && n == "ValueError.__new__" && !cd.hasDel && cd.hasDict && PySem.HandSPX.refsVE bm
    | _, _ => false)
  | _ => false) && decide (PySem.W.findIn K (.ref C) "__setattr__" = some (some (.builtin "object.__setattr__"))) && decide (PySem.W.subIn K (.ref C) (.type "BaseException") = some true) && decide (PySem.W.typeIn K (.ref C) = some (.type "type")) && PySem.W.keepIn K (.ref C)
def excB (K : PySem.W.Frag) (D : Addr) : Bool := decide (PySem.W.findIn K (.ref D) "__getattribute__" = some (some (.builtin "BaseException.__getattribute__"))) && decide (PySem.W.findIn K (.ref D) "__getattr__" = some none) && decide (PySem.W.subIn K (.ref D) (.type "BaseException") = some true) && PySem.W.hasDictIn K D &&
  decide (PySem.W.findIn K (.ref D) "__class__" = some (some (.builtin "object.__class__"))) && decide (PySem.W.specialIn K (.builtin "object.__class__") "__get__" = some (some (.builtin "getset_descriptor.__get__"))) && decide (PySem.W.takesIn K (.builtin "object.__class__") = some true) && decide (PySem.W.mroIn K D (.type "object") = some true)
def gaB (K : PySem.W.Frag) (w : W) : Bool := decide (PySem.W.nsIn K mainGlobals (S w) = some (some (.ref (He.ga K (S w)))))
def xcB (K : PySem.W.Frag) (w : W) (xs : List W) : Bool := excB K (He.ga K (S w)) && L2.xfB K (He.ga K (S w)) && (xNames.all fun t => decide (t = wVal) || !gaB K t || decide (PySem.W.exmOne K (.ref (He.ga K (S w))) (.ref (He.ga K (S t))) = some (subX w t))) && (xs.all fun x => decide (PySem.W.findIn K (.ref (He.ga K (S w))) (S x) = some none)) &&
  (xNames.all fun t => !(decide (t = wVal) || gaB K t) || decide (PySem.W.kitOne K (.ref (He.ga K (S w))) (clV K t) = some (subX w t)))
def veBm : List Value := [.type "ValueError", .type "Exception", .type "BaseException", .type "object"]
def iniFB (K : PySem.W.Frag) (C : Addr) (d : DefI) : Bool := oexB K C && decide (PySem.W.findIn K (.ref C) "__init__" = some (some (.ref (He.fAd K d.at_)))) && decide (PySem.W.typeIn K (.ref (He.fAd K d.at_)) = some (.type "function"))
def xnB (K : PySem.W.Frag) (C : Addr) : Bool := PySem.W.excIn K C veBm "ValueError.__new__" && PySem.W.keepIn K (.ref C) && decide (PySem.W.subIn K (.ref C) (.type "BaseException") = some true) && decide (PySem.W.typeIn K (.ref C) = some (.type "type"))
def xfactB (K : PySem.W.Frag) (x : XI) : Bool := gaB K x.w && xcB K x.w x.xs && (match x.ini with
  | none => xnB K (He.ga K (S x.w))
  | some d => iniFB K (He.ga K (S x.w)) d)
def clFa (ci : CI) : List He.Fa := [.cls ci.name] ++ ci.attrs.map (fun x => .noat ci.name (S x)) ++ ci.ms.map (fun q => .meth ci.name (S q.1)) ++ (match ci.mkr with
  | some _ => [.mkr ci.name, .glo ci.name]
  | none => [])
def faOf (ds : List DefI) (gs : List (Str × K1)) (fr : List Str) (cl : List CI) : List He.Fa := (ds.filterMap fun d => match d.at_.2 with
  | none => some (.glo d.at_.1)
  | some _ => none) ++ gs.map (fun p => match p.2 with | .inl i => .int p.1 i | .inr w => .str p.1 (S w)) ++ fr.map .free ++ cl.flatMap clFa
end NK
end
section
set_option maxRecDepth 100000
set_option maxHeartbeats 0
namespace NK
open PySem PySem.Spec L2
def topS (i : Nat) : Stmt := PySem.Challenge.pw_notekeep_k05_no_name.main.body.getD i (.Pass ⟨0, 0, 0, 0⟩)
def d0 : DefI := ⟨"_law_names", 19, topS 22, ["_law_cell_here", "_law_letters", "_law_k"], ["_law_cell_here"], ("_law_names", none), "_law_names"⟩
def d1 : DefI := ⟨"_law_made", 427, topS 25, ["_law_number_here", "_law_place", "_law_one"], ["_law_number_here", "_law_place"], ("_law_made", none), "_law_made"⟩
def d2 : DefI := ⟨"_law_cell", 20, topS 15, ["_law_script", "_law_k"], ["_law_script", "_law_k"], ("_law_cell", none), "_law_cell"⟩
def d3 : DefI := ⟨"_law_purse", 10, topS 16, ["_law_cell_here", "_law_number_here", "_law_found", "_law_k"], ["_law_cell_here"], ("_law_purse", none), "_law_purse"⟩
def d4 : DefI := ⟨"_law_take", 11, topS 17, ["_law_purse_here", "_law_many", "_law_at", "_law_found"], ["_law_purse_here", "_law_many"], ("_law_take", none), "_law_take"⟩
def d5 : DefI := ⟨"_law_number", 21, topS 18, ["_law_purse_here"], ["_law_purse_here"], ("_law_number", none), "_law_number"⟩
def d6 : DefI := ⟨"_law_terms", 22, topS 19, ["_law_purse_here", "_law_names_here", "_law_found", "_law_name", "_law_weight"], ["_law_purse_here", "_law_names_here"], ("_law_terms", none), "_law_terms"⟩
def d7 : DefI := ⟨"_law_sum", 23, topS 20, ["_law_purse_here", "_law_names_here", "_law_by", "_law_terms_here"], ["_law_purse_here", "_law_names_here"], ("_law_sum", none), "_law_sum"⟩
def d8 : DefI := ⟨"_law_row", 29, topS 21, ["_law_purse_here", "_law_names_here", "_law_word", "_law_terms_here"], ["_law_purse_here", "_law_names_here"], ("_law_row", none), "_law_row"⟩
def d9 : DefI := ⟨"_law_good", 428, topS 24, ["_law_e", "_law_terms_here", "_law_point", "_law_lacks", "_law_name", "_law_weight"], ["_law_e", "_law_terms_here", "_law_point"], ("_law_good", none), "_law_good"⟩
def d10 : DefI := ⟨"must_have", 25, topS 11, ["terms", "point", "name", "weight"], ["terms", "point"], ("must_have", none), "must_have"⟩
def d11 : DefI := ⟨"common", 2, topS 8, ["one", "other"], ["one", "other"], ("common", none), "common"⟩
def d12 : DefI := ⟨"made", 3, topS 9, ["top", "bottom", "share"], ["top", "bottom"], ("made", none), "made"⟩
def d13 : DefI := ⟨"worth", 26, topS 12, ["total", "point", "top", "bottom", "terms", "whole", "by", "name", "weight", "up", "under"], ["total", "point"], ("worth", none), "worth"⟩
def d14 : DefI := ⟨"less", 7, topS 10, ["one", "other"], ["one", "other"], ("less", none), "less"⟩
def d15 : DefI := ⟨"is_so", 31, topS 13, ["row", "point", "found", "bound"], ["row", "point"], ("is_so", none), "is_so"⟩
def d16 : DefI := ⟨"_law_caught", 429, topS 23, ["_law_way", "_law_total", "_law_row_here", "_law_point", "_law_caught_here", "_law_e"], ["_law_way", "_law_total", "_law_row_here", "_law_point"], ("_law_caught", none), "_law_caught"⟩
def d17 : DefI := ⟨"law", 430, topS 26, ["_law_script", "_law_names_here", "_law_spare", "_law_cell_here", "_law_number_here", "_law_purse_here", "_law_total", "_law_row_here", "_law_point", "_law_k", "_law_kept", "_law_letter"], ["_law_script"], ("law", none), "law"⟩
def dsL : List DefI := [d0, d1, d2, d3, d4, d5, d6, d7, d8, d9, d10, d11, d12, d13, d14, d15, d16, d17]
def fsL : List (Str × Nat × Nat) := [(("_law_names" : Str), 19, 1), (("_law_made" : Str), 427, 2), (("_law_cell" : Str), 20, 2), (("_law_purse" : Str), 10, 1), (("_law_take" : Str), 11, 2), (("_law_number" : Str), 21, 1), (("_law_terms" : Str), 22, 2), (("_law_sum" : Str), 23, 2), (("_law_row" : Str), 29, 2), (("_law_good" : Str), 428, 3), (("must_have" : Str), 25, 2), (("common" : Str), 2, 2), (("made" : Str), 3, 2), (("worth" : Str), 26, 2), (("less" : Str), 7, 2), (("is_so" : Str), 31, 2), (("_law_caught" : Str), 429, 4), (("law" : Str), 430, 1)]
def gsL : List (Str × K1) := []
def frL : List Str := [("tuple" : Str), ("sorted" : Str), ("range" : Str), ("isinstance" : Str), ("ValueError" : Str), ("len" : Str), ("abs" : Str), ("int" : Str), ("dict" : Str)]
def clL : List CI := []
def x0 : XI := ⟨[75, 101, 101, 112, 69, 114, 114, 111, 114], [], none⟩
def x1 : XI := ⟨[78, 111, 78, 97, 109, 101], [[110, 97, 109, 101]], some ⟨"__init__", 0, clsS (topS 2) 0, ["self", "name"], ["self", "name"], (("NoName" : Str), some ("__init__" : Str)), "NoName.__init__"⟩⟩
def x2 : XI := ⟨[84, 111, 111, 71, 114, 101, 97, 116], [[110, 117, 109, 98, 101, 114], [109, 111, 115, 116]], some ⟨"__init__", 0, clsS (topS 3) 0, ["self", "number", "most"], ["self", "number", "most"], (("TooGreat" : Str), some ("__init__" : Str)), "TooGreat.__init__"⟩⟩
def x3 : XI := ⟨[78, 111, 77, 101, 97, 115, 117, 114, 101], [[112, 108, 97, 99, 101]], some ⟨"__init__", 0, clsS (topS 4) 0, ["self", "place"], ["self", "place"], (("NoMeasure" : Str), some ("__init__" : Str)), "NoMeasure.__init__"⟩⟩
def x4 : XI := ⟨[78, 111, 84, 101, 120, 116], [[108, 105, 110, 101]], some ⟨"__init__", 0, clsS (topS 5) 0, ["self", "line"], ["self", "line"], (("NoText" : Str), some ("__init__" : Str)), "NoText.__init__"⟩⟩
def x5 : XI := ⟨[78, 111, 76, 111, 111, 112], [[112, 108, 97, 99, 101]], some ⟨"__init__", 0, clsS (topS 6) 0, ["self", "place"], ["self", "place"], (("NoLoop" : Str), some ("__init__" : Str)), "NoLoop.__init__"⟩⟩
def xlL : List XI := [x0, x1, x2, x3, x4, x5]
abbrev faL : List He.Fa := faOf dsL gsL frL clL
abbrev fnL : List He.DefD := (dsL ++ xlL.filterMap XI.ini).map DefI.D
abbrev RL : PySem.W.OpenRow := PySem.W.OpenLaw.row PySem.Challenge.rw_notekeep_k05_no_name
/-- a set of addresses as a number's bits -/
def mHas (m a : Nat) : Bool := Nat.beq (Nat.land (Nat.shiftRight m a) 1) 1
def mPut (m a : Nat) : Nat := Nat.lor m (Nat.shiftLeft 1 a)
/-- those that are new -/
def addM : List Addr → Nat → List Addr → Nat × List Addr
  | [], m, f => (m, f)
  | a :: r, m, f => match mHas m a with
    | true => addM r m f
    | false => addM r (mPut m a) (a :: f)
def stepM (g : Addr → Option Obj) : List Addr → Nat → List Addr → Nat × List Addr
  | [], m, f => (m, f)
  | a :: r, m, f => match g a with
    | some o => (match addM (He.refsD o) m f with
      | (m', f') => stepM g r m' f')
    | none => stepM g r m f
def asM (g : Addr → Option Obj) : Nat → Nat → List Addr → List Addr → List Addr
  | 0, _, _, al => al
  | n + 1, m, f, al => match stepM g f m [] with
    | (m', f') => asM g n m' f' (al ++ f')
def as5 (n : Nat) (g : Addr → Option Obj) : List Addr := asM g n (mPut 0 mainGlobals) [mainGlobals] [mainGlobals]
abbrev AlX : Type := He.AlD × Bool
def obsK (fa : List He.Fa) (fn : List He.DefD) (xl : List XI) (K : PySem.W.Frag) : AlX := (He.obsD fa fn K, xl.all (xfactB K))
def obsM (n : Nat) (fa : List He.Fa) (fn : List He.DefD) (xl : List XI) (g : Addr → Option Obj) : AlX := obsK fa fn xl (He.frG g (as5 n g))
def hookM (n : Nat) (fa : List He.Fa) (fn : List He.DefD) (xl : List XI) : PySem.W.Hook where
  α := AlX
  obs := fun s => obsM n fa fn xl s.heap.get?
  val := fun _ => (He.valD fn, true)
  says := fun _ h => ∃ K : PySem.W.Frag, K.In h ∧ He.SaysD fa fn K ∧ xl.all (xfactB K) = true
  of := fun _ _ e => ⟨_, He.frG_in, congrArg (fun z : AlX => z.1) e, congrArg (fun z : AlX => z.2) e⟩
  keeps := fun _ _ _ z k => match z with
    | ⟨K, hK, c⟩ => ⟨K, hK.keeps k, c⟩
abbrev hkL : PySem.W.Hook := hookM 4 faL fnL xlL
def obL (s : PySem.W.SharedT) : AlX := obsM 4 faL fnL xlL (HandSHeadRun.getT s)
theorem obL_eq (s : PySem.W.SharedT) : obL s = hkL.obs s.abs := by
  have e : HandSHeadRun.getT s = s.abs.heap.get? := funext fun a => HandSHeadRun.getT_eq s a
  show obsM _ faL fnL xlL (HandSHeadRun.getT s) = obsM _ faL fnL xlL s.abs.heap.get?
  rw [e]
def looseL : List PySem.Str := (["KeepError", "NoName", "TooGreat", "NoMeasure", "NoText", "NoLoop", "common", "made", "less", "must_have", "worth", "is_so", "_law_cell", "_law_purse", "_law_take", "_law_number", "_law_terms", "_law_sum", "_law_row", "_law_names", "_law_caught", "_law_good", "_law_made"] : List PySem.Str)
abbrev qL : PySem.Program := PySem.W.view RL.prog [26]
noncomputable abbrev xL (w : World) (os : OsState) : Option PySem.W.SharedT := HandSHeadRun.endF (HandSHeadRun.stepQ (HandSHeadRun.denQ HandSHeadRun.tabQ) RL.prog w) 20000 RL.prog w os
section
open PySem.W PySem PySem.Calls PyProof.Rows
theorem runA (w : World) (os : OsState) : (xL w os).map (fun s => HandSHeadRun.looksF RL.prog (boot_heap w.params) s.abs) = some true := by
  kernel_rfl
theorem runB (w : World) (os : OsState) : (xL w os).map (fun s => HandSHeadRun.seenQ qL looseL (importedModules RL.prog.main.body) (fun s => xlAt qL [] s && recOk RL.toRowW.records s) s.abs) = some (openGood qL looseL) := by
  kernel_rfl
theorem runC (w : World) (os : OsState) : (xL w os).map (fun s => obL s) = some (hkL.val w) := by
  kernel_rfl
end
theorem map3 {α β γ δ : Type} {x : Option α} {f : α → β} {g : α → γ} {h : α → δ} {b : β} {c : γ} {d : δ} (e1 : x.map f = some b) (e2 : x.map g = some c) (e3 : x.map h = some d) : x.map (fun s => (f s, g s, h s)) = some (b, c, d) := by
  cases x with
  | none => cases e1
  | some a => exact congrArg some (Prod.ext (Option.some.inj e1) (Prod.ext (Option.some.inj e2) (Option.some.inj e3)))
theorem runL (w : World) : HandSHeadRun.RunEq RL qL hkL obL 20000 looseL w := fun os => map3 (runA w os) (runB w os) (runC w os)
section
open PySem.W PySem PySem.Calls PyProof.Rows
theorem openL (h : RL.wellSaid = true → RL.Holds) : PySem.Challenge.rw_notekeep_k05_no_name.Holds := by
  w_on; o_law
  exact h (by assumption)
abbrev dfL : DefRec := HandSHeadRun.topDef RL.prog 26
theorem headL (said : RL.wellSaid = true) (hc : WalkO qL looseL (XL qL []) hkL.says RL.toRowW dfL [] fun f vs => PySem.call f vs) : RL.Holds := by
  refine HandSHeadRun.head_any (r := RL) (q := qL) (H := hkL) (ob := obL) (M := 20000) (loose := looseL) (d := dfL) (kwd := []) obL_eq
    (by kernel_rfl) (fun s => by kernel_rfl) runL (by kernel_rfl) (by kernel_rfl) (by kernel_rfl) (by rfl) said (by decide +kernel) ⟨rfl, rfl, rfl, rfl, rfl, by decide +kernel⟩ ?hw hc
  case hw => w_witness2
theorem dfltL : dfL.params.defaults = [] := by kernel_rfl
theorem nameL : dfL.name = d17.name := by kernel_rfl
theorem treeL : PySem.Challenge.rw_notekeep_k05_no_name.prog.given.tree = none := by kernel_rfl
theorem impL : importsNone qL = true := by decide +kernel
end
end NK
end
set_option Elab.async false
set_option linter.all false
set_option autoImplicit false
set_option maxRecDepth 100000
namespace NK
open PySem PySem.Spec L2
theorem S_inj {a b : W} (h : S a = S b) : a = b := by
  have h1 : a.toArray = b.toArray := congrArg Str.cps h
  simpa using congrArg Array.toList h1
theorem S_iff {a b : W} : S a = S b ↔ a = b := ⟨S_inj, fun h => by rw [h]⟩
theorem S_len (a : W) : (S a).length = a.length := by simp [S, Str.length]
theorem S_app (a b : W) : S a ++ S b = S (a ++ b) := by
  show Str.append (S a) (S b) = S (a ++ b)
  simp [Str.append, S]
theorem S_cps (a : W) : (S a).cps.toList = a := by simp [S]
theorem S_of (s : Str) : S s.cps.toList = s := by cases s; simp [S]
def kk : K1 → Key
  | .inl i => .inl i
  | .inr w => .inr (S w)
theorem kk_inj {a b : K1} (h : kk a = kk b) : a = b := by
  cases a <;> cases b <;> simp [kk] at h ⊢
  · exact h
  · exact S_inj h
inductive D where
  | non | bl (b : Bool) | int (i : Int) | str (w : W)
  | tup (ds : List D) | lst (ds : List D)
  | dK (ks : List K1) (ds : List D) | dT (ks : List (List K1)) (ds : List D)
  | scr (ns : List Int)
  | exc (w : W) (xs : List W) (ds : List D)
inductive Val where
  | dat (d : D) | bor (d : D) | ref (l : Nat)
  | tup (pre : List D) (l : Nat) (post : List D)
inductive Obj where
  | lst (ds : List D) | dK (ks : List K1) (ds : List D) | dT (ks : List (List K1)) (ds : List D)
  | ins (c : Nat) (fs : List (W × Val)) | dead
def k2V : K1 → V
  | .inl i => .int i
  | .inr w => .str (S w)
theorem k2V_kV (k : K1) : k2V k = kV (kk k) := by cases k <;> rfl
def prs : List D → Bool
  | [] => true
  | .tup [.str _, .int _] :: ds => prs ds
  | _ => false
def tupO (ds : List D) (o : PySem.Obj) (us : List V) : HO := if prs ds then .frz o (.tup us) else .tup us
def TupAt (F : Hp) (p : Addr) (ds : List D) (us : List V) : Prop := ∃ o : PySem.Obj, o.dict = none ∧ F p = some (tupO ds o us)
theorem TupAt.rd {F : Hp} {p : Addr} {ds : List D} {us : List V} (h : TupAt F p ds us) : Rd F p (.tup us) := by
  obtain ⟨o, _, h⟩ := h
  unfold tupO at h
  split at h
  · exact .inr ⟨o, h⟩
  · exact .inl h
theorem TupAt.mono {F F' : Hp} (h : ∀ a o, F a = some o → F' a = some o) {p : Addr} {ds : List D} {us : List V} (q : TupAt F p ds us) : TupAt F' p ds us := let ⟨o, h1, h2⟩ := q; ⟨o, h1, h _ _ h2⟩
def obj0 : PySem.Obj := { cls := .type "tuple", data := .seq #[] }
theorem TupAt.plain {F : Hp} {p : Addr} {ds : List D} {us : List V} (h : F p = some (.tup us)) (n : prs ds = false) : TupAt F p ds us := ⟨obj0, rfl, by unfold tupO; rw [n]; exact h⟩
theorem TupAt.tup {F : Hp} {p : Addr} {ds : List D} {us : List V} (q : TupAt F p ds us) (n : prs ds = false) : F p = some (.tup us) := by
  obtain ⟨o, _, h⟩ := q
  unfold tupO at h
  rw [n] at h
  exact h
theorem TupAt.obj {F : Hp} {p : Addr} {ds : List D} {us : List V} (q : TupAt F p ds us) (n : prs ds = true) : ∃ o : PySem.Obj, o.dict = none ∧ F p = some (.frz o (.tup us)) := by
  obtain ⟨o, h0, h⟩ := q
  unfold tupO at h
  rw [n] at h
  exact ⟨o, h0, h⟩
def XTy (K : PySem.W.Frag) (t : W) : Prop := t ∈ xNames ∧ (t = wVal ∨ PySem.W.nsIn K mainGlobals (S t) = some (some (.ref (He.ga K (S t)))))
structure XcK (K : PySem.W.Frag) (w : W) (xs : List W) : Prop where
  cc : ExcC K (He.ga K (S w))
  xf : XfC K (He.ga K (S w))
  ex : ∀ t, XTy K t → t ≠ wVal → PySem.W.exmOne K (.ref (He.ga K (S w))) (.ref (He.ga K (S t))) = some (subX w t)
  no : ∀ x ∈ xs, PySem.W.findIn K (.ref (He.ga K (S w))) (S x) = some none
  si : ∀ t, XTy K t → PySem.W.kitOne K (.ref (He.ga K (S w))) (clV K t) = some (subX w t)
def ExcAt (a C : Addr) (od : Option Addr) (h : Heap) : Prop := ∃ ox vs, h.get? a = some ox ∧ ox.cls = .ref C ∧ ox.dict = od ∧ ox.data = .fields vs
def ExV (a C : Addr) (od : Option Addr) : HO := .ext (ExcAt a C od)
def Flds (fs : List (Str × V)) : List W → List V → Prop
  | [], us => us = []
  | x :: xs, us => ∃ u us', us = u :: us' ∧ fs.lookup (S x) = some u ∧ Flds fs xs us'
def XDict (F : Hp) (od : Option Addr) (xs : List W) (us : List V) : Prop := match xs with
  | [] => od = none ∧ us = []
  | _ => ∃ dd fs, od = some dd ∧ F dd = some (.xd fs) ∧ Flds fs xs us
section
variable (K : PySem.W.Frag) (F : Hp)
mutual
def Den : D → V → Prop
  | .non, u => u = .non
  | .bl b, u => u = .bl b
  | .int i, u => u = .int i
  | .str w, u => u = .str (S w)
  | .tup ds, u => ∃ p us, u = .ref p ∧ TupAt F p ds us ∧ Dens ds us
  | .lst ds, u => ∃ p us, u = .ref p ∧ F p = some (.lst us) ∧ Dens ds us
  | .dK ks ds, u => ∃ p us, u = .ref p ∧ Rd F p (.dK ((ks.map kk).zip us)) ∧ ks.length = ds.length ∧ Dens ds us
  | .dT ks ds, u => ∃ p us, u = .ref p ∧ Rd F p (.dT ((ks.map (·.map kk)).zip us)) ∧ ks.length = ds.length ∧ Dens ds us
  | .scr ns, u => ∃ p, u = .ref p ∧ SqL K F p (ns.map V.int)
  | .exc w xs ds, u => XcK K w xs ∧ ∃ p od us, u = .ref p ∧ F p = some (ExV p (He.ga K (S w)) od) ∧ XDict F od xs us ∧ Dens ds us
def Dens : List D → List V → Prop
  | [], us => us = []
  | d :: ds, us => ∃ u us', us = u :: us' ∧ Den d u ∧ Dens ds us'
end
end
theorem XDict.mono {F F' : Hp} (h : ∀ a o, F a = some o → F' a = some o) {od : Option Addr} {xs : List W} {us : List V} (q : XDict F od xs us) : XDict F' od xs us := by
  cases xs with
  | nil => exact q
  | cons x xs =>
    obtain ⟨dd, fs, e, a, b⟩ := q
    exact ⟨dd, fs, e, h _ _ a, b⟩
section
variable {K : PySem.W.Frag} {F F' : Hp}
theorem sqL_mono (h : ∀ a o, F a = some o → F' a = some o) {p : Addr} {us : List V} (q : SqL K F p us) : SqL K F' p us := by
  rcases q with (q | ⟨o, q⟩) | q
  · exact .inl (.inl (h _ _ q))
  · exact .inl (.inr ⟨o, h _ _ q⟩)
  · exact .inr q
theorem rd_mono (h : ∀ a o, F a = some o → F' a = some o) {p : Addr} {u : HO} (q : Rd F p u) : Rd F' p u := by
  rcases q with q | ⟨o, q⟩
  · exact .inl (h _ _ q)
  · exact .inr ⟨o, h _ _ q⟩
mutual
theorem Den.mono (h : ∀ a o, F a = some o → F' a = some o) : ∀ (d : D) (u : V), Den K F d u → Den K F' d u
  | .non, _, q => q
  | .bl _, _, q => q
  | .int _, _, q => q
  | .str _, _, q => q
  | .tup ds, u, q => by
    obtain ⟨p, us, e, a, b⟩ := (show ∃ p us, u = .ref p ∧ TupAt F p ds us ∧ Dens K F ds us by simpa only [Den] using q)
    simp only [Den]
    exact ⟨p, us, e, a.mono h, Dens.mono h ds us b⟩
  | .lst ds, u, q => by
    simp only [Den] at q ⊢
    obtain ⟨p, us, e, a, b⟩ := q
    exact ⟨p, us, e, h _ _ a, Dens.mono h ds us b⟩
  | .scr ns, u, q => by
    simp only [Den] at q ⊢
    obtain ⟨p, e, a⟩ := q
    exact ⟨p, e, sqL_mono h a⟩
  | .exc w xs ds, u, q => by
    simp only [Den] at q ⊢
    obtain ⟨x, p, od, us, e, a, b, c⟩ := q
    exact ⟨x, p, od, us, e, h _ _ a, b.mono h, Dens.mono h ds us c⟩
  | .dK ks ds, u, q => by
    simp only [Den] at q ⊢
    obtain ⟨p, us, e, a, l, b⟩ := q
    exact ⟨p, us, e, rd_mono h a, l, Dens.mono h ds us b⟩
  | .dT ks ds, u, q => by
    simp only [Den] at q ⊢
    obtain ⟨p, us, e, a, l, b⟩ := q
    exact ⟨p, us, e, rd_mono h a, l, Dens.mono h ds us b⟩
theorem Dens.mono (h : ∀ a o, F a = some o → F' a = some o) : ∀ (ds : List D) (us : List V), Dens K F ds us → Dens K F' ds us
  | [], _, q => by simp only [Dens] at q ⊢; exact q
  | d :: ds, us, q => by
    simp only [Dens] at q ⊢
    obtain ⟨u, us', e, a, b⟩ := q
    exact ⟨u, us', e, Den.mono h d u a, Dens.mono h ds us' b⟩
end
theorem Dens.nil {us : List V} : Dens K F [] us ↔ us = [] := by simp only [Dens]
theorem Dens.cons {d : D} {ds : List D} {us : List V} : Dens K F (d :: ds) us ↔ ∃ u us', us = u :: us' ∧ Den K F d u ∧ Dens K F ds us' := by simp only [Dens]
theorem Dens.length : ∀ {ds : List D} {us : List V}, Dens K F ds us → us.length = ds.length
  | [], us, h => by rw [Dens.nil.mp h]; rfl
  | d :: ds, us, h => by
    obtain ⟨u, us', rfl, _, b⟩ := Dens.cons.mp h
    simp [Dens.length b]
theorem Dens.append : ∀ {ds es : List D} {us vs : List V}, Dens K F ds us → Dens K F es vs → Dens K F (ds ++ es) (us ++ vs)
  | [], _, us, vs, h, h' => by rw [Dens.nil.mp h]; simpa using h'
  | d :: ds, es, us, vs, h, h' => by
    obtain ⟨u, us', rfl, a, b⟩ := Dens.cons.mp h
    exact Dens.cons.mpr ⟨u, us' ++ vs, rfl, a, Dens.append b h'⟩
theorem Dens.get : ∀ {ds : List D} {us : List V} {i : Nat} {d : D}, Dens K F ds us → ds[i]? = some d → ∃ u, us[i]? = some u ∧ Den K F d u
  | [], us, i, d, h, e => by simp at e
  | d :: ds, us, 0, d', h, e => by
    obtain ⟨u, us', rfl, a, b⟩ := Dens.cons.mp h
    simp at e; subst e
    exact ⟨u, rfl, a⟩
  | d :: ds, us, i + 1, d', h, e => by
    obtain ⟨u, us', rfl, a, b⟩ := Dens.cons.mp h
    obtain ⟨w, e1, e2⟩ := Dens.get (i := i) (d := d') b (by simpa using e)
    exact ⟨w, by simpa using e1, e2⟩
theorem Dens.take : ∀ {ds : List D} {us : List V} (n : Nat), Dens K F ds us → Dens K F (ds.take n) (us.take n)
  | ds, us, 0, _ => by simp [Dens]
  | [], us, n + 1, h => by rw [Dens.nil.mp h]; simp [Dens]
  | d :: ds, us, n + 1, h => by
    obtain ⟨u, us', rfl, a, b⟩ := Dens.cons.mp h
    exact Dens.cons.mpr ⟨u, us'.take n, rfl, a, Dens.take n b⟩
theorem Dens.drop : ∀ {ds : List D} {us : List V} (n : Nat), Dens K F ds us → Dens K F (ds.drop n) (us.drop n)
  | ds, us, 0, h => by simpa using h
  | [], us, n + 1, h => by rw [Dens.nil.mp h]; simp [Dens]
  | d :: ds, us, n + 1, h => by
    obtain ⟨u, us', rfl, a, b⟩ := Dens.cons.mp h
    simpa using Dens.drop n b
theorem Dens.set : ∀ {ds : List D} {us : List V} (i : Nat) {d : D} {u : V}, Den K F d u → Dens K F ds us → Dens K F (ds.set i d) (us.set i u)
  | [], us, i, d, u, _, h => by rw [Dens.nil.mp h]; simp [Dens]
  | e :: ds, us, 0, d, u, a, h => by
    obtain ⟨w, us', rfl, _, b⟩ := Dens.cons.mp h
    exact Dens.cons.mpr ⟨u, us', rfl, a, b⟩
  | e :: ds, us, i + 1, d, u, a, h => by
    obtain ⟨w, us', rfl, a', b⟩ := Dens.cons.mp h
    exact Dens.cons.mpr ⟨w, us'.set i u, rfl, a', Dens.set i a b⟩
theorem Dens.eraseIdx : ∀ {ds : List D} {us : List V} (i : Nat), Dens K F ds us → Dens K F (ds.eraseIdx i) (us.eraseIdx i)
  | [], us, i, h => by rw [Dens.nil.mp h]; simp [Dens]
  | e :: ds, us, 0, h => by
    obtain ⟨w, us', rfl, _, b⟩ := Dens.cons.mp h
    simpa using b
  | e :: ds, us, i + 1, h => by
    obtain ⟨w, us', rfl, a', b⟩ := Dens.cons.mp h
    exact Dens.cons.mpr ⟨w, us'.eraseIdx i, rfl, a', Dens.eraseIdx i b⟩
theorem Dens.reverse : ∀ {ds : List D} {us : List V}, Dens K F ds us → Dens K F ds.reverse us.reverse
  | [], us, h => by rw [Dens.nil.mp h]; simp [Dens]
  | d :: ds, us, h => by
    obtain ⟨u, us', rfl, a, b⟩ := Dens.cons.mp h
    rw [List.reverse_cons, List.reverse_cons]
    exact (Dens.reverse b).append (Dens.cons.mpr ⟨u, [], rfl, a, Dens.nil.mpr rfl⟩)
theorem Dens.dropLast {ds : List D} {us : List V} (h : Dens K F ds us) : Dens K F ds.dropLast us.dropLast := by
  rw [List.dropLast_eq_take, List.dropLast_eq_take, h.length]
  exact h.take _
theorem Dens.one {d : D} {u : V} (a : Den K F d u) : Dens K F [d] [u] := Dens.cons.mpr ⟨u, [], rfl, a, Dens.nil.mpr rfl⟩
theorem Den.tup_iff {ds : List D} {u : V} : Den K F (.tup ds) u ↔ ∃ p us, u = .ref p ∧ TupAt F p ds us ∧ Dens K F ds us := by simp only [Den]
theorem Den.lst_iff {ds : List D} {u : V} : Den K F (.lst ds) u ↔ ∃ p us, u = .ref p ∧ F p = some (.lst us) ∧ Dens K F ds us := by simp only [Den]
theorem Den.dK_iff {ks : List K1} {ds : List D} {u : V} : Den K F (.dK ks ds) u ↔ ∃ p us, u = .ref p ∧ Rd F p (.dK ((ks.map kk).zip us)) ∧ ks.length = ds.length ∧ Dens K F ds us := by simp only [Den]
theorem Den.dT_iff {ks : List (List K1)} {ds : List D} {u : V} : Den K F (.dT ks ds) u ↔ ∃ p us, u = .ref p ∧ Rd F p (.dT ((ks.map (·.map kk)).zip us)) ∧ ks.length = ds.length ∧ Dens K F ds us := by simp only [Den]
theorem Den.scr_iff {ns : List Int} {u : V} : Den K F (.scr ns) u ↔ ∃ p, u = .ref p ∧ SqL K F p (ns.map V.int) := by simp only [Den]
theorem Den.exc_iff {w : W} {xs : List W} {ds : List D} {u : V} : Den K F (.exc w xs ds) u ↔ XcK K w xs ∧ ∃ p od us, u = .ref p ∧ F p = some (ExV p (He.ga K (S w)) od) ∧ XDict F od xs us ∧ Dens K F ds us := by simp only [Den]
theorem Den.int_iff {i : Int} {u : V} : Den K F (.int i) u ↔ u = .int i := by simp only [Den]
theorem Den.bl_iff {b : Bool} {u : V} : Den K F (.bl b) u ↔ u = .bl b := by simp only [Den]
theorem Den.str_iff {w : W} {u : V} : Den K F (.str w) u ↔ u = .str (S w) := by simp only [Den]
theorem Den.non_iff {u : V} : Den K F .non u ↔ u = .non := by simp only [Den]
end
def Top (K : PySem.W.Frag) (G F : Hp) : D → V → Prop
  | .lst ds, u => ∃ p us, u = .ref p ∧ G p = some (.lst us) ∧ Dens K F ds us
  | .dK ks ds, u => ∃ p us, u = .ref p ∧ Rd G p (.dK ((ks.map kk).zip us)) ∧ ks.length = ds.length ∧ Dens K F ds us
  | .dT ks ds, u => ∃ p us, u = .ref p ∧ Rd G p (.dT ((ks.map (·.map kk)).zip us)) ∧ ks.length = ds.length ∧ Dens K F ds us
  | _, _ => False
def VOk (K : PySem.W.Frag) (F B : Hp) (as : List Addr) : Val → V → Prop
  | .dat d, u => Den K F d u
  | .bor d, u => Top K B F d u
  | .ref l, u => ∃ a, as[l]? = some a ∧ u = .ref a
  | .tup pre l post, u => ∃ p vs ws a, u = .ref p ∧ F p = some (.tup (vs ++ V.ref a :: ws)) ∧ Dens K F pre vs ∧ Dens K F post ws ∧ as[l]? = some a
def FsOk (K : PySem.W.Frag) (F B : Hp) (as : List Addr) (fs : List (W × Val)) (gs : List (Str × V)) : Prop := Paired (fun (p : W × Val) (q : Str × V) => q.1 = S p.1 ∧ VOk K F B as p.2 q.2) fs gs
def OOk (K : PySem.W.Frag) (cs : Nat → Option Addr) (F B : Hp) (as : List Addr) : Obj → HO → Prop
  | .lst ds, o => ∃ us, o = .lst us ∧ Dens K F ds us
  | .dK ks ds, o => ∃ us, o = .dK ((ks.map kk).zip us) ∧ ks.length = ds.length ∧ Dens K F ds us
  | .dT ks ds, o => ∃ us, o = .dT ((ks.map (·.map kk)).zip us) ∧ ks.length = ds.length ∧ Dens K F ds us
  | .ins c fs, o => ∃ C dx gs, cs c = some C ∧ o = .ins C dx gs ∧ FsOk K F B as fs gs
  | .dead, _ => True
section
variable {K : PySem.W.Frag} {F B : Hp} {as : List Addr} {u : V}
theorem vint {i : Int} : VOk K F B as (.dat (.int i)) (.int i) := by simp only [VOk, Den]
theorem vbl {b : Bool} : VOk K F B as (.dat (.bl b)) (.bl b) := by simp only [VOk, Den]
theorem vstr {w : W} : VOk K F B as (.dat (.str w)) (.str (S w)) := by simp only [VOk, Den]
theorem vnon : VOk K F B as (.dat .non) .non := by simp only [VOk, Den]
theorem int_of {i : Int} (h : VOk K F B as (.dat (.int i)) u) : u = .int i := by simpa only [VOk, Den] using h
theorem bl_of {i : Bool} (h : VOk K F B as (.dat (.bl i)) u) : u = .bl i := by simpa only [VOk, Den] using h
theorem str_of {i : W} (h : VOk K F B as (.dat (.str i)) u) : u = .str (S i) := by simpa only [VOk, Den] using h
theorem non_of (h : VOk K F B as (.dat .non) u) : u = .non := by simpa only [VOk, Den] using h
end
abbrev Env := List (Option Val)
abbrev Sto := List Obj
structure RSt (K : PySem.W.Frag) (cs : Nat → Option Addr) (F B : Hp) (as : List Addr) (st : Sto) (H : Hp) : Prop where
  fh : ∀ a o, F a = some o → H a = some o
  bh : ∀ a o, B a = some o → H a = some o
  nd : as.Nodup
  len : as.length = st.length
  nb : ∀ a ∈ as, B a = none
  obj : ∀ (l : Nat) (a : Addr) (o : Obj), as[l]? = some a → st[l]? = some o → (o = .dead ∨ F a = none) ∧ ∃ ho, H a = some ho ∧ OOk K cs F B as o ho
structure Rel (K : PySem.W.Frag) (cs : Nat → Option Addr) (F B : Hp) (as : List Addr) (env : Env) (st : Sto) (σ : L2.St) (H : Hp) : Prop extends RSt K cs F B as st H where
  slot : ∀ (i : Nat) (v : Val), env[i]? = some (some v) → ∃ u, σ[i]? = some (some u) ∧ VOk K F B as v u
  elen : env.length = σ.length
structure Ext (F : Hp) (as : List Addr) (H F' : Hp) (as' : List Addr) (H' : Hp) : Prop where
  ff : ∀ a o, F a = some o → F' a = some o
  pre : as <+: as'
  fr : ∀ a o, H a = some o → a ∉ as → H' a = some o
  frA : ∀ a, a ∈ as → H' a ≠ none
  nf : ∀ a, F' a ≠ none → F a = none → H a = none ∨ a ∈ as
  na : ∀ a, a ∈ as' → a ∉ as → H a = none
theorem Ext.refl (F : Hp) (as : List Addr) (H : Hp) (h : ∀ a, a ∈ as → H a ≠ none) : Ext F as H F as H :=
  ⟨fun _ _ h => h, List.prefix_refl _, fun _ _ h _ => h, h, fun _ h h' => absurd h' h, fun _ h h' => absurd h h'⟩
theorem Ext.trans {F F1 F2 H H1 H2 : Hp} {as as1 as2 : List Addr} (a : Ext F as H F1 as1 H1) (b : Ext F1 as1 H1 F2 as2 H2) : Ext F as H F2 as2 H2 := by
  refine ⟨fun x o h => b.ff _ _ (a.ff _ _ h), a.pre.trans b.pre, fun x o h hn => ?_, fun x hx => b.frA x (a.pre.subset hx), fun x h2 h0 => ?_, fun x h2 h0 => ?_⟩
  · by_cases hx : x ∈ as1
    · have := a.na x hx hn
      rw [h] at this; cases this
    · exact b.fr _ _ (a.fr _ _ h hn) hx
  · by_cases h1 : F1 x = none
    · rcases b.nf x h2 h1 with q | q
      · cases hH : H x with
        | none => exact .inl rfl
        | some o =>
          by_cases hx : x ∈ as
          · exact .inr hx
          · rw [a.fr _ _ hH hx] at q; cases q
      · by_cases hx : x ∈ as
        · exact .inr hx
        · exact .inl (a.na x q hx)
    · exact a.nf x h1 h0
  · by_cases h1 : x ∈ as1
    · exact a.na x h1 h0
    · have q := b.na x h2 h1
      cases hH : H x with
      | none => rfl
      | some o => rw [a.fr _ _ hH h0] at q; cases q
section
variable {K : PySem.W.Frag} {cs : Nat → Option Addr} {F B H F' H' : Hp} {as as' : List Addr} {env : Env} {st : Sto} {σ : L2.St}
theorem pre_get {α : Type} {as as' : List α} (h : as <+: as') {l : Nat} {a : α} (e : as[l]? = some a) : as'[l]? = some a := by
  obtain ⟨t, rfl⟩ := h
  rw [List.getElem?_append_left (List.getElem?_eq_some_iff.mp e).1]
  exact e
theorem Top.mono {G : Hp} (h : ∀ a o, F a = some o → F' a = some o) : ∀ {d : D} {u : V}, Top K G F d u → Top K G F' d u
  | .lst ds, u, q => by obtain ⟨p, us, e, a, b⟩ := q; exact ⟨p, us, e, a, Dens.mono h _ _ b⟩
  | .dK ks ds, u, q => by obtain ⟨p, us, e, a, l, b⟩ := q; exact ⟨p, us, e, a, l, Dens.mono h _ _ b⟩
  | .dT ks ds, u, q => by obtain ⟨p, us, e, a, l, b⟩ := q; exact ⟨p, us, e, a, l, Dens.mono h _ _ b⟩
  | .non, _, q => q.elim
  | .bl _, _, q => q.elim
  | .int _, _, q => q.elim
  | .str _, _, q => q.elim
  | .tup _, _, q => q.elim
  | .scr _, _, q => q.elim
  | .exc _ _ _, _, q => q.elim
theorem VOk.mono (h : ∀ a o, F a = some o → F' a = some o) (hp : as <+: as') : ∀ {v : Val} {u : V}, VOk K F B as v u → VOk K F' B as' v u
  | .dat d, u, q => Den.mono h d u q
  | .bor d, u, q => Top.mono h q
  | .ref l, u, q => by
    obtain ⟨a, e, r⟩ := q
    exact ⟨a, pre_get hp e, r⟩
  | .tup pre l post, u, q => by
    obtain ⟨p, vs, ws, a, e, f, d1, d2, r⟩ := q
    exact ⟨p, vs, ws, a, e, h _ _ f, Dens.mono h _ _ d1, Dens.mono h _ _ d2, pre_get hp r⟩
theorem VOk.ext (x : Ext F as H F' as' H') {v : Val} {u : V} (q : VOk K F B as v u) : VOk K F' B as' v u := q.mono x.ff x.pre
theorem OOk.mono (h : ∀ a o, F a = some o → F' a = some o) (hp : as <+: as') : ∀ {o : Obj} {ho : HO}, OOk K cs F B as o ho → OOk K cs F' B as' o ho
  | .lst ds, ho, q => by obtain ⟨us, e, b⟩ := q; exact ⟨us, e, Dens.mono h _ _ b⟩
  | .dK ks ds, ho, q => by obtain ⟨us, e, l, b⟩ := q; exact ⟨us, e, l, Dens.mono h _ _ b⟩
  | .dT ks ds, ho, q => by obtain ⟨us, e, l, b⟩ := q; exact ⟨us, e, l, Dens.mono h _ _ b⟩
  | .ins c fs, ho, q => by
    obtain ⟨C, dx, gs, e1, e2, b⟩ := q
    exact ⟨C, dx, gs, e1, e2, Paired.mapP b fun p q r => ⟨r.1, r.2.mono h hp⟩⟩
  | .dead, _, _ => trivial
theorem RSt.there (r : RSt K cs F B as st H) : ∀ a, a ∈ as → H a ≠ none := fun a ha => by
  obtain ⟨l, hl, e⟩ := List.mem_iff_getElem.mp ha
  have hl' : l < st.length := by rw [← r.len]; exact hl
  obtain ⟨_, ho, e2, _⟩ := r.obj l a st[l] (by rw [List.getElem?_eq_getElem hl, e]) (List.getElem?_eq_getElem hl')
  rw [e2]; simp
theorem RSt.refl (r : RSt K cs F B as st H) : Ext F as H F as H := Ext.refl F as H r.there
theorem RSt.frozen (r : RSt K cs F B as st H) {p : Addr} {o : HO} (hp : H p = none) : RSt K cs (upd F p o) B as st (upd H p o) ∧ Ext F as H (upd F p o) as (upd H p o) := by
  have pF : F p = none := by
    cases q : F p with
    | none => rfl
    | some x => rw [r.fh _ _ q] at hp; cases hp
  have nep : ∀ {a}, H a ≠ none → a ≠ p := fun h e => h (by rw [e]; exact hp)
  have hF : ∀ a x, F a = some x → (upd F p o) a = some x := fun a x h => by rw [upd_ne (by intro e; rw [e, pF] at h; cases h)]; exact h
  refine ⟨⟨fun a x h => ?_, fun a x h => ?_, r.nd, r.len, r.nb, fun l a x e1 e2 => ?_⟩, ⟨hF, List.prefix_refl _, fun a x h _ => ?_, fun a h => ?_, fun a h h' => ?_, fun a h h' => absurd h h'⟩⟩
  · by_cases e : a = p
    · subst e; rw [upd_same] at h ⊢; exact h
    · rw [upd_ne e] at h ⊢; exact r.fh _ _ h
  · have := r.bh _ _ h
    rw [upd_ne (nep (by rw [this]; simp))]; exact this
  · obtain ⟨z, ho, e3, e4⟩ := r.obj l a x e1 e2
    have ne := nep (a := a) (by rw [e3]; simp)
    refine ⟨z.imp id fun z => by rw [upd_ne ne]; exact z, ho, by rw [upd_ne ne]; exact e3, e4.mono hF (List.prefix_refl _)⟩
  · rw [upd_ne (nep (by rw [h]; simp))]; exact h
  · rw [upd_ne (nep (r.there a h))]; exact r.there a h
  · by_cases e : a = p
    · subst e; exact .inl hp
    · rw [upd_ne e] at h; exact absurd h' h
theorem RSt.own (r : RSt K cs F B as st H) {p : Addr} {o : Obj} {ho : HO} (hp : H p = none) (ok : OOk K cs F B (as ++ [p]) o ho) : RSt K cs F B (as ++ [p]) (st ++ [o]) (upd H p ho) ∧ Ext F as H F (as ++ [p]) (upd H p ho) := by
  have pF : F p = none := by
    cases q : F p with
    | none => rfl
    | some x => rw [r.fh _ _ q] at hp; cases hp
  have pB : B p = none := by
    cases q : B p with
    | none => rfl
    | some x => rw [r.bh _ _ q] at hp; cases hp
  have nep : ∀ {a}, H a ≠ none → a ≠ p := fun h e => h (by rw [e]; exact hp)
  have pas : p ∉ as := fun h => r.there p h hp
  refine ⟨⟨fun a x h => ?_, fun a x h => ?_, ?_, by simp [r.len], ?_, fun l a x e1 e2 => ?_⟩, ⟨fun _ _ h => h, List.prefix_append _ _, fun a x h _ => ?_, fun a h => ?_, fun a h h' => absurd h' h, fun a h h' => ?_⟩⟩
  · have := r.fh _ _ h
    rw [upd_ne (nep (by rw [this]; simp))]; exact this
  · have := r.bh _ _ h
    rw [upd_ne (nep (by rw [this]; simp))]; exact this
  · rw [List.nodup_append]
    exact ⟨r.nd, by simp, fun a h b h' e => by simp at h'; subst h'; subst e; exact pas h⟩
  · intro a h
    rcases List.mem_append.mp h with h | h
    · exact r.nb a h
    · simp at h; subst h; exact pB
  · by_cases hl : l < as.length
    · rw [List.getElem?_append_left hl] at e1
      rw [List.getElem?_append_left (by rw [← r.len]; exact hl)] at e2
      obtain ⟨z, ho', e3, e4⟩ := r.obj l a x e1 e2
      exact ⟨z, ho', by rw [upd_ne (nep (by rw [e3]; simp))]; exact e3, e4.mono (fun _ _ h => h) (List.prefix_append _ _)⟩
    · have hl1 : as.length ≤ l := by omega
      rw [List.getElem?_append_right hl1] at e1
      rw [List.getElem?_append_right (by rw [← r.len]; exact hl1)] at e2
      have h0 : l - as.length = 0 := by
        rcases Nat.eq_zero_or_pos (l - as.length) with h | h
        · exact h
        · rw [List.getElem?_eq_none (by simp; omega)] at e1; cases e1
      rw [h0] at e1
      rw [← r.len, h0] at e2
      simp at e1 e2
      subst e1; subst e2
      exact ⟨.inr pF, ho, upd_same, ok⟩
  · rw [upd_ne (nep (by rw [h]; simp))]; exact h
  · rw [upd_ne (nep (r.there a h))]; exact r.there a h
  · rcases List.mem_append.mp h with h | h
    · exact absurd h h'
    · simp at h; subst h; exact hp
theorem RSt.write (r : RSt K cs F B as st H) {l : Nat} {p : Addr} {o o' : Obj} {ho : HO} (e1 : as[l]? = some p) (e2 : st[l]? = some o) (nd : o ≠ .dead) (ok : OOk K cs F B as o' ho) : RSt K cs F B as (st.set l o') (upd H p ho) ∧ Ext F as H F as (upd H p ho) := by
  obtain ⟨z, ho0, e3, _⟩ := r.obj l p o e1 e2
  have pF : F p = none := z.resolve_left nd
  have pm : p ∈ as := List.mem_of_getElem? e1
  have pB := r.nb p pm
  refine ⟨⟨fun a x h => ?_, fun a x h => ?_, r.nd, by simp [r.len], r.nb, fun j a x e4 e5 => ?_⟩, ⟨fun _ _ h => h, List.prefix_refl _, fun a x h hn => ?_, fun a h => ?_, fun a h h' => absurd h' h, fun a h h' => absurd h h'⟩⟩
  · rw [upd_ne (by intro e; rw [e, pF] at h; cases h)]; exact r.fh _ _ h
  · rw [upd_ne (by intro e; rw [e, pB] at h; cases h)]; exact r.bh _ _ h
  · by_cases hj : j = l
    · subst hj
      rw [e1] at e4; cases e4
      rw [List.getElem?_set_self (List.getElem?_eq_some_iff.mp e2).1] at e5; cases e5
      exact ⟨.inr pF, ho, upd_same, ok⟩
    · rw [List.getElem?_set_ne (Ne.symm hj)] at e5
      obtain ⟨z', ho', e6, e7⟩ := r.obj j a x e4 e5
      have ne : a ≠ p := fun e => hj (nd_ix (x := p) r.nd (by rw [← e]; exact e4) e1)
      exact ⟨z', ho', by rw [upd_ne ne]; exact e6, e7⟩
  · rw [upd_ne (by intro e; exact hn (e ▸ pm))]; exact h
  · by_cases e : a = p
    · subst e; rw [upd_same]; simp
    · rw [upd_ne e]; exact r.there a h
theorem RSt.freeze (r : RSt K cs F B as st H) {l : Nat} {p : Addr} {o : Obj} {ho : HO} (e1 : as[l]? = some p) (e2 : st[l]? = some o) (nd : o ≠ .dead) (e3 : H p = some ho) : RSt K cs (upd F p ho) B as (st.set l .dead) H ∧ Ext F as H (upd F p ho) as H := by
  obtain ⟨z, ho0, e3', _⟩ := r.obj l p o e1 e2
  have pF : F p = none := z.resolve_left nd
  have pm : p ∈ as := List.mem_of_getElem? e1
  have hF : ∀ a x, F a = some x → (upd F p ho) a = some x := fun a x h => by rw [upd_ne (by intro e; rw [e, pF] at h; cases h)]; exact h
  refine ⟨⟨fun a x h => ?_, r.bh, r.nd, by simp [r.len], r.nb, fun j a x e4 e5 => ?_⟩, ⟨hF, List.prefix_refl _, fun _ _ h _ => h, r.there, fun a h h' => ?_, fun a h h' => absurd h h'⟩⟩
  · by_cases e : a = p
    · subst e; rw [upd_same] at h; cases h; exact e3
    · rw [upd_ne e] at h; exact r.fh _ _ h
  · by_cases hj : j = l
    · subst hj
      rw [e1] at e4; cases e4
      rw [List.getElem?_set_self (List.getElem?_eq_some_iff.mp e2).1] at e5; cases e5
      exact ⟨.inl rfl, ho, e3, trivial⟩
    · rw [List.getElem?_set_ne (Ne.symm hj)] at e5
      obtain ⟨z', ho', e6, e7⟩ := r.obj j a x e4 e5
      have ne : a ≠ p := fun e => hj (nd_ix (x := p) r.nd (by rw [← e]; exact e4) e1)
      exact ⟨z'.imp id fun z => by rw [upd_ne ne]; exact z, ho', e6, e7.mono hF (List.prefix_refl _)⟩
  · by_cases e : a = p
    · subst e; exact .inr pm
    · rw [upd_ne e] at h; exact absurd h' h
theorem Rel.slots {F' H' : Hp} {as' : List Addr} {st' : Sto} (r : Rel K cs F B as env st σ H) (x : Ext F as H F' as' H') (r' : RSt K cs F' B as' st' H') : Rel K cs F' B as' env st' σ H' :=
  { r' with slot := fun i v e => let ⟨u, e1, e2⟩ := r.slot i v e; ⟨u, e1, e2.ext x⟩, elen := r.elen }
theorem Rel.frozen (r : Rel K cs F B as env st σ H) {p : Addr} {o : HO} (hp : H p = none) : Rel K cs (upd F p o) B as env st σ (upd H p o) ∧ Ext F as H (upd F p o) as (upd H p o) :=
  let ⟨a, x⟩ := r.toRSt.frozen (o := o) hp
  ⟨r.slots x a, x⟩
theorem Rel.set (r : Rel K cs F B as env st σ H) {i : Nat} {v : Val} {u : V} (h : VOk K F B as v u) (hi : i < σ.length) : Rel K cs F B as (env.set i (some v)) st (σ.set i (some u)) H :=
  { r.toRSt with
    slot := fun j w e => by
      by_cases hj : j = i
      · subst hj
        rw [List.getElem?_set_self (by rw [r.elen]; exact hi)] at e; cases e
        exact ⟨u, List.getElem?_set_self hi, h⟩
      · rw [List.getElem?_set_ne (Ne.symm hj)] at e
        rw [List.getElem?_set_ne (Ne.symm hj)]
        exact r.slot j w e
    elen := by simp [r.elen] }
end
end NK
set_option Elab.async false
set_option linter.all false
set_option autoImplicit false
set_option maxRecDepth 100000
namespace NK
open PySem PySem.Spec L2
inductive BOp where | add | sub | mul | fdiv | mod | pow | shl
  deriving DecidableEq
inductive COp where | eq | ne | lt | le | gt | ge | is | isnot | inn | notin
  deriving DecidableEq
inductive Bi where | len | abs | int | str | list | tuple | dict | sorted | sum | max | min | all | any | max2 | min2 | maxD | sset
  deriving DecidableEq
inductive Mt where | append | pop | popAt | clear | get | pop2 | join | split | partition | rpartition | startswith | strip | lstrip | count | index | update
  deriving DecidableEq
inductive Ty where | int | bool | str | tuple | list | dict
  deriving DecidableEq
mutual
inductive E where
  | int (i : Int) | bl (b : Bool) | non | str (w : W)
  | var (i : Nat) | gl (x : W) (d : D)
  | tup (es : List E)
  | bin (o : BOp) (a b : E) | neg (a : E) | not (a : E)
  | and (a b : E) | or (a b : E)
  | cmp (o : COp) (a b : E) | chain (o o' : COp) (a b c : E)
  | ite (c a b : E)
  | idx (a i : E) | slc (a : E) (lo hi : Option E)
  | call (f : Nat) (m : List Bool) (es : List E) | callA (f : Nat) (m : List Bool) (es : List E)
  | bi (b : Bi) (es : List E)
  | mt (m : Mt) (o : E) (es : List E)
  | isi (a : E) (ts : List Ty)
  | fz (o : O) | new (o : O)
  | tupV (es : List E) | idxT (a i : E) | callT (f : Nat) (m : List Bool) (es : List E)
  | attr (c : Nat) (a : E) (x : W) | meth (c f : Nat) (x : W) (o : E) (es : List E) | make (g : Nat) (es : List E)
  | isx (a : E) (ts : List W) (tup : Bool) | fldx (a : E) (x : W) | mkx (w : W) (xs : List W) (es : List E)
inductive O where
  | lst (es : List E) | dic (kvs : List E) | dicT
  | comp (elt : E) (tg : List Nat) (tup : Bool) (it : I) (c : Option E) (own : List Nat)
  | compP (elt : E) (tg : List Nat) (tup : Bool) (i : Nat) (c : Option E) (own : List Nat)
  | compD (elt : E) (tg : List Nat) (tup : Bool) (i : Nat) (c : Option E) (own : List Nat)
  | list (a : E) | dict (a : E) | cut (a : E) (lo hi : Option E) | cat (a b : E) | rep (a b : E) | evn (a : E) | lrev (a : E) | lkeys (a : E)
inductive I where
  | e (a : E) | rng (es : List E) | enum (a : E) | zip (a b : E) | rev (a : E) | revr (es : List E)
end
inductive St where
  | set (i : Nat) (e : E) | setT (is : List Nat) (e : E) | setU (is : List Nat) (e : E) | par (i j : Nat) (a b : E)
  | sub (o k v : E) | aug (i : Nat) (o : BOp) (e : E) | ext (i : Nat) (e : E)
  | expr (e : E)
  | ifS (c : E) (a b : List St) | wh (c : E) (b : List St)
  | forS (tg : List Nat) (tup : Bool) (it : I) (b : List St)
  | forP (tg : List Nat) (tup : Bool) (i : Nat) (b : List St) | forD (tg : List Nat) (tup : Bool) (i : Nat) (b : List St) | forK (tg : List Nat) (tup : Bool) (i j k : Nat) (b : List St)
  | ret (e : E) | retN | pass | nev | frz (i : Nat)
  | setA (c : Nat) (o : E) (x : W) (v : E) | augA (c : Nat) (o : E) (x : W) (op : BOp) (v : E)
inductive Ret where | dat (d : D) | own (o : Obj) | val (v : Val) | tup (pre : List D) (o : Obj) (post : List D)
abbrev Calls := Nat → List Val → Sto → Option (Ret × Sto)
def LIM : Nat := 16777216
def allD : List Val → Option (List D)
  | [] => some []
  | .dat d :: vs => (allD vs).map (d :: ·)
  | _ => none
def toV1 : List Val → Option (List D × Nat × List D)
  | .dat d :: vs => (toV1 vs).map fun r => (d :: r.1, r.2.1, r.2.2)
  | .ref l :: vs => (allD vs).map fun ds => ([], l, ds)
  | _ => none
def insV (c : Nat) (v : Val) (st : Sto) : Option (List (W × Val)) := match v with
  | .ref l => match st[l]? with
    | some (.ins c' fs) => if c' = c then some fs else none
    | _ => none
  | _ => none
def putA (x : W) (v : Val) : List (W × Val) → List (W × Val)
  | [] => [(x, v)]
  | (y, u) :: r => if y = x then (y, v) :: r else (y, u) :: putA x v r
def setAV (c : Nat) (x : W) (o v : Val) (st : Sto) : Option Sto := match o with
  | .ref l => match st[l]? with
    | some (.ins c' fs) => if c' = c ∧ fs.length < 900 then some (st.set l (.ins c' (putA x v fs))) else none
    | _ => none
  | _ => none
def valR (q : Ret × Sto) : Option (Val × Sto) := match q.1 with
  | .val v => some (v, q.2)
  | _ => none
def flat : Obj → Bool
  | .ins _ _ => false
  | _ => true
def fzO : Obj → Option D
  | .lst ds => some (.lst ds)
  | .dK ks ds => some (.dK ks ds)
  | .dT ks ds => some (.dT ks ds)
  | _ => none
def snap (st : Sto) : Val → Option D
  | .dat d => some d
  | .bor d => some d
  | .ref l => (st[l]?).bind fzO
  | .tup _ _ _ => none
def asL (st : Sto) (v : Val) : Option (List D) := match snap st v with
  | some (.lst ds) => some ds
  | some (.scr ns) => some (ns.map .int)
  | _ => none
def asX (st : Sto) (v : Val) : Option (List D) := match snap st v with
  | some (.lst ds) => some ds
  | _ => none
def asT : Val → Option (List D)
  | .dat (.tup ds) => some ds
  | _ => none
def asU : Val → Option (List D)
  | .dat (.tup ds) => some ds
  | .dat (.lst ds) => some ds
  | _ => none
def asLT (st : Sto) (v : Val) : Option (List D) := match asT v with
  | some ds => some ds
  | none => asL st v
def asDK (st : Sto) (v : Val) : Option (List K1 × List D) := match snap st v with
  | some (.dK ks ds) => some (ks, ds)
  | _ => none
def pairsK : List D → Option (List K1 × List D)
  | [] => some ([], [])
  | .tup [.str w, .int i] :: ds => (pairsK ds).map fun r => (.inr w :: r.1, .int i :: r.2)
  | _ => none
def toK : D → Option K1
  | .int i => some (.inl i)
  | .str w => some (.inr w)
  | _ => none
def toKs : List D → Option (List K1)
  | [] => some []
  | d :: ds => (toK d).bind fun k => (toKs ds).map fun ks => k :: ks
def toTK : D → Option (List K1)
  | .tup ds => if ds.isEmpty then none else toKs ds
  | _ => none
def toD : Val → Sto → Option (D × Sto)
  | .dat d, st => some (d, st)
  | .bor _, _ => none
  | .ref l, st => ((st[l]?).bind fzO).map fun d => (d, st.set l .dead)
  | .tup pre l post, st => ((st[l]?).bind fzO).bind fun d => if prs (pre ++ d :: post) then none else some (.tup (pre ++ d :: post), st.set l .dead)
def toDs : List Val → Sto → Option (List D × Sto)
  | [], st => some ([], st)
  | v :: vs, st => (toD v st).bind fun r => (toDs vs r.2).map fun q => (r.1 :: q.1, q.2)
def dlook {κ : Type} [DecidableEq κ] : List κ → List D → κ → Option D
  | k :: ks, d :: ds, j => if k = j then some d else dlook ks ds j
  | _, _, _ => none
def dsetK {κ : Type} [DecidableEq κ] : List κ → List D → κ → D → List D
  | k :: ks, d :: ds, j, e => (if k = j then e else d) :: dsetK ks ds j e
  | _, _, _, _ => []
def dputK {κ : Type} [DecidableEq κ] (ks : List κ) (ds : List D) (j : κ) (e : D) : List κ × List D := if j ∈ ks then (ks, dsetK ks ds j e) else (ks ++ [j], ds ++ [e])
def ddrop {κ : Type} [DecidableEq κ] : List κ → List D → κ → List κ × List D
  | k :: ks, d :: ds, j => if k = j then ddrop ks ds j else (k :: (ddrop ks ds j).1, d :: (ddrop ks ds j).2)
  | _, _, _ => ([], [])
mutual
def toP : D → PyData
  | .non => .none | .bl b => .bool b | .int i => .int i | .str w => .str (S w)
  | .tup ds => .tuple (toPs ds) | .lst ds => .list (toPs ds)
  | .dK _ _ => .none | .dT _ _ => .none
  | .scr ns => .list (ns.map .int)
  | .exc _ _ _ => .none
def toPs : List D → List PyData
  | [] => [] | d :: ds => toP d :: toPs ds
end
mutual
def nod : D → Bool
  | .tup ds => nods ds | .lst ds => nods ds
  | .dK _ _ => false | .dT _ _ => false | .exc _ _ _ => false
  | _ => true
def nods : List D → Bool
  | [] => true | d :: ds => nod d && nods ds
end
mutual
def dep : D → Nat
  | .tup ds => deps ds + 1 | .lst ds => deps ds + 1 | .scr _ => 1
  | _ => 0
def deps : List D → Nat
  | [] => 0 | d :: ds => max (dep d) (deps ds)
end
mutual
def eqD : D → D → Bool
  | .non, .non => true
  | .bl a, .bl b => a == b
  | .bl a, .int j => (if a then 1 else 0) == j
  | .int i, .bl b => i == (if b then 1 else 0)
  | .int i, .int j => i == j
  | .str x, .str y => x == y
  | .lst xs, .lst ys => eqDs xs ys
  | .tup xs, .tup ys => eqDs xs ys
  | .scr xs, .scr ys => xs == ys
  | .scr xs, .lst ys => eqSs xs ys
  | .lst xs, .scr ys => eqSs ys xs
  | .dK ks ds, .dK js es => ks.length == js.length && eqKs ks ds js es
  | _, _ => false
def eqKs : List K1 → List D → List K1 → List D → Bool
  | k :: ks, d :: ds, js, es => (match dlook js es k with
    | some e => eqD d e
    | none => false) && eqKs ks ds js es
  | _, _, _, _ => true
def eqDs : List D → List D → Bool
  | [], [] => true
  | x :: xs, y :: ys => eqD x y && eqDs xs ys
  | _, _ => false
def eqSs : List Int → List D → Bool
  | [], [] => true
  | x :: xs, y :: ys => eqI x y && eqSs xs ys
  | _, _ => false
def eqI : Int → D → Bool
  | i, .int j => i == j
  | i, .bl b => i == (if b then 1 else 0)
  | _, _ => false
end
def eqOkK : D → D → Bool
  | .dK ks ds, .dK js es => nods ds && nods es && decide (ks.length = ds.length) && decide (js.length = es.length) && decide (min (deps ds) (deps es) ≤ 150)
  | _, _ => false
def eqOk (a b : D) : Bool := (nod a && nod b && decide (min (dep a) (dep b) ≤ 190)) || eqOkK a b
mutual
def okT : D → Bool
  | .tup ds => okTs ds | .lst ds => okTs ds
  | .dK _ ds => okTs ds | .dT _ _ => false
  | .scr _ => false | .exc _ _ _ => false
  | _ => true
def okTs : List D → Bool
  | [] => true | d :: ds => okT d && okTs ds
end
mutual
def depT : D → Nat
  | .tup ds => depTs ds + 1 | .lst ds => depTs ds + 1 | .dK _ ds => depTs ds + 1
  | _ => 0
def depTs : List D → Nat
  | [] => 0 | d :: ds => max (depT d) (depTs ds)
end
def eqOkT (a b : D) : Bool := okT a && okT b && decide (depT a ≤ 150) && eqD a b && (match a with
  | .lst _ => true | .tup _ => true | .dK _ _ => true
  | _ => false)
def eqOkL (a b : D) : Bool := match a with
  | .lst _ => eqOkT a b
  | .tup _ => eqOkT a b
  | _ => false
def eqOkE (a b : D) : Bool := match a, b with
  | .lst _, .lst [] => true
  | _, _ => false
def okMul (i j : Int) : Bool := decide (i.natAbs.log2 + j.natAbs.log2 < 100000000)
def okDiv (j : Int) : Bool := decide (j ≠ 0)
def okPow (i j : Int) : Bool := decide (0 ≤ j) && decide (j ≤ 1000000) && decide (i.natAbs < 2 ^ 64)
def binV (o : BOp) (x y : Val) (st : Sto) : Option Val := match o, x, y with
  | .add, .dat (.int i), .dat (.int j) => some (.dat (.int (i + j)))
  | .sub, .dat (.int i), .dat (.int j) => some (.dat (.int (i - j)))
  | .mul, .dat (.int i), .dat (.int j) => if okMul i j then some (.dat (.int (i * j))) else none
  | .fdiv, .dat (.int i), .dat (.int j) => if okDiv j then some (.dat (.int (i.fdiv j))) else none
  | .mod, .dat (.int i), .dat (.int j) => if j = 0 then none else some (.dat (.int (i.fmod j)))
  | .pow, .dat (.int i), .dat (.int j) => if okPow i j then some (.dat (.int (i ^ j.toNat))) else none
  | .shl, .dat (.int i), .dat (.int j) => if okPow i j then some (.dat (.int (i * 2 ^ j.toNat))) else none
  | .add, .dat (.str a), .dat (.str b) => if a.length + b.length ≤ LIM then some (.dat (.str (a ++ b))) else none
  | .add, .dat (.tup a), .dat (.tup b) => if a.length + b.length ≤ LIM then some (.dat (.tup (a ++ b))) else none
  | .mul, .dat (.tup a), .dat (.int j) => if a.isEmpty = false ∧ a.length ≤ 1000 ∧ 2 ≤ j ∧ j ≤ 1000 ∧ prs (List.replicate j.toNat a).flatten = false then some (.dat (.tup (List.replicate j.toNat a).flatten)) else if a.isEmpty = false ∧ j = 1 then some (.dat (.tup a)) else if a.isEmpty = false ∧ j = 0 then some (.dat (.tup [])) else none
  | .mul, .dat (.str a), .dat (.int j) => if a.length ≤ 1000 ∧ 0 ≤ j ∧ j ≤ 1000 then some (.dat (.str (List.replicate j.toNat a).flatten)) else none
  | .add, a, b => match asX st a, asX st b with
    | some xs, some ys => if xs.length + ys.length ≤ LIM then some (.dat (.lst (xs ++ ys))) else none
    | _, _ => none
  | _, _, _ => none
def ltW : W → W → Bool
  | [], [] => false
  | [], _ :: _ => true
  | _ :: _, [] => false
  | a :: r, b :: t => decide (a < b) || (a == b && ltW r t)
def cmpV (o : COp) (x y : Val) (st : Sto) : Option Bool := match o, x, y with
  | .lt, .dat (.int i), .dat (.int j) => some (decide (i < j))
  | .le, .dat (.int i), .dat (.int j) => some (decide (i ≤ j))
  | .gt, .dat (.int i), .dat (.int j) => some (decide (j < i))
  | .ge, .dat (.int i), .dat (.int j) => some (decide (j ≤ i))
  | .lt, .dat (.str i), .dat (.str j) => some (ltW i j)
  | .le, .dat (.str i), .dat (.str j) => some (!ltW j i)
  | .gt, .dat (.str i), .dat (.str j) => some (ltW j i)
  | .ge, .dat (.str i), .dat (.str j) => some (!ltW i j)
  | .is, .dat .non, .dat .non => some true
  | .is, .dat (.bl a), .dat (.bl b) => some (a == b)
  | .is, _, .dat .non => some false
  | .isnot, .dat .non, .dat .non => some false
  | .isnot, .dat (.bl a), .dat (.bl b) => some (!(a == b))
  | .isnot, _, .dat .non => some true
  | .eq, x, y => match snap st x, snap st y with
    | some a, some b => if eqOkE a b || (eqOk a b || eqOkT a b) then some (eqD a b) else none
    | _, _ => none
  | .ne, x, y => match snap st x, snap st y with
    | some a, some b => if eqOk a b || eqOkL a b then some (!eqD a b) else none
    | _, _ => none
  | .inn, x, y => inV x y
  | .notin, x, y => (inV x y).map (!·)
  | _, _, _ => none
where inV (x y : Val) : Option Bool := match snap st x, snap st y with
    | some (.str a), some (.str b) => match a with
      | [c] => some (decide (c ∈ b))
      | _ => none
    | some k, some (.dK ks ds) => (toK k).map fun k => (dlook ks ds k).isSome
    | some k, some (.dT ks ds) => (toTK k).map fun k => (dlook ks ds k).isSome
    | some a, some (.lst ds) => if nod a && nods ds && decide (dep a ≤ 150) then some (ds.any fun d => eqD d a) else none
    | some a, some (.tup ds) => if nod a && nods ds && decide (dep a ≤ 150) then some (ds.any fun d => eqD d a) else none
    | _, _ => none
def ix (n : Nat) (i : Int) : Option Nat := if 0 ≤ i then (if i < n then some i.toNat else none) else if -(n : Int) ≤ i then some (i + n).toNat else none
def at? {α : Type} (xs : List α) (i : Int) : Option α := (ix xs.length i).bind fun j => xs[j]?
def idxV (x i : Val) (st : Sto) : Option D := match x, i with
  | .dat (.tup ds), .dat (.int k) => at? ds k
  | .dat (.str w), .dat (.int k) => if w.length ≤ LIM then (at? w k).map fun c => .str [c] else none
  | x, .dat i => match snap st x with
    | some (.lst ds) => (match i with | .int k => at? ds k | _ => none)
    | some (.scr ns) => (match i with | .int k => (at? ns k).map .int | _ => none)
    | some (.dK ks ds) => (toK i).bind fun k => dlook ks ds k
    | some (.dT ks ds) => (toTK i).bind fun k => dlook ks ds k
    | _ => none
  | _, _ => none
def sIx (n d : Nat) : Option Int → Nat
  | none => d
  | some v => if v < 0 then (v + (n : Int)).toNat else min v.toNat n
def evens {α : Type} : List α → List α
  | [] => []
  | [a] => [a]
  | a :: _ :: r => a :: evens r
def cutL {α : Type} (xs : List α) (lo hi : Option Int) : List α := (xs.drop (sIx xs.length 0 lo)).take (sIx xs.length xs.length hi - sIx xs.length 0 lo)
def slcV (x : Val) (lo hi : Option Int) (st : Sto) : Option D := match x with
  | .dat (.tup ds) => some (.tup (cutL ds lo hi))
  | .dat (.str w) => if w.length ≤ LIM then some (.str (cutL w lo hi)) else none
  | x => (asL st x).map fun ds => .lst (cutL ds lo hi)
def idxTV (x : Val) (i : Int) : Option Val := match x with
  | .dat (.tup ds) => (at? ds i).map .dat
  | .tup pre l post => (ix (pre.length + 1 + post.length) i).bind fun k => if k < pre.length then (pre[k]?).map .dat else if k = pre.length then some (.ref l) else (post[k - pre.length - 1]?).map .dat
  | _ => none
def intOf : Val → Option Int
  | .dat (.int i) => some i
  | _ => none
def intsD : List D → Option (List Int)
  | [] => some []
  | .int i :: ds => (intsD ds).map (i :: ·)
  | _ => none
def boolsD : List D → Option (List Bool)
  | [] => some []
  | .bl i :: ds => (boolsD ds).map (i :: ·)
  | _ => none
def textsD : List D → Option (List W)
  | [] => some []
  | .str i :: ds => (textsD ds).map (i :: ·)
  | _ => none
def maxOf : List Int → Option Int
  | [] => none
  | [x] => some x
  | x :: xs => (maxOf xs).map fun y => if x < y then y else x
def minOf : List Int → Option Int
  | [] => none
  | [x] => some x
  | x :: xs => (minOf xs).map fun y => if y < x then y else x
def insW (x : W) : List W → List W
  | [] => [x]
  | y :: ys => if ltW y x then y :: insW x ys else x :: y :: ys
def sortW : List W → List W
  | [] => []
  | x :: xs => insW x (sortW xs)
def digs (n : Nat) : W := (Nat.toDigits 10 n).map Char.toNat
def intW (i : Int) : W := if i < 0 then 45 :: digs i.natAbs else digs i.natAbs
def lenV (st : Sto) (v : Val) : Option Nat := match v with
  | .dat (.tup ds) => some ds.length
  | .tup pre _ post => some (pre.length + 1 + post.length)
  | .dat (.str w) => if w.length ≤ LIM then some w.length else none
  | v => match snap st v with
    | some (.lst ds) => some ds.length
    | some (.scr ns) => some ns.length
    | some (.dK ks ds) => some ks.length
    | _ => none
def k2D : K1 → D
  | .inl i => .int i
  | .inr w => .str w
def soL (st : Sto) (v : Val) : Option (List D) := match asL st v with
  | some ds => some ds
  | none => (asDK st v).map fun q => q.1.map k2D
def ltI : List Int → List Int → Bool
  | _, [] => false
  | [], _ :: _ => true
  | a :: r, b :: t => decide (a < b) || (a == b && ltI r t)
def tupI? : D → Option (List Int)
  | .tup ds => (intsD ds).bind fun ns => if !ns.isEmpty && decide (ns.length ≤ 400) && ns.all (fun n => decide (0 ≤ n) && decide (n < 1000000)) then some ns else none
  | _ => none
def tupsI? : List D → Option (List (List Int))
  | [] => some []
  | d :: ds => (tupI? d).bind fun n => (tupsI? ds).map fun ns => n :: ns
def ascB : List (List Int) → Bool
  | [] => true
  | n :: ns => ns.all (fun m => ltI n m) && ascB ns
def ascD (ds : List D) : Bool := decide (ds.length < 64) && (match tupsI? ds with
  | some ns => ascB ns
  | none => false)
def biV (b : Bi) (vs : List Val) (st : Sto) : Option D := match b, vs with
  | .len, [v] => (lenV st v).map fun (n : Nat) => D.int (n : Int)
  | .abs, [.dat (.int i)] => some (.int (if i < 0 then -i else i))
  | .int, [.dat (.int i)] => some (.int i)
  | .int, [.dat (.bl b)] => some (.int (if b then 1 else 0))
  | .int, [.dat (.str w)] => if w.length ≤ 640 then (PySem.intText? (S w)).map .int else none
  | .str, [.dat (.int i)] => if i.natAbs.log2 < 1920 then some (.str (intW i)) else none
  | .tuple, [v] => match asT v with
    | some ds => some (.tup ds)
    | none => (asL st v).map .tup
  | .sum, [v] => (asL st v).bind fun ds => (intsD ds).map fun ns => .int ns.sum
  | .max, [v] => (asL st v).bind fun ds => (intsD ds).bind fun ns => (maxOf ns).map .int
  | .min, [v] => (asL st v).bind fun ds => (intsD ds).bind fun ns => (minOf ns).map .int
  | .all, [v] => (asL st v).bind fun ds => (boolsD ds).map fun ns => .bl (ns.all id)
  | .any, [v] => (asL st v).bind fun ds => (boolsD ds).map fun ns => .bl (ns.any id)
  | .max2, [.dat (.int i), .dat (.int j)] => some (.int (if j > i then j else i))
  | .min2, [.dat (.int i), .dat (.int j)] => some (.int (if j < i then j else i))
  | .sorted, [v] => match (soL st v).bind fun ds => (textsD ds).bind fun ws => if ws.length < 64 then some (D.lst ((sortW ws).map .str)) else none with
    | some d => some d
    | none => (asL st v).bind fun ds => if ascD ds then some (.lst ds) else none
  | .sset, [v] => (asLT st v).bind fun ds => (textsD ds).bind fun ws => if ws.length < 64 then some (.lst ((sortW ws.eraseDups).map .str)) else none
  | .maxD, [v, .dat (.int d)] => (asL st v).bind fun ds => (intsD ds).map fun ns => .int ((maxOf ns).getD d)
  | _, _ => none
def plainBi : Bi → Bool
  | .maxD => false | .sset => false
  | _ => true
def isTy : D → Ty → Option Bool
  | .int _, t => some (t == .int)
  | .bl _, t => some (t == .int || t == .bool)
  | .str _, t => some (t == .str)
  | .tup _, t => some (t == .tuple)
  | .lst _, t => some (t == .list)
  | .dK _ _, t => some (t == .dict)
  | .non, t => some false
  | _, _ => none
def tySn (st : Sto) (v : Val) : Option D := match v with
  | .tup pre l post => some (.tup [])
  | v => snap st v
def prep (st : Sto) : Nat → List Bool → List Val → Option (List Val × List Nat × List Nat)
  | _, [], [] => some ([], [], [])
  | n, true :: bs, .ref l :: vs => (prep st (n + 1) bs vs).map fun r => (.ref n :: r.1, l :: r.2.1, r.2.2)
  | n, true :: bs, .tup pre l post :: vs => (prep st (n + 1) bs vs).map fun r => (.tup pre n post :: r.1, l :: r.2.1, r.2.2)
  | n, false :: bs, .ref l :: vs => ((st[l]?).bind fzO).bind fun d => (prep st n bs vs).map fun r => (.bor d :: r.1, r.2.1, l :: r.2.2)
  | n, _ :: bs, .dat d :: vs => (prep st n bs vs).map fun r => (.dat d :: r.1, r.2.1, r.2.2)
  | n, _ :: bs, .bor d :: vs => (prep st n bs vs).map fun r => (.bor d :: r.1, r.2.1, r.2.2)
  | _, _, _ => none
def takeSt (st : Sto) : List Nat → Option Sto
  | [] => some []
  | l :: ls => (st[l]?).bind fun o => if flat o then (takeSt st ls).map (o :: ·) else none
def backSt (st : Sto) : List Nat → Sto → Sto
  | l :: ls, o :: os => backSt (st.set l o) ls os
  | _, _ => st
def callV (C : Calls) (f : Nat) (m : List Bool) (vs : List Val) (st : Sto) : Option (Ret × Sto) :=
  (prep st 0 m vs).bind fun r => if r.2.1.Nodup ∧ (∀ x ∈ r.2.2, x ∉ r.2.1) then
    (takeSt st r.2.1).bind fun os => (C f r.1 os).bind fun q => if q.2.all flat && decide (q.2.length = os.length) then some (q.1, backSt st r.2.1 q.2) else none
  else none
def bindT (tg : List Nat) (tup : Bool) (d : D) (env : Env) : Option Env := match tup, tg with
  | false, [i] => some (env.set i (some (.dat d)))
  | true, tg => match d with
    | .tup ds => go tg ds env
    | .lst ds => go tg ds env
    | _ => none
  | _, _ => none
where go : List Nat → List D → Env → Option Env
    | [], [], env => some env
    | i :: is, d :: ds, env => go is ds (env.set i (some (.dat d)))
    | _, _, _ => none
def unpV : Val → Option (List Val)
  | .dat (.tup ds) => some (ds.map .dat)
  | .tup pre l post => some (pre.map .dat ++ .ref l :: post.map .dat)
  | _ => none
def goV : List Nat → List Val → Env → Option Env
  | [], [], env => some env
  | i :: is, v :: vs, env => goV is vs (env.set i (some v))
  | _, _, _ => none
def wipeE (env : Env) : List Nat → Env
  | [] => env
  | v :: vs => (wipeE env vs).set v none
def compV (own : List Nat) (env0 : Env) (bind : D → Env → Option Env) (cond : Env → Sto → Option (Bool × Sto)) (elt : Env → Sto → Option (Val × Sto)) : List D → Sto → Option (List D × Sto)
  | [], st => some ([], st)
  | d :: ds, st => (bind d env0).bind fun e1 => (cond e1 st).bind fun c => if c.1 then
      (elt e1 c.2).bind fun r => (toD r.1 r.2).bind fun q => (compV own env0 bind cond elt ds q.2).map fun t => (q.1 :: t.1, t.2)
    else compV own env0 bind cond elt ds c.2
open Classical in
noncomputable def compG (G : Sto → Prop) (own : List Nat) (env0 : Env) (bind : D → Env → Option Env) (cond : Env → Sto → Option (Bool × Sto)) (elt : Env → Sto → Option (Val × Sto)) : List D → Sto → Option (List D × Sto)
  | [], st => some ([], st)
  | d :: ds, st => (bind d env0).bind fun e1 => (cond e1 st).bind fun c => if c.1 then
      (elt e1 c.2).bind fun r => (toD r.1 r.2).bind fun q => if G q.2 then (compG G own env0 bind cond elt ds q.2).map fun t => (q.1 :: t.1, t.2) else none
    else if G c.2 then compG G own env0 bind cond elt ds c.2 else none
def anyS : Sto → Prop := fun _ => True
theorem compG_any {own : List Nat} {env0 : Env} {bind : D → Env → Option Env} {cond : Env → Sto → Option (Bool × Sto)} {elt : Env → Sto → Option (Val × Sto)} : ∀ (ds : List D) (st : Sto), compG anyS own env0 bind cond elt ds st = compV own env0 bind cond elt ds st
  | [], st => rfl
  | d :: ds, st => by
    have t : ∀ s, anyS s = True := fun _ => rfl
    simp only [compG, compV, t, if_true, compG_any ds]
def lstS (l : Nat) (ds : List D) : Sto → Prop := fun s => s[l]? = some (.lst ds)
def plV (env : Env) (i : Nat) (st : Sto) : Option (Nat × List D) := match env[i]? with
  | some (some (.ref l)) => match st[l]? with
    | some (.lst ds) => some (l, ds)
    | _ => none
  | _ => none
def kyV (env : Env) (i : Nat) : Option (List D) := match env[i]? with
  | some (some (.dat (.dK ks _))) => some (ks.map k2D)
  | some (some (.bor (.dK ks _))) => some (ks.map k2D)
  | _ => none
def kyD (k : Nat) : D → Option (List D)
  | .tup ts => (ts[k]?).bind fun d => match d with
    | .dK js _ => some (js.map k2D)
    | _ => none
  | _ => none
def kyP (i j k : Nat) (env : Env) : Option (List D) := match env[i]?, env[j]? with
  | some (some v), some (some (.dat (.str w))) => (asDK [] v).bind fun q => (dlook q.1 q.2 (.inr w)).bind (kyD k)
  | _, _ => none
def lkV (v : Val) (st : Sto) : Option (List D) := match v with
  | .ref l => match st[l]? with
    | some (.dK ks _) => some (ks.map k2D)
    | _ => none
  | _ => none
def rngL (lo hi : Int) : List D := (List.range (hi - lo).toNat).map fun (i : Nat) => .int (lo + (i : Int))
def rngOk (lo hi : Int) : Bool := decide (-(2 ^ 62) ≤ lo) && decide (lo < 2 ^ 62) && decide (-(2 ^ 62) ≤ hi) && decide (hi < 2 ^ 62) && decide ((hi - lo).toNat ≤ LIM)
def enumL : Nat → List D → List D
  | _, [] => []
  | n, d :: ds => .tup [.int n, d] :: enumL (n + 1) ds
def zipL : List D → List D → List D
  | a :: as, b :: bs => .tup [a, b] :: zipL as bs
  | _, _ => []
def rngS (lo hi : Int) : List D := (List.range ((hi - lo + 1) / 2).toNat).map fun (i : Nat) => .int (lo + (i : Int) * 2)
def rngV (vs : List Val) : Option (List D) := match vs with
  | [.dat (.int j)] => if rngOk 0 j then some (rngL 0 j) else none
  | [.dat (.int i), .dat (.int j)] => if rngOk i j then some (rngL i j) else none
  | [.dat (.int i), .dat (.int j), .dat (.int k)] => if rngOk i j && decide (k = 2) && decide (((j - i + 1) / 2).toNat ≤ LIM) then some (rngS i j) else none
  | _ => none
def asLS (st : Sto) (v : Val) : Option (List D) := match asLT st v with
  | some ds => some ds
  | none => match v with
    | .dat (.str w) => if w.length ≤ LIM then some (w.map fun c => .str [c]) else none
    | _ => none
def itLl (v : Val) : Option (List D) := match v with
  | .dat (.lst ds) => some ds
  | .dat (.scr ns) => some (ns.map .int)
  | .bor (.lst ds) => some ds
  | _ => none
def itQ (v : Val) : Option (List D) := match v with
  | .dat (.tup ds) => some ds
  | v => itLl v
def nprs : D → Bool
  | .tup ds => !prs ds
  | _ => true
def zipG (xs ys : List D) : Option (List D) := if (zipL xs ys).all nprs then some (zipL xs ys) else none
def itZ (a b : Val) : Option (List D) := match a, b with
  | .dat (.tup xs), .dat (.tup ys) => zipG xs ys
  | .dat (.tup xs), b => (itLl b).bind fun ys => zipG xs ys
  | a, .dat (.tup ys) => (itLl a).bind fun xs => zipG xs ys
  | a, b => (itLl a).bind fun xs => (itLl b).bind fun ys => zipG xs ys
def itV (v : Val) : Option (List D) := match v with
  | .dat (.lst ds) => some ds
  | .dat (.tup ds) => some ds
  | .dat (.scr ns) => some (ns.map .int)
  | .bor (.lst ds) => some ds
  | .dat (.str w) => if w.length ≤ LIM then some (w.map fun c => .str [c]) else none
  | _ => none
def boolR (r : Val × Sto) : Option (Bool × Sto) := match r.1 with
  | .dat (.bl b) => some (b, r.2)
  | _ => none
def keyR : Val → Option K1
  | .dat d => toK d
  | _ => none
def anyTy (d : D) : List Ty → Option Bool
  | [] => some false
  | t :: ts => (isTy d t).bind fun b => (anyTy d ts).map fun c => b || c
def kindV (st : Sto) (v : Val) : Nat := match snap st v with
  | some (.lst _) => 1
  | some (.dK _ _) => 2
  | some (.dT _ _) => 2
  | some (.str _) => 3
  | _ => 0
def startsW : W → W → Bool
  | _, [] => true
  | a :: as, b :: bs => a == b && startsW as bs
  | [], _ :: _ => false
def splW (b a : W) : List W := TL.spl b 0 [] a
def parW (b a : W) : W × W × W := match TL.par b [] a with
  | some (p, q) => (p, b, q)
  | none => (a, [], [])
def rparW (b a : W) : W × W × W := match PySem.Builtin.Str.lastOccurrence (S a) (S b) 0 a.length with
  | some i => (a.take i, b, a.drop (i + b.length))
  | none => ([], [], a)
def joinW (sep : W) : List W → W
  | [] => []
  | [x] => x
  | x :: y :: r => x ++ sep ++ joinW sep (y :: r)
def sumL (ws : List W) : Nat := (ws.map List.length).sum
def updK {κ : Type} [DecidableEq κ] : List κ → List D → List κ → List D → List κ × List D
  | ks, ds, j :: js, e :: es => updK (dputK ks ds j e).1 (dputK ks ds j e).2 js es
  | ks, ds, _, _ => (ks, ds)
def asDP (st : Sto) (v : Val) : Option (List K1 × List D) := match asDK st v with
  | some q => some q
  | none => match v with
    | .dat (.tup ds) => (pairsK ds).map fun q => updK [] [] q.1 q.2
    | _ => none
def mtV (m : Mt) (x : Val) (vs : List Val) (st : Sto) : Option (Val × Sto) := match m, x, vs with
  | .append, .ref l, [v] => (toD v st).bind fun q => match q.2[l]? with
    | some (.lst ds) => if ds.length < LIM then some (.dat .non, q.2.set l (.lst (ds ++ [q.1]))) else none
    | _ => none
  | .pop, .ref l, [] => match st[l]? with
    | some (.lst ds) => (ds[ds.length - 1]?).map fun d => (.dat d, st.set l (.lst ds.dropLast))
    | _ => none
  | .popAt, .ref l, [.dat (.int i)] => match st[l]? with
    | some (.lst ds) => if -(2 ^ 63) ≤ i ∧ i < 2 ^ 63 then (ix ds.length i).bind fun k => (ds[k]?).map fun d => (.dat d, st.set l (.lst (ds.eraseIdx k))) else none
    | _ => none
  | .clear, .ref l, [] => match st[l]? with
    | some (.lst _) => some (.dat .non, st.set l (.lst []))
    | some (.dK _ _) => some (.dat .non, st.set l (.dK [] []))
    | _ => none
  | .get, x, [.dat k, .dat d] => match snap st x with
    | some (.dK ks ds) => (toK k).map fun k => (.dat ((dlook ks ds k).getD d), st)
    | some (.dT ks ds) => (toTK k).map fun k => (.dat ((dlook ks ds k).getD d), st)
    | _ => none
  | .pop2, .ref l, [.dat k, .dat d] => match st[l]? with
    | some (.dT ks ds) => (toTK k).map fun k => match dlook ks ds k with
      | some v => (.dat v, st.set l (.dT (ddrop ks ds k).1 (ddrop ks ds k).2))
      | none => (.dat d, st)
    | _ => none
  | .join, .dat (.str s), [v] => (asLT st v).bind fun ds => (textsD ds).bind fun ws => if sumL ws + s.length * ws.length ≤ LIM then some (.dat (.str (joinW s ws)), st) else none
  | .startswith, .dat (.str a), [.dat (.str b)] => some (.dat (.bl (startsW a b)), st)
  | .split, .dat (.str a), [.dat (.str b)] => if (b.isEmpty = false ∧ b.all (· < 256) = true) ∧ a.length + 2 ≤ LIM then some (.dat (.lst ((splW b a).map .str)), st) else none
  | .partition, .dat (.str a), [.dat (.str b)] => if b.isEmpty = false ∧ a.length ≤ LIM then some (.dat (.tup [.str (parW b a).1, .str (parW b a).2.1, .str (parW b a).2.2]), st) else none
  | .rpartition, .dat (.str a), [.dat (.str b)] => if b.isEmpty = false ∧ a.length ≤ LIM then some (.dat (.tup [.str (rparW b a).1, .str (rparW b a).2.1, .str (rparW b a).2.2]), st) else none
  | .count, x, [.dat (.str w)] => (asX st x).bind fun ds => (textsD ds).map fun ws => (.dat (.int ((ws.count w : Nat) : Int)), st)
  | .index, x, [.dat (.str w)] => (asX st x).bind fun ds => (textsD ds).bind fun ws => if w ∈ ws then some (.dat (.int ((ws.idxOf w : Nat) : Int)), st) else none
  | .update, .ref l, [.dat (.dK js es)] => match st[l]? with
    | some (.dK ks ds) => if ks.length + js.length ≤ LIM then some (.dat .non, st.set l (.dK (updK ks ds js es).1 (updK ks ds js es).2)) else none
    | _ => none
  | _, _, _ => none
def lookX : List W → List D → W → Option D
  | y :: ys, d :: ds, x => if y = x then some d else lookX ys ds x
  | _, _, _ => none
def isXV (ts : List W) (v : Val) : Option D := match v with
  | .dat (.exc w _ _) => some (.bl (ts.any (subX w)))
  | _ => none
def fldV (x : W) (v : Val) : Option D := match v with
  | .dat (.exc _ xs ds) => lookX xs ds x
  | _ => none
mutual
noncomputable def evE (C : Calls) : E → Env → Sto → Option (Val × Sto)
  | .int i, _, st => some (.dat (.int i), st)
  | .bl b, _, st => some (.dat (.bl b), st)
  | .non, _, st => some (.dat .non, st)
  | .str w, _, st => some (.dat (.str w), st)
  | .var i, env, st => match env[i]? with
    | some (some v) => some (v, st)
    | _ => none
  | .gl _ d, _, st => some (.dat d, st)
  | .tup es, env, st => (evEs C es env st).bind fun r => (toDs r.1 r.2).map fun q => (.dat (.tup q.1), q.2)
  | .bin o a b, env, st => (evE C a env st).bind fun r => (evE C b env r.2).bind fun q => (binV o r.1 q.1 q.2).map fun v => (v, q.2)
  | .neg a, env, st => (evE C a env st).bind fun r => (intOf r.1).map fun i => (.dat (.int (-i)), r.2)
  | .not a, env, st => ((evE C a env st).bind boolR).map fun r => (.dat (.bl (!r.1)), r.2)
  | .and a b, env, st => ((evE C a env st).bind boolR).bind fun r => if r.1 then evE C b env r.2 else some (.dat (.bl false), r.2)
  | .or a b, env, st => ((evE C a env st).bind boolR).bind fun r => if r.1 then some (.dat (.bl true), r.2) else evE C b env r.2
  | .cmp o a b, env, st => (evE C a env st).bind fun r => (evE C b env r.2).bind fun q => (cmpV o r.1 q.1 q.2).map fun c => (.dat (.bl c), q.2)
  | .chain o o' a b c, env, st => (evE C a env st).bind fun r => (evE C b env r.2).bind fun q => (cmpV o r.1 q.1 q.2).bind fun t =>
      if t then (evE C c env q.2).bind fun s => (cmpV o' q.1 s.1 s.2).map fun t => (.dat (.bl t), s.2) else some (.dat (.bl false), q.2)
  | .ite c a b, env, st => ((evE C c env st).bind boolR).bind fun r => if r.1 then evE C a env r.2 else evE C b env r.2
  | .idx a i, env, st => (evE C a env st).bind fun r => (evE C i env r.2).bind fun q => (idxV r.1 q.1 q.2).map fun d => (.dat d, q.2)
  | .slc a lo hi, env, st => (evE C a env st).bind fun r => (evP C lo env r.2).bind fun l => (evP C hi env l.2).bind fun h => (slcV r.1 l.1 h.1 h.2).map fun d => (.dat d, h.2)
  | .call f m es, env, st => (evEs C es env st).bind fun r => (callV C f m r.1 r.2).bind fun q => match q.1 with
    | .dat d => some (.dat d, q.2)
    | .own o => (fzO o).map fun d => (.dat d, q.2)
    | .val _ => none
    | .tup pre o post => (fzO o).bind fun d => if prs (pre ++ d :: post) then none else some (.dat (.tup (pre ++ d :: post)), q.2)
  | .callA f m es, env, st => (evEs C es env st).bind fun r => (callV C f m r.1 r.2).bind fun q => match q.1 with
    | .dat _ => none
    | .own o => some (.ref q.2.length, q.2 ++ [o])
    | .val _ => none
    | .tup _ _ _ => none
  | .callT f m es, env, st => (evEs C es env st).bind fun r => (callV C f m r.1 r.2).bind fun q => match q.1 with
    | .dat d => some (.dat d, q.2)
    | .own _ => none
    | .val _ => none
    | .tup pre o post => some (.tup pre q.2.length post, q.2 ++ [o])
  | .tupV es, env, st => (evEs C es env st).bind fun r => (toV1 r.1).map fun q => (.tup q.1 q.2.1 q.2.2, r.2)
  | .idxT a i, env, st => (evE C a env st).bind fun r => (evE C i env r.2).bind fun q => (intOf q.1).bind fun k => (idxTV r.1 k).map fun v => (v, q.2)
  | .bi b es, env, st => (evEs C es env st).bind fun r => (biV b r.1 r.2).map fun d => (.dat d, r.2)
  | .mt m o es, env, st => (evE C o env st).bind fun r => (evEs C es env r.2).bind fun q => if kindV r.2 r.1 = kindV q.2 r.1 then mtV m r.1 q.1 q.2 else none
  | .isi a ts, env, st => (evE C a env st).bind fun r => (tySn r.2 r.1).bind fun d => (anyTy d ts).map fun b => (.dat (.bl b), r.2)
  | .fz o, env, st => (evO C o env st).bind fun r => (fzO r.1).map fun d => (.dat d, r.2)
  | .new o, env, st => (evO C o env st).map fun r => (.ref r.2.length, r.2 ++ [r.1])
  | .attr c a x, env, st => (evE C a env st).bind fun r => ((insV c r.1 r.2).bind fun fs => fs.lookup x).map fun v => (v, r.2)
  | .meth c f x o es, env, st => (evE C o env st).bind fun r => (insV c r.1 r.2).bind fun fs => if (fs.lookup x).isSome then none else
      (evEs C es env r.2).bind fun q => (C f (r.1 :: q.1) q.2).bind valR
  | .make g es, env, st => (evEs C es env st).bind fun q => (C g q.1 q.2).bind valR
  | .isx a ts _, env, st => (evE C a env st).bind fun r => (isXV ts r.1).map fun d => (.dat d, r.2)
  | .fldx a x, env, st => (evE C a env st).bind fun r => (fldV x r.1).map fun d => (.dat d, r.2)
  | .mkx w xs es, env, st => (evEs C es env st).bind fun r => (toDs r.1 r.2).bind fun q => if q.1.length = xs.length then some (.dat (.exc w xs q.1), q.2) else if xs.isEmpty && decide (q.1.length ≤ 100) then some (.dat (.exc w [] []), q.2) else none
noncomputable def evEs (C : Calls) : List E → Env → Sto → Option (List Val × Sto)
  | [], _, st => some ([], st)
  | e :: es, env, st => (evE C e env st).bind fun r => (evEs C es env r.2).map fun q => (r.1 :: q.1, q.2)
noncomputable def evP (C : Calls) : Option E → Env → Sto → Option (Option Int × Sto)
  | none, _, st => some (none, st)
  | some e, env, st => (evE C e env st).bind fun r => (intOf r.1).map fun i => (some i, r.2)
noncomputable def evC (C : Calls) : Option E → Env → Sto → Option (Bool × Sto)
  | none, _, st => some (true, st)
  | some e, env, st => (evE C e env st).bind boolR
noncomputable def evO (C : Calls) : O → Env → Sto → Option (Obj × Sto)
  | .lst es, env, st => (evEs C es env st).bind fun r => (toDs r.1 r.2).map fun q => (.lst q.1, q.2)
  | .dic kvs, env, st => (evKV C kvs env st).map fun r => (.dK r.1.1 r.1.2, r.2)
  | .dicT, _, st => some (.dT [] [], st)
  | .comp elt tg tup it c own, env, st => (evI C it env st).bind fun r =>
      (compV own (wipeE env own) (fun d e => bindT tg tup d e) (fun e s => evC C c e s) (fun e s => evE C elt e s) r.1 r.2).map fun q => (.lst q.1, q.2)
  | .compP elt tg tup i c own, env, st => (plV env i st).bind fun r =>
      (compG (lstS r.1 r.2) own (wipeE env own) (fun d e => bindT tg tup d e) (fun e s => evC C c e s) (fun e s => evE C elt e s) r.2 st).map fun q => (.lst q.1, q.2)
  | .compD elt tg tup i c own, env, st => (kyV env i).bind fun r =>
      (compV own (wipeE env own) (fun d e => bindT tg tup d e) (fun e s => evC C c e s) (fun e s => evE C elt e s) r st).map fun q => (.lst q.1, q.2)
  | .list a, env, st => (evE C a env st).bind fun r => (asLS r.2 r.1).map fun ds => (.lst ds, r.2)
  | .dict a, env, st => (evE C a env st).bind fun r => (asDP r.2 r.1).map fun q => (.dK q.1 q.2, r.2)
  | .cut a lo hi, env, st => (evE C a env st).bind fun r => (evP C lo env r.2).bind fun l => (evP C hi env l.2).bind fun h => (asL h.2 r.1).map fun ds => (.lst (cutL ds l.1 h.1), h.2)
  | .cat a b, env, st => (evE C a env st).bind fun r => (evE C b env r.2).bind fun q => (asX q.2 r.1).bind fun xs => (asX q.2 q.1).bind fun ys =>
      if xs.length + ys.length ≤ LIM then some (.lst (xs ++ ys), q.2) else none
  | .rep a b, env, st => (evE C a env st).bind fun r => (evE C b env r.2).bind fun q => (asX q.2 r.1).bind fun xs => (intOf q.1).bind fun k =>
      if xs.length * k.toNat ≤ LIM ∧ -(2 ^ 63) ≤ k ∧ k < 2 ^ 63 then some (.lst (List.replicate k.toNat xs).flatten, q.2) else none
  | .evn a, env, st => (evE C a env st).bind fun r => (asL r.2 r.1).map fun ds => (.lst (evens ds), r.2)
  | .lkeys a, env, st => (evE C a env st).bind fun r => (lkV r.1 r.2).map fun ds => (.lst ds, r.2)
  | .lrev a, env, st => (evE C a env st).bind fun r => (asL r.2 r.1).map fun ds => (.lst ds.reverse, r.2)
noncomputable def evKV (C : Calls) : List E → Env → Sto → Option ((List K1 × List D) × Sto)
  | [], _, st => some (([], []), st)
  | k :: v :: r, env, st => (evE C k env st).bind fun x => (evE C v env x.2).bind fun y => (toD y.1 y.2).bind fun p => (evKV C r env p.2).bind fun t => (keyR x.1).bind fun k =>
      if (dlook t.1.1 t.1.2 k).isSome then none else some ((k :: t.1.1, p.1 :: t.1.2), t.2)
  | [_], _, _ => none
noncomputable def evI (C : Calls) : I → Env → Sto → Option (List D × Sto)
  | .e a, env, st => (evE C a env st).bind fun r => (itV r.1).map fun ds => (ds, r.2)
  | .rng es, env, st => (evEs C es env st).bind fun r => (rngV r.1).map fun ds => (ds, r.2)
  | .enum a, env, st => (evE C a env st).bind fun r => (itQ r.1).map fun ds => (enumL 0 ds, r.2)
  | .zip a b, env, st => (evE C a env st).bind fun r => (evE C b env r.2).bind fun q => (itZ r.1 q.1).map fun ds => (ds, q.2)
  | .rev a, env, st => (evE C a env st).bind fun r => (itV r.1).map fun ds => (ds.reverse, r.2)
  | .revr es, env, st => (evEs C es env st).bind fun r => (rngV r.1).map fun ds => (ds.reverse, r.2)
end
end NK
set_option Elab.async false
set_option linter.all false
set_option autoImplicit false
set_option maxRecDepth 100000
namespace NK
open PySem PySem.Spec L2
inductive Out where | nx (env : Env) (st : Sto) | rt (v : Val) (st : Sto)
def storeV (o k : Val) (d : D) (st : Sto) : Option Sto := match o, k with
  | .ref l, .dat k => match st[l]? with
    | some (.lst ds) => (match k with | .int i => (ix ds.length i).map fun j => st.set l (.lst (ds.set j d)) | _ => none)
    | some (.dK ks ds) => (toK k).bind fun k => if ks.length < LIM then some (st.set l (.dK (dputK ks ds k d).1 (dputK ks ds k d).2)) else none
    | some (.dT ks ds) => (toTK k).bind fun k => if ks.length < LIM then some (st.set l (.dT (dputK ks ds k d).1 (dputK ks ds k d).2)) else none
    | _ => none
  | _, _ => none
def extV (l : Nat) (v : Val) (st : Sto) : Option Sto := match st[l]? with
  | some (.lst ds) => (asX st v).bind fun es => if ds.length + es.length ≤ LIM then some (st.set l (.lst (ds ++ es))) else none
  | _ => none
section
variable (c : Env → Sto → Option (Bool × Sto)) (b : Env → Sto → Option Out)
def whI : Nat → Env → Sto → Option Out
  | 0, _, _ => none
  | n + 1, env, st => (c env st).bind fun r => if r.1 then (b env r.2).bind fun o => match o with
      | .nx e s => whI n e s
      | .rt v s => some (.rt v s)
    else some (.nx env r.2)
theorem whI_mono : ∀ {n m : Nat} {env : Env} {st : Sto} {o : Out}, n ≤ m → whI c b n env st = some o → whI c b m env st = some o
  | 0, _, _, _, _, _, h => by simp [whI] at h
  | n + 1, 0, _, _, _, hn, _ => by omega
  | n + 1, m + 1, env, st, o, hn, h => by
    simp only [whI] at h ⊢
    cases hc : c env st with
    | none => rw [hc] at h; simp at h
    | some r =>
      rw [hc] at h
      simp only [Option.bind_some] at h ⊢
      by_cases ht : r.1 = true
      · rw [if_pos ht] at h ⊢
        cases hb : b env r.2 with
        | none => rw [hb] at h; simp at h
        | some q =>
          rw [hb] at h
          simp only [Option.bind_some] at h ⊢
          cases q with
          | nx e s => exact whI_mono (by omega) h
          | rt v s => exact h
      · rw [if_neg ht] at h ⊢
        exact h
open Classical in
noncomputable def whV (env : Env) (st : Sto) : Option Out := if h : ∃ n, (whI c b n env st).isSome = true then whI c b h.choose env st else none
theorem whV_of {n : Nat} {env : Env} {st : Sto} {o : Out} (h : whI c b n env st = some o) : whV c b env st = some o := by
  have hx : ∃ n, (whI c b n env st).isSome = true := ⟨n, by rw [h]; rfl⟩
  unfold whV
  rw [dif_pos hx]
  cases e : whI c b hx.choose env st with
  | none => have := hx.choose_spec; rw [e] at this; cases this
  | some q =>
    have h1 := whI_mono c b (Nat.le_max_left n hx.choose) h
    have h2 := whI_mono c b (Nat.le_max_right n hx.choose) e
    rw [h1] at h2
    exact h2.symm
theorem whV_some {env : Env} {st : Sto} {o : Out} (h : whV c b env st = some o) : ∃ n, whI c b n env st = some o := by
  unfold whV at h
  split at h
  · exact ⟨_, h⟩
  · cases h
theorem whV_eq (env : Env) (st : Sto) : whV c b env st = (c env st).bind fun r => if r.1 then (b env r.2).bind fun o => match o with
      | .nx e s => whV c b e s
      | .rt v s => some (.rt v s)
    else some (.nx env r.2) := by
  cases hc : c env st with
  | none =>
    simp only [Option.bind_none]
    cases hw : whV c b env st with
    | none => rfl
    | some o =>
      obtain ⟨n, hn⟩ := whV_some c b hw
      cases n with
      | zero => simp [whI] at hn
      | succ n => simp [whI, hc] at hn
  | some r =>
    simp only [Option.bind_some]
    by_cases ht : r.1 = true
    · rw [if_pos ht]
      cases hb : b env r.2 with
      | none =>
        simp only [Option.bind_none]
        cases hw : whV c b env st with
        | none => rfl
        | some o =>
          obtain ⟨n, hn⟩ := whV_some c b hw
          cases n with
          | zero => simp [whI] at hn
          | succ n => simp [whI, hc, ht, hb] at hn
      | some q =>
        simp only [Option.bind_some]
        cases q with
        | rt v s => exact whV_of c b (n := 1) (by simp [whI, hc, ht, hb])
        | nx e s =>
          show whV c b env st = whV c b e s
          cases hw : whV c b e s with
          | some o =>
            obtain ⟨n, hn⟩ := whV_some c b hw
            exact whV_of c b (n := n + 1) (by simp [whI, hc, ht, hb, hn])
          | none =>
            cases hv : whV c b env st with
            | none => rfl
            | some o =>
              obtain ⟨n, hn⟩ := whV_some c b hv
              cases n with
              | zero => simp [whI] at hn
              | succ n =>
                have hn' : whI c b n e s = some o := by simpa [whI, hc, ht, hb] using hn
                rw [whV_of c b hn'] at hw; cases hw
    · rw [if_neg ht]
      exact whV_of c b (n := 1) (by simp [whI, hc, ht])
end
def forV (bind : D → Env → Option Env) (body : Env → Sto → Option Out) : List D → Env → Sto → Option Out
  | [], env, st => some (.nx env st)
  | d :: ds, env, st => (bind d env).bind fun e1 => (body e1 st).bind fun o => match o with
    | .nx e s => forV bind body ds e s
    | .rt v s => some (.rt v s)
open Classical in
noncomputable def forG (G : Sto → Prop) (bind : D → Env → Option Env) (body : Env → Sto → Option Out) : List D → Env → Sto → Option Out
  | [], env, st => some (.nx env st)
  | d :: ds, env, st => (bind d env).bind fun e1 => (body e1 st).bind fun o => match o with
    | .nx e s => if G s then forG G bind body ds e s else none
    | .rt v s => some (.rt v s)
theorem forG_any {bind : D → Env → Option Env} {body : Env → Sto → Option Out} : ∀ (ds : List D) (env : Env) (st : Sto), forG anyS bind body ds env st = forV bind body ds env st
  | [], env, st => rfl
  | d :: ds, env, st => by
    have t : ∀ s, anyS s = True := fun _ => rfl
    simp only [forG, forV, t, if_true, forG_any ds]
def augV : BOp → Int → Int → Option Int
  | .add, i, j => some (i + j)
  | .sub, i, j => some (i - j)
  | _, _, _ => none
mutual
noncomputable def evS (C : Calls) : St → Env → Sto → Option Out
  | .set i e, env, st => (evE C e env st).map fun r => .nx (env.set i (some r.1)) r.2
  | .setT is e, env, st => (evE C e env st).bind fun r => (asU r.1).bind fun ds => (bindT.go is ds env).map fun e1 => .nx e1 r.2
  | .setU is e, env, st => (evE C e env st).bind fun r => (unpV r.1).bind fun vs => (goV is vs env).map fun e1 => .nx e1 r.2
  | .par i j a b, env, st => (evE C a env st).bind fun r => (evE C b env r.2).map fun q => .nx ((env.set i (some r.1)).set j (some q.1)) q.2
  | .sub o k v, env, st => (evE C v env st).bind fun r => (toD r.1 r.2).bind fun d => (evE C o env d.2).bind fun p => (evE C k env p.2).bind fun q => (storeV p.1 q.1 d.1 q.2).map fun s => .nx env s
  | .aug i o e, env, st => match env[i]? with
    | some (some (.dat (.int x))) => (evE C e env st).bind fun r => (intOf r.1).bind fun y => match o with
      | .add => some (.nx (env.set i (some (.dat (.int (x + y))))) r.2)
      | .sub => some (.nx (env.set i (some (.dat (.int (x - y))))) r.2)
      | _ => none
    | _ => none
  | .ext i e, env, st => match env[i]? with
    | some (some (.ref l)) => (evE C e env st).bind fun r => (extV l r.1 r.2).map fun s => .nx env s
    | _ => none
  | .expr e, env, st => (evE C e env st).map fun r => .nx env r.2
  | .ifS c a b, env, st => ((evE C c env st).bind boolR).bind fun r => if r.1 then evSs C a env r.2 else evSs C b env r.2
  | .wh c b, env, st => whV (fun e s => (evE C c e s).bind boolR) (fun e s => evSs C b e s) env st
  | .forS tg tup it b, env, st => (evI C it env st).bind fun r => forV (fun d e => bindT tg tup d e) (fun e s => evSs C b e s) r.1 env r.2
  | .forP tg tup i b, env, st => (plV env i st).bind fun r => forG (lstS r.1 r.2) (fun d e => bindT tg tup d e) (fun e s => evSs C b e s) r.2 env st
  | .forD tg tup i b, env, st => (kyV env i).bind fun r => forV (fun d e => bindT tg tup d e) (fun e s => evSs C b e s) r env st
  | .forK tg tup i j k b, env, st => (kyP i j k env).bind fun r => forV (fun d e => bindT tg tup d e) (fun e s => evSs C b e s) r env st
  | .ret e, env, st => (evE C e env st).map fun r => .rt r.1 r.2
  | .retN, _, st => some (.rt (.dat .non) st)
  | .pass, env, st => some (.nx env st)
  | .nev, _, _ => none
  | .frz i, env, st => match env[i]? with
    | some (some v) => (toD v st).map fun q => .nx (env.set i (some (.dat q.1))) q.2
    | _ => none
  | .setA c o x v, env, st => (evE C v env st).bind fun r => (evE C o env r.2).bind fun q => (setAV c x q.1 r.1 q.2).map fun s => .nx env s
  | .augA c o x op v, env, st => (evE C o env st).bind fun r => ((insV c r.1 r.2).bind fun fs => (fs.lookup x).bind intOf).bind fun i => (evE C v env r.2).bind fun q => (intOf q.1).bind fun j => (augV op i j).bind fun k => (setAV c x r.1 (.dat (.int k)) q.2).map fun s => .nx env s
noncomputable def evSs (C : Calls) : List St → Env → Sto → Option Out
  | [], env, st => some (.nx env st)
  | s :: ss, env, st => (evS C s env st).bind fun o => match o with
    | .nx e s => evSs C ss e s
    | .rt v s => some (.rt v s)
end
inductive RaS where
  | nrm (s : St) | cal (s : St) | rse (w : W) (xs : List W) (es : List E)
  | ifS (c : E) (a b : List RaS) | forS (tg : List Nat) (tup : Bool) (it : I) (b : List RaS) | wh (c : E) (b : List RaS)
mutual
def nrmS : RaS → St
  | .nrm s => s
  | .cal s => s
  | .rse _ _ _ => .nev
  | .ifS c a b => .ifS c (nrmSs a) (nrmSs b)
  | .forS tg tup it b => .forS tg tup it (nrmSs b)
  | .wh c b => .wh c (nrmSs b)
def nrmSs : List RaS → List St
  | [] => []
  | s :: ss => nrmS s :: nrmSs ss
end
def exprOf : St → Option E
  | .expr e => some e
  | .set _ e => some e
  | .ret e => some e
  | _ => none
def callOf (s : St) : Option (Nat × List Bool × List E) := match exprOf s with
  | some (.call f m es) => some (f, m, es)
  | _ => none
theorem callOf_expr {s : St} {f : Nat} {m : List Bool} {es : List E} (h : callOf s = some (f, m, es)) : exprOf s = some (.call f m es) := by
  unfold callOf at h
  split at h
  · rename_i e
    cases h
    exact e
  · cases h
abbrev RCalls := Nat → List Val → Sto → Option (D × Sto)
abbrev RX := D × Env × Sto
def callR (R : RCalls) (f : Nat) (m : List Bool) (vs : List Val) (st : Sto) : Option D :=
  (prep st 0 m vs).bind fun r => if r.2.1 = [] then (R f r.1 []).map (·.1) else none
def rvFor (bind : D → Env → Option Env) (rb : Env → Sto → Option RX) (nb : Env → Sto → Option Out) : List D → Env → Sto → Option RX
  | [], _, _ => none
  | d :: ds, env, st => (bind d env).bind fun e1 => match rb e1 st with
    | some x => some x
    | none => (nb e1 st).bind fun o => match o with
      | .nx e s => rvFor bind rb nb ds e s
      | .rt _ _ => none
section
variable (c : Env → Sto → Option (Bool × Sto)) (rb : Env → Sto → Option RX) (nb : Env → Sto → Option Out)
def rvWhI : Nat → Env → Sto → Option RX
  | 0, _, _ => none
  | n + 1, env, st => (c env st).bind fun r => if r.1 then (match rb env r.2 with
      | some x => some x
      | none => (nb env r.2).bind fun o => match o with
        | .nx e s => rvWhI n e s
        | .rt _ _ => none) else none
open Classical in
noncomputable def rvWh (env : Env) (st : Sto) : Option RX := if h : ∃ n, (rvWhI c rb nb n env st).isSome = true then rvWhI c rb nb h.choose env st else none
theorem rvWh_some {env : Env} {st : Sto} {x : RX} (h : rvWh c rb nb env st = some x) : ∃ n, rvWhI c rb nb n env st = some x := by
  unfold rvWh at h
  split at h
  · exact ⟨_, h⟩
  · cases h
end
noncomputable def rvE0 (C : Calls) (R : RCalls) (e : E) (env : Env) (st : Sto) : Option (D × Sto) := match e with
  | .call f m es => (evEs C es env st).bind fun r => (callR R f m r.1 r.2).map fun d => (d, r.2)
  | .meth c f x o es => (evE C o env st).bind fun r => (insV c r.1 r.2).bind fun fs => if (fs.lookup x).isSome then none else (evEs C es env r.2).bind fun q => R f (r.1 :: q.1) q.2
  | .make g es => (evEs C es env st).bind fun q => R g q.1 q.2
  | _ => none
noncomputable def rvE (C : Calls) (R : RCalls) (e : E) (env : Env) (st : Sto) : Option (D × Sto) := match e with
  | .bin _ a b => (evE C a env st).bind fun r => rvE0 C R b env r.2
  | e => rvE0 C R e env st
mutual
noncomputable def rvS (C : Calls) (R : RCalls) : RaS → Env → Sto → Option RX
  | .nrm _, _, _ => none
  | .cal s, env, st => (exprOf s).bind fun e => (rvE C R e env st).map fun x => (x.1, env, x.2)
  | .rse w xs es, env, st => (evEs C es env st).bind fun r => (toDs r.1 r.2).bind fun q => if q.1.length = xs.length then some (.exc w xs q.1, env, q.2) else none
  | .ifS c a b, env, st => ((evE C c env st).bind boolR).bind fun r => if r.1 then rvSs C R a env r.2 else rvSs C R b env r.2
  | .forS tg tup it b, env, st => (evI C it env st).bind fun r => rvFor (fun d e => bindT tg tup d e) (fun e s => rvSs C R b e s) (fun e s => evSs C (nrmSs b) e s) r.1 env r.2
  | .wh c b, env, st => rvWh (fun e s => (evE C c e s).bind boolR) (fun e s => rvSs C R b e s) (fun e s => evSs C (nrmSs b) e s) env st
noncomputable def rvSs (C : Calls) (R : RCalls) : List RaS → Env → Sto → Option RX
  | [], _, _ => none
  | s :: ss, env, st => match rvS C R s env st with
    | some x => some x
    | none => (evS C (nrmS s) env st).bind fun o => match o with
      | .nx e s => rvSs C R ss e s
      | .rt _ _ => none
end
def ROFF : Nat := 100000
inductive Kind where | fn | me | mk (c i : Nat) | rb (b : List RaS) | rbm (b : List RaS) | tr (b : List RaS) (w : W) (e t : Nat) (post : List St)
structure Fn where
  ps : Nat
  ns : Nat
  body : List St
  kind : Kind
abbrev Prog := Nat → Option Fn
def startE (f : Fn) (args : List Val) : Env := args.map some ++ List.replicate (f.ns - f.ps) none
def endV (k : Nat) : Out → Option (Ret × Sto)
  | .nx _ st => some (.dat .non, st.take k)
  | .rt (.dat d) st => some (.dat d, st.take k)
  | .rt (.ref l) st => if l < k then none else (st[l]?).bind fun o => match fzO o with
    | some _ => some (.own o, st.take k)
    | none => none
  | .rt (.tup pre l post) st => if l < k then none else (st[l]?).bind fun o => match fzO o with
    | some _ => some (.tup pre o post, st.take k)
    | none => none
  | .rt _ _ => none
noncomputable def runF (C : Calls) (f : Fn) (args : List Val) (st : Sto) : Option (Ret × Sto) :=
  if args.length = f.ps then ((evSs C f.body (startE f args) st).bind (endV st.length)).bind fun q => if q.2.all flat then some q else none else none
def endM : Out → Ret × Sto
  | .nx _ st => (.val (.dat .non), st)
  | .rt v st => (.val v, st)
noncomputable def runM (C : Calls) (f : Fn) (args : List Val) (st : Sto) : Option (Ret × Sto) :=
  if args.length = f.ps then (evSs C f.body (startE f args) st).map endM else none
def runK (C : Calls) (f : Fn) (c i : Nat) (args : List Val) (st : Sto) : Option (Ret × Sto) :=
  if args.length = f.ps then (C i (.ref st.length :: args) (st ++ [.ins c []])).bind fun q => match q.1 with
    | .val (.dat .non) => some (.val (.ref st.length), q.2)
    | _ => none
  else none
def catB (w : W) : D → Bool
  | .exc w' _ _ => subX w' w
  | _ => false
noncomputable def trV (C : Calls) (R : RCalls) (pre : List St) (tb : List RaS) (w : W) (e t : Nat) (post : List St) (env : Env) (st : Sto) : Option Out :=
  (evSs C pre env st).bind fun o => match o with
    | .rt v s => some (.rt v s)
    | .nx e1 s1 => match rvSs C R tb e1 s1 with
      | some x => if catB w x.1 then evSs C post ((x.2.1.set t (some (.dat x.1))).set e none) x.2.2 else none
      | none => (evSs C (nrmSs tb) e1 s1).bind fun o => match o with
        | .nx e2 s2 => evSs C post e2 s2
        | .rt v s => some (.rt v s)
noncomputable def runT (C : Calls) (R : RCalls) (f : Fn) (tb : List RaS) (w : W) (e t : Nat) (post : List St) (args : List Val) (st : Sto) : Option (Ret × Sto) :=
  if args.length = f.ps then ((trV C R f.body tb w e t post (startE f args) st).bind (endV st.length)).bind fun q => if q.2.all flat then some q else none else none
noncomputable def runRv (C : Calls) (R : RCalls) (f : Fn) (rb : List RaS) (args : List Val) (st : Sto) : Option (D × Sto) :=
  if args.length = f.ps ∧ st.length = 0 then (rvSs C R rb (startE f args) st).map fun x => (x.1, []) else none
noncomputable def runRm (C : Calls) (R : RCalls) (f : Fn) (rb : List RaS) (args : List Val) (st : Sto) : Option (D × Sto) :=
  if args.length = f.ps then (rvSs C R rb (startE f args) st).map fun x => (x.1, x.2.2) else none
mutual
noncomputable def call (P : Prog) : Nat → Calls
  | 0, _, _, _ => none
  | d + 1, f, args, st => (P f).bind fun fn => match fn.kind with
    | .fn => runF (call P d) fn args st
    | .me => runM (call P d) fn args st
    | .mk c i => runK (call P d) fn c i args st
    | .rb _ => none
    | .rbm _ => none
    | .tr tb w e t post => runT (call P d) (rcall P d) fn tb w e t post args st
noncomputable def rcall (P : Prog) : Nat → RCalls
  | 0, _, _, _ => none
  | d + 1, f, args, st => (P f).bind fun fk => match fk.kind with
    | .mk c i => if args.length = fk.ps then rcall P d i (.ref st.length :: args) (st ++ [.ins c []]) else none
    | _ => (P (f + ROFF)).bind fun fr => match fr.kind with
      | .rb rb => runRv (call P d) (rcall P d) fr rb args st
      | .rbm rb => runRm (call P d) (rcall P d) fr rb args st
      | _ => none
end
def nMk : Kind → Bool
  | .mk _ _ => false
  | _ => true
theorem rcall_eq {P : Prog} {d f : Nat} {fk : Fn} {args : List Val} {st : Sto} (h : P f = some fk) (hk : nMk fk.kind = true) : rcall P (d + 1) f args st = (P (f + ROFF)).bind fun fr => match fr.kind with
      | .rb rb => runRv (call P d) (rcall P d) fr rb args st
      | .rbm rb => runRm (call P d) (rcall P d) fr rb args st
      | _ => none := by
  simp only [rcall, h, Option.bind_some]
  cases hh : fk.kind <;> first | rfl | (rw [hh] at hk; cases hk)
end NK
set_option Elab.async false
set_option linter.all false
set_option autoImplicit false
set_option maxRecDepth 100000
namespace NK
open PySem PySem.Spec L2
section
variable (K : PySem.W.Frag) (cs : Nat → Option Addr)
def tE (f : Env → Sto → Option (Val × Sto)) : TE := fun σ H Q => ∃ F B as env st v st', Rel K cs F B as env st σ H ∧ f env st = some (v, st') ∧
  ∀ F' as' H' u, Rel K cs F' B as' env st' σ H' → Ext F as H F' as' H' → VOk K F' B as' v u → Q u H'
def tB (f : Env → Sto → Option (Bool × Sto)) : TT := fun σ H Q => ∃ F B as env st b st', Rel K cs F B as env st σ H ∧ f env st = some (b, st') ∧
  ∀ F' as' H', Rel K cs F' B as' env st' σ H' → Ext F as H F' as' H' → Q b H'
def tEs (f : Env → Sto → Option (List Val × Sto)) : TA := fun σ H Q => ∃ F B as env st vs st', Rel K cs F B as env st σ H ∧ f env st = some (vs, st') ∧
  ∀ F' as' H' us, Rel K cs F' B as' env st' σ H' → Ext F as H F' as' H' → Paired (VOk K F' B as') vs us → Q us H'
def tP (f : Env → Sto → Option (Option Int × Sto)) : TO := fun σ H Q => ∃ F B as env st v st', Rel K cs F B as env st σ H ∧ f env st = some (v, st') ∧
  ∀ F' as' H', Rel K cs F' B as' env st' σ H' → Ext F as H F' as' H' → Q v H'
def tO (f : Env → Sto → Option (Obj × Sto)) : TE := fun σ H Q => ∃ F B as env st o st', Rel K cs F B as env st σ H ∧ f env st = some (o, st') ∧
  ∀ F' as' H' p ho, Rel K cs F' B as' env st' σ H' → Ext F as H F' as' H' → H p = none → F' p = none → p ∉ as' → H' p = some ho → OOk K cs F' B as' o ho → Q (.ref p) H'
end
section
variable {X : Cx} {cs : Nat → Option Addr} {e e1 e2 e3 : Expr} {f f1 f2 f3 : Env → Sto → Option (Val × Sto)} {pos : Pos}
theorem _root_.L2.PE.weak {t t' : TE} (h : PE X e t) (w : ∀ σ H Q, t' σ H Q → t σ H Q) : PE X e t' := ⟨fun pins s σ H Q I q => h.run pins s σ H Q I (w σ H Q q)⟩
theorem _root_.L2.PT.weak {t t' : TT} (h : PT X e t) (w : ∀ σ H Q, t' σ H Q → t σ H Q) : PT X e t' := ⟨fun pins s σ H Q I q => h.run pins s σ H Q I (w σ H Q q)⟩
theorem _root_.L2.PW.weak {t t' : TT} (h : PW X e t) (w : ∀ σ H Q, t' σ H Q → t σ H Q) : PW X e t' := ⟨fun wh pins s σ H Q I q => h.run wh pins s σ H Q I (w σ H Q q)⟩
theorem _root_.L2.PA.weak {es : List Expr} {t t' : TA} (h : PA X es t) (w : ∀ σ H Q, t' σ H Q → t σ H Q) : PA X es t' := ⟨fun pos pins s σ H Q I q => h.run pos pins s σ H Q I (w σ H Q q)⟩
theorem _root_.L2.PO.weak {e : Option Expr} {t t' : TO} (h : PO X e t) (w : ∀ σ H Q, t' σ H Q → t σ H Q) : PO X e t' := by
  obtain ⟨r⟩ := h
  exact ⟨fun pins s σ H Q I q => r pins s σ H Q I (w σ H Q q)⟩
theorem obnd {α β : Type} {o : Option α} {g : α → Option β} {b : β} (h : o.bind g = some b) : ∃ a, o = some a ∧ g a = some b := Option.bind_eq_some_iff.mp h
theorem omap {α β : Type} {o : Option α} {g : α → β} {b : β} (h : o.map g = some b) : ∃ a, o = some a ∧ g a = b := Option.map_eq_some_iff.mp h
theorem s_var {i : Nat} (h : PE X e (tVar i)) : PE X e (tE X.K cs fun env st => match env[i]? with | some (some v) => some (v, st) | _ => none) := h.weak fun σ H Q ⟨F, B, as, env, st, v, st', r, ev, k⟩ => by
  dsimp only at ev
  split at ev
  · rename_i w hw
    cases ev
    obtain ⟨u, e1, e2⟩ := r.slot i _ hw
    exact ⟨u, e1, k F as H u r r.refl e2⟩
  · cases ev
theorem s_const {u : V} {d : D} (h : PE X e (tC u)) (hd : ∀ F, Den X.K F d u) : PE X e (tE X.K cs fun _ st => some (.dat d, st)) := h.weak fun σ H Q ⟨F, B, as, env, st, v, st', r, ev, k⟩ => by
  cases ev
  exact k F as H u r r.refl (hd F)
theorem two {Q : VK} {σ : L2.St} {H : Hp} {F B : Hp} {as : List Addr} {env : Env} {st : Sto} {a b : Val × Sto} (r : Rel X.K cs F B as env st σ H) (h1 : f1 env st = some a) (h2 : f2 env a.2 = some b) {R : V → V → Hp → VK → Prop}
    (k : ∀ F' as' H' u w, Rel X.K cs F' B as' env b.2 σ H' → Ext F as H F' as' H' → VOk X.K F' B as' a.1 u → VOk X.K F' B as' b.1 w → R u w H' Q) :
    tOp R (tE X.K cs f1) (tE X.K cs f2) σ H Q :=
  ⟨F, B, as, env, st, a.1, a.2, r, h1, fun F1 as1 H1 u r1 x1 v1 => ⟨F1, B, as1, env, a.2, b.1, b.2, r1, h2, fun F2 as2 H2 w r2 x2 v2 => k F2 as2 H2 u w r2 (x1.trans x2) (v1.ext x2) v2⟩⟩
section
variable {F B H : Hp} {as : List Addr} {env : Env} {st : Sto} {σ : L2.St}
theorem snap_top (r : RSt X.K cs F B as st H) {v : Val} {u : V} {d : D} (h : snap st v = some d) (q : VOk X.K F B as v u) :
    (∃ d', v = .dat d' ∧ d' = d ∧ Den X.K F d u) ∨ Top X.K H F d u := by
  cases v with
  | dat d' => simp only [snap] at h; cases h; exact .inl ⟨_, rfl, rfl, q⟩
  | bor d' =>
    simp only [snap] at h; cases h
    right
    cases d <;> first | exact q.elim | skip
    · obtain ⟨p, us, e, a, b⟩ := q; exact ⟨p, us, e, r.bh _ _ a, b⟩
    · obtain ⟨p, us, e, a, l, b⟩ := q; exact ⟨p, us, e, rd_mono r.bh a, l, b⟩
    · obtain ⟨p, us, e, a, l, b⟩ := q; exact ⟨p, us, e, rd_mono r.bh a, l, b⟩
  | ref l =>
    simp only [snap] at h
    obtain ⟨o, ho, hf⟩ := obnd h
    obtain ⟨a, ea, rfl⟩ := q
    obtain ⟨_, hb, e1, e2⟩ := r.obj l a o ea ho
    right
    cases o with
    | lst ds => simp only [fzO] at hf; cases hf; obtain ⟨us, rfl, b⟩ := e2; exact ⟨a, us, rfl, e1, b⟩
    | dK ks ds => simp only [fzO] at hf; cases hf; obtain ⟨us, rfl, l, b⟩ := e2; exact ⟨a, us, rfl, .inl e1, l, b⟩
    | dT ks ds => simp only [fzO] at hf; cases hf; obtain ⟨us, rfl, l, b⟩ := e2; exact ⟨a, us, rfl, .inl e1, l, b⟩
    | ins _ _ => simp [fzO] at hf
    | dead => simp [fzO] at hf
  | tup _ _ _ => simp [snap] at h
theorem scrs (ns : List Int) : Dens X.K F (ns.map .int) (ns.map V.int) := by
  induction ns with
  | nil => exact Dens.nil.mpr rfl
  | cons n ns ih => exact Dens.cons.mpr ⟨_, _, rfl, Den.int_iff.mpr rfl, ih⟩
theorem Top.of {d : D} {u : V} (r : RSt X.K cs F B as st H) (q : Den X.K F d u) : (match d with | .lst _ => True | .dK _ _ => True | .dT _ _ => True | _ => False) → Top X.K H F d u := fun z => by
  cases d <;> first | exact z.elim | skip
  · obtain ⟨p, us, e, a, b⟩ := Den.lst_iff.mp q; exact ⟨p, us, e, r.fh _ _ a, b⟩
  · obtain ⟨p, us, e, a, l, b⟩ := Den.dK_iff.mp q; exact ⟨p, us, e, rd_mono r.fh a, l, b⟩
  · obtain ⟨p, us, e, a, l, b⟩ := Den.dT_iff.mp q; exact ⟨p, us, e, rd_mono r.fh a, l, b⟩
theorem top_lst (r : RSt X.K cs F B as st H) {v : Val} {u : V} {ds : List D} (h : snap st v = some (.lst ds)) (q : VOk X.K F B as v u) : ∃ p us, u = .ref p ∧ H p = some (.lst us) ∧ Dens X.K F ds us := by
  rcases snap_top r h q with ⟨d', rfl, rfl, z⟩ | z
  · exact Top.of r z trivial
  · exact z
theorem top_scr (r : RSt X.K cs F B as st H) {v : Val} {u : V} {ns : List Int} (h : snap st v = some (.scr ns)) (q : VOk X.K F B as v u) : ∃ p, u = .ref p ∧ SqL X.K H p (ns.map V.int) := by
  rcases snap_top r h q with ⟨d', rfl, rfl, z⟩ | z
  · obtain ⟨p, e, a⟩ := Den.scr_iff.mp z
    exact ⟨p, e, sqL_mono r.fh a⟩
  · exact z.elim
theorem top_dK (r : RSt X.K cs F B as st H) {v : Val} {u : V} {ks : List K1} {ds : List D} (h : snap st v = some (.dK ks ds)) (q : VOk X.K F B as v u) : ∃ p us, u = .ref p ∧ Rd H p (.dK ((ks.map kk).zip us)) ∧ ks.length = ds.length ∧ Dens X.K F ds us := by
  rcases snap_top r h q with ⟨d', rfl, rfl, z⟩ | z
  · exact Top.of r z trivial
  · exact z
theorem top_dT (r : RSt X.K cs F B as st H) {v : Val} {u : V} {ks : List (List K1)} {ds : List D} (h : snap st v = some (.dT ks ds)) (q : VOk X.K F B as v u) : ∃ p us, u = .ref p ∧ Rd H p (.dT ((ks.map (·.map kk)).zip us)) ∧ ks.length = ds.length ∧ Dens X.K F ds us := by
  rcases snap_top r h q with ⟨d', rfl, rfl, z⟩ | z
  · exact Top.of r z trivial
  · exact z
theorem top_tup (r : RSt X.K cs F B as st H) {v : Val} {u : V} {ds : List D} (h : snap st v = some (.tup ds)) (q : VOk X.K F B as v u) : ∃ p us, u = .ref p ∧ Rd H p (.tup us) ∧ Dens X.K F ds us := by
  rcases snap_top r h q with ⟨d', rfl, rfl, z⟩ | z
  · obtain ⟨p, us, e, a, b⟩ := Den.tup_iff.mp z; exact ⟨p, us, e, rd_mono r.fh a.rd, b⟩
  · exact z.elim
theorem asL_ok (r : RSt X.K cs F B as st H) {v : Val} {u : V} {ds : List D} (h : asL st v = some ds) (q : VOk X.K F B as v u) : ∃ p us, u = .ref p ∧ SqL X.K H p us ∧ Dens X.K F ds us := by
  unfold asL at h
  split at h
  · rename_i es hs
    cases h
    obtain ⟨p, us, e, a, b⟩ := top_lst r hs q
    exact ⟨p, us, e, .of a, b⟩
  · rename_i ns hs
    cases h
    obtain ⟨p, e, a⟩ := top_scr r hs q
    exact ⟨p, _, e, a, scrs ns⟩
  · cases h
theorem asX_ok (r : RSt X.K cs F B as st H) {v : Val} {u : V} {ds : List D} (h : asX st v = some ds) (q : VOk X.K F B as v u) : ∃ p us, u = .ref p ∧ H p = some (.lst us) ∧ Dens X.K F ds us := by
  unfold asX at h
  split at h
  · rename_i es hs
    cases h
    exact top_lst r hs q
  · cases h
theorem asT_ok (r : RSt X.K cs F B as st H) {v : Val} {u : V} {ds : List D} (h : asT v = some ds) (q : VOk X.K F B as v u) : ∃ p us, u = .ref p ∧ SqT X.K H p us ∧ Dens X.K F ds us := by
  unfold asT at h
  split at h
  · cases h
    obtain ⟨p, us, e, a, b⟩ := Den.tup_iff.mp q
    exact ⟨p, us, e, .inl (rd_mono r.fh a.rd), b⟩
  · cases h
theorem asLT_ok (r : RSt X.K cs F B as st H) {v : Val} {u : V} {ds : List D} (h : asLT st v = some ds) (q : VOk X.K F B as v u) : ∃ p us, u = .ref p ∧ (SqL X.K H p us ∨ SqT X.K H p us) ∧ Dens X.K F ds us := by
  unfold asLT at h
  split at h
  · rename_i es hs
    cases h
    obtain ⟨p, us, e, a, b⟩ := asT_ok r hs q
    exact ⟨p, us, e, .inr a, b⟩
  · obtain ⟨p, us, e, a, b⟩ := asL_ok r h q
    exact ⟨p, us, e, .inl a, b⟩
theorem Rel.put (r : Rel X.K cs F B as env st σ H) {p : Addr} {o : HO} {d : D} (hp : H p = none) (hd : ∀ F', (∀ a x, F a = some x → F' a = some x) → F' p = some o → Den X.K F' d (.ref p)) :
    Rel X.K cs (upd F p o) B as env st σ (upd H p o) ∧ Ext F as H (upd F p o) as (upd H p o) ∧ VOk X.K (upd F p o) B as (.dat d) (.ref p) := by
  obtain ⟨a, x⟩ := r.frozen (o := o) hp
  exact ⟨a, x, hd _ x.ff upd_same⟩
end
theorem line_eq : LIM = sizeLine := by rw [sizeLine_eq]; rfl
theorem _root_.L2.HOk.lst_le {P : Program} {w : World} {H : Hp} {h : Heap} (x : HOk P w H h) {p : Addr} {us : List V} (e : H p = some (.lst us)) : us.length ≤ sizeLine := (x p _ e).1
theorem _root_.L2.HOk.tupR_le {P : Program} {w : World} {H : Hp} {h : Heap} (x : HOk P w H h) {p : Addr} {us : List V} (e : Rd H p (.tup us)) : us.length ≤ sizeLine := (e.ok x).1
end
section
variable {X : Cx} {es : List Expr} {pos : Pos}
theorem tupO_ok {P : Program} {w : World} {H H' : Hp} {h : Heap} {p : Addr} {us : List V} {o : PySem.Obj} (ds : List D) (g : h.get? p = some o) (x : ObjOk P w H h p (.tup us)) : ObjOk P w H' h p (tupO ds o us) := by
  unfold tupO
  split
  · exact ⟨g, x⟩
  · exact x
def tTupX (t : TA) : TE := fun σ H Q => t σ H fun xs H1 => xs.length ≤ sizeLine ∧ ∃ ds, ∀ p o, H1 p = none → o.dict = none → Q (.ref p) (upd H1 p (tupO ds o xs))
theorem pe_tupX {t : TA} {x1} (h : PA X es t) : PE X (.Tuple es x1 pos) (tTupX t) := by
  refine ⟨fun pins s σ H Q I hq => ?_⟩
  refine wpAny_Tuple_spliced (thn (h.run pos pins s σ H _ I hq) fun us s1 ⟨xs, H1, I1, r, z, ds, q⟩ => ⟨by rw [← r.length]; exact z, ?_⟩)
  have hf : H1 s1.heap.objs.size = none := I1.hok.fresh (Nat.le_refl _)
  have I2 : Inv X pins σ (upd H1 s1.heap.objs.size (tupO ds { cls := .type "tuple", data := .seq us.toArray } xs)) { s1 with heap := s1.heap.push { cls := .type "tuple", data := .seq us.toArray } } :=
    I1.laid (t' := s1.toks) (fun b u e => Heap.get?_push_of_some _ e) (Nat.le_refl _) (tupO_ok (H := H1) ds (Heap.get?_push_size _ rfl) ⟨z, us, r, ⟨_, Heap.get?_push_size _ rfl, rfl, _, rfl⟩⟩)
  exact ⟨.ref s1.heap.objs.size, _, I2, rfl, q _ _ hf rfl⟩
theorem call_tupleX : CallR X (.type "tuple") (fun xs H Q => ∃ p ys, xs = [.ref p] ∧ ((SqL X.K H p ys ∧ ∃ ds, ∀ l o, H l = none → o.dict = none → Q (.ref l) (upd H l (tupO ds o ys))) ∨ (SqT X.K H p ys ∧ Q (.ref p) H))) := by
  intro pins s σ H xs us Q I r h
  obtain ⟨p, ys, rfl, h⟩ := h
  obtain ⟨u, rfl, rx⟩ := vals1 r
  cases rx
  rcases h with ⟨hq, ds, q⟩ | ⟨hq, q⟩
  · obtain ⟨its, r', pl, hz⟩ := I.list hq
    have hlen := r'.length
    refine call_tuple_list pl.isList (fun h' kp => ?_) (by simp only [List.size_toArray] <;> omega)
    have I1 : Inv X pins σ H { s with heap := h' } := I.kept (t' := s.toks) kp
    have I2 : Inv X pins σ (upd H h'.objs.size (tupO ds { cls := .type "tuple", data := .seq its.toArray } ys)) { s with heap := h'.push { cls := .type "tuple", data := .seq its.toArray } } :=
      I1.laid (t' := s.toks) (fun b o e => Heap.get?_push_of_some _ e) (Nat.le_refl _) (tupO_ok (H := H) ds (Heap.get?_push_size _ rfl) ⟨hz, its, r', PyProof.Rows.IsTup.new _ _⟩)
    exact ⟨.ref h'.objs.size, _, I2, rfl, q _ _ (I1.hok.fresh (Nat.le_refl _)) rfl⟩
  · obtain ⟨its, r', pl, hz⟩ := I.tuple hq
    exact call_tuple_same pl ⟨.ref p, H, I, rfl, q⟩
def rSlX (K : PySem.W.Frag) : V → Option Int → Option Int → Hp → VK → Prop := fun x lo hi H Q => ∃ a xs, x = .ref a ∧ SqT K H a xs ∧
  (HT.sIx xs.length 0 lo = 0 ∧ HT.sIx xs.length xs.length hi = xs.length → Q (.ref a) H) ∧ (¬ (HT.sIx xs.length 0 lo = 0 ∧ HT.sIx xs.length xs.length hi = xs.length) → ∃ ds, ∀ p o, H p = none → o.dict = none → Q (.ref p) (upd H p (tupO ds o (cutV xs lo hi))))
theorem sl_tupX : SlR X (rSlX X.K) := by
  intro pins s σ H x v vl vu lo hi sl Q I rx hs pl pu h
  obtain ⟨a, xs, rfl, hx, q1, q2⟩ := h
  cases rx
  obtain ⟨its, r, ht, hz⟩ := I.tuple hx
  have hlen : its.toArray.size = xs.length := by rw [List.size_toArray]; exact r.length.symm
  refine ⟨"tuple", _, PyProof.Rows.slot_tuple_getitem.lookup, ht.typeIs, ?_⟩
  by_cases hw : HT.sIx xs.length 0 lo = 0 ∧ HT.sIx xs.length xs.length hi = xs.length
  · exact getItem_tuple_whole ht hs pl pu (by rw [hlen]; exact hw) ⟨.ref a, H, I, rfl, q1 hw⟩
  · obtain ⟨ds, q⟩ := q2 hw
    refine HT.getItem_tuple_cut ht hs pl pu (by rw [hlen]; exact hw) ?_ (by rw [hlen]; exact hz)
    rw [hlen]
    refine ⟨.ref s.heap.objs.size, _, I.laid (t' := s.toks) (o := tupO ds _ (cutV xs lo hi)) (fun b ob q => Heap.get?_push_of_some _ q) (Nat.le_refl _) (tupO_ok (H := H) ds (Heap.get?_push_size _ rfl) ?_), rfl, q _ _ (I.hok.fresh (Nat.le_refl _)) rfl⟩
    exact ⟨Nat.le_trans (cutV_length xs lo hi) hz, _, (r.drop (HT.sIx xs.length 0 lo)).take (HT.sIx xs.length xs.length hi - HT.sIx xs.length 0 lo), PyProof.Rows.IsTup.new _ _⟩
def rCatX (K : PySem.W.Frag) : R2 := fun x y H Q => ∃ a b xs ys, x = .ref a ∧ y = .ref b ∧ SqT K H a xs ∧ SqT K H b ys ∧ xs.length + ys.length ≤ sizeLine ∧ (xs = [] → Q (.ref b) H) ∧ (xs ≠ [] → ys = [] → Q (.ref a) H) ∧
  (xs ≠ [] → ys ≠ [] → ∃ ds, ∀ p o, H p = none → o.dict = none → Q (.ref p) (upd H p (tupO ds o (xs ++ ys))))
theorem op_catX : OpR X (binaryOp .Add) (rCatX X.K) := by
  intro pins s σ H x y v u Q I rx ry h
  obtain ⟨a, b, xs, ys, rfl, rfl, ha, hb, hz, q0, q1, q2⟩ := h
  cases rx
  cases ry
  obtain ⟨its, r1, p1, _⟩ := I.tuple ha
  obtain ⟨its2, r2, p2, _⟩ := I.tuple hb
  by_cases hx : xs = []
  · subst hx
    cases r1
    exact cat_tup0 p1 p2 ⟨.ref b, H, I, rfl, q0 rfl⟩
  · refine HT.cat_tup p1 p2 (fun z => hx (r1.nil_iff.mp z)) (fun z => ⟨.ref a, H, I, rfl, q1 hx (r2.nil_iff.mp z)⟩) (fun z => ?_) (by rw [← r1.length, ← r2.length]; exact hz)
    obtain ⟨ds, q⟩ := q2 hx (fun w => z (r2.nil_iff.mpr w))
    refine ⟨.ref s.heap.objs.size, _, I.laid (t' := s.toks) (o := tupO ds _ (xs ++ ys)) (fun b ob q => Heap.get?_push_of_some _ q) (Nat.le_refl _) (tupO_ok (H := H) ds (Heap.get?_push_size _ rfl) ?_), rfl, q _ _ (I.hok.fresh (Nat.le_refl _)) rfl⟩
    exact ⟨by rw [List.length_append]; exact hz, _, r1.append r2, PyProof.Rows.IsTup.new _ _⟩
variable {cs : Nat → Option Addr} {F B H : Hp} {as : List Addr} {env : Env} {st : Sto} {σ : L2.St}
theorem Rel.putT (r : Rel X.K cs F B as env st σ H) {p : Addr} {o : PySem.Obj} {ds : List D} {us : List V} (hp : H p = none) (h0 : o.dict = none) (hd : Dens X.K F ds us) :
    Rel X.K cs (upd F p (tupO ds o us)) B as env st σ (upd H p (tupO ds o us)) ∧ Ext F as H (upd F p (tupO ds o us)) as (upd H p (tupO ds o us)) ∧ VOk X.K (upd F p (tupO ds o us)) B as (.dat (.tup ds)) (.ref p) :=
  r.put hp fun F' hf h2 => Den.tup_iff.mpr ⟨p, us, rfl, ⟨o, h0, h2⟩, Dens.mono hf _ _ hd⟩
end
end NK
set_option Elab.async false
set_option linter.all false
set_option autoImplicit false
set_option maxRecDepth 100000
namespace NK
open PySem PySem.Spec PyProof.Rows L2
section
variable {X : Cx} {cs : Nat → Option Addr} {e e1 e2 e3 : Expr} {f f1 f2 f3 : Env → Sto → Option (Val × Sto)} {pos : Pos}
theorem okMul_ok {i j : Int} (h : okMul i j = true) : IntMulOk i j := by
  have h3 : i.natAbs.log2 + j.natAbs.log2 < 100000000 := of_decide_eq_true h
  have b : ∀ x : Int, Builtin.Int.intBits x ≤ x.natAbs.log2 + 1 := fun x => by
    unfold Builtin.Int.intBits
    split <;> omega
  have h1 := b i
  have h2 := b j
  have e : bitsLine = 134217728 := by decide
  unfold IntMulOk
  intro z
  rw [Bool.and_eq_true] at z
  have z2 := z.2
  unfold Builtin.Int.intTooBig at z2
  have z3 := of_decide_eq_true z2
  rw [e] at z3
  omega
theorem op_mulG : OpR X (binaryOp .Mult) (rI (fun i j => okMul i j = true) fun i j => .int (i * j)) := opI fun _ _ _ _ _ _ _ hc q => mul_int q (okMul_ok hc)
def DivRoom (X : Cx) : Prop := X.A.frames = some X.stack → Mod X.K X.mg X.base → ∀ s : Shared, (∀ b o, X.base.get? b = some o → s.heap.get? b = some o) → PySem.PylongRoom (model X.prog X.w) X.A s
theorem op_fdivG (dv : DivRoom X) : OpR X (binaryOp .FloorDiv) (rI (fun _ j => okDiv j = true) fun i j => .int (i.fdiv j)) := by
  intro pins s σ H x y v u Q I rx ry h
  obtain ⟨i, j, rfl, rfl, hc, q⟩ := h
  obtain ⟨t, rfl⟩ := rx
  obtain ⟨t', rfl⟩ := ry
  exact floordiv_int (of_decide_eq_true hc) ⟨.int (i.fdiv j), H, I.tok _, ⟨_, rfl⟩, q⟩ (.inr (dv I.ok.frames I.ok.mod s I.bk))
theorem ltW_lt : ∀ a b : W, decide (a < b) = ltW a b
  | [], [] => by simp [ltW]
  | [], _ :: _ => by simp [ltW]
  | _ :: _, [] => by simp [ltW]
  | a :: r, b :: t => by
    have ih := ltW_lt r t
    rw [ltW, ← ih]
    rw [Bool.eq_iff_iff]
    simp [List.cons_lt_cons_iff]
theorem ltW_cps (a b : W) : decide ((S a).cps.toList < (S b).cps.toList) = ltW a b := by rw [S_cps, S_cps]; exact ltW_lt a b
theorem foldl_arr : ∀ (m : Nat) (c acc : List Nat), (List.replicate m c.toArray).foldl (· ++ ·) acc.toArray = (acc ++ (List.replicate m c).flatten).toArray
  | 0, c, acc => by simp
  | m + 1, c, acc => by
    rw [List.replicate_succ, List.foldl_cons, List.replicate_succ, List.flatten_cons, ← List.append_assoc, ← foldl_arr m c (acc ++ c), List.append_toArray]
def repS (x : Str) (n : Nat) : Str := ⟨(List.replicate n x.cps.toList).flatten.toArray⟩
theorem rep_S (a : W) (n : Nat) : repS (S a) n = S (List.replicate n a).flatten := by
  show (⟨_⟩ : Str) = ⟨_⟩
  rw [S_cps]
theorem op_mulS {X : Cx} : OpR X (binaryOp .Mult) (fun x y H Q => ∃ a k, x = .str a ∧ y = .int k ∧ a.length ≤ 1000 ∧ 0 ≤ k ∧ k ≤ 1000 ∧ Q (.str (repS a k.toNat)) H) := by
  intro pins s σ H x y v u Q I rx ry h
  obtain ⟨a, k, rfl, rfl, hl, h0, h1, q⟩ := h
  obtain ⟨t, rfl⟩ := rx
  obtain ⟨t', rfl⟩ := ry
  have hm : a.length * k.toNat ≤ 1000 * 1000 := Nat.mul_le_mul hl (by omega)
  have er : ∀ n : Nat, (List.replicate n a.cps).foldl (· ++ ·) #[] = (List.replicate n a.cps.toList).flatten.toArray := fun n => by
    have := foldl_arr n a.cps.toList []
    simpa using this
  refine PySem.P.mul_str ?_ (fun h2 h3 => ?_) (fun h2 h3 => ?_) ?_
  · rw [Bool.or_eq_false_iff, decide_eq_false_iff_not, decide_eq_false_iff_not]
    constructor <;> omega
  · have h4 : (1000 : Int) * k ≤ 2 ^ 63 - 1 := by omega
    have h5 : (1000 : Int) ≤ (2 ^ 63 - 1) / k := (Int.le_ediv_iff_mul_le (by omega)).mpr h4
    omega
  · exact PyProof.Rows.short24 (by omega)
  · split
    · rename_i h2
      have e : k.toNat = 0 := by omega
      rw [e] at q
      exact ⟨by decide, .str _, H, I.tok _, ⟨_, rfl⟩, q⟩
    · split
      · rename_i h2 h3
        rw [Bool.or_eq_true, beq_iff_eq, beq_iff_eq] at h3
        have e : repS a k.toNat = a := by
          refine Str.ext' ?_
          show (List.replicate k.toNat a.cps.toList).flatten.toArray = a.cps
          rcases h3 with rfl | h3
          · simp
          · have e2 : a.cps.toList = [] := List.eq_nil_of_length_eq_zero (by rw [Array.length_toList]; exact h3)
            have e3 : a.cps = #[] := by rw [← Array.toList_inj, e2]
            rw [e2, e3]
            simp
        rw [e] at q
        exact ⟨.str a, H, I, ⟨t, rfl⟩, q⟩
      · rw [er]
        refine ⟨?_, .str _, H, I.tok _, ⟨_, rfl⟩, q⟩
        show ((List.replicate k.toNat a.cps.toList).flatten.toArray).size ≤ sizeLine
        rw [List.size_toArray, PyProof.Rows.lm_len_rep_flat, Array.length_toList]
        have e4 : a.cps.size = a.length := rfl
        rw [e4, Nat.mul_comm, sizeLine_eq]
        omega
theorem tuple_mul1 (l : Addr) (items : Array Value) (n : Nat) (dd : Option Addr) (sl : Array (Option Value)) (u : Tok) :
    Meets (Builtin.«tuple.__mul__» ⟨[.ref l, .int 1 u], []⟩) (fun _ R s => s.heap.get? l = some { cls := .type "tuple", dict := dd, data := .seq items n, slots := sl } ∧ R (.ok (.ret (Value.ref l))) s) :=
  .of_wp fun prog w A R s h => by
    obtain ⟨hp, g, d, tk, os⟩ := s
    obtain ⟨hl, h⟩ := h
    have f1 := AutoSeq1.idx_int
    have c1 : (items.isEmpty || (1 : Int) == 1) = true := by simp
    wp_walk using wpAny_loadPart' hl
    exact ⟨_, rfl, h⟩
theorem tuple_mul0 (l : Addr) (items : Array Value) (n : Nat) (dd : Option Addr) (sl : Array (Option Value)) (u : Tok) (hi : items.isEmpty = false) :
    Meets (Builtin.«tuple.__mul__» ⟨[.ref l, .int 0 u], []⟩) (fun _ R s => s.heap.get? l = some { cls := .type "tuple", dict := dd, data := .seq items n, slots := sl } ∧
      R (.ok (.ret (Value.ref s.heap.objs.size))) { s with heap := s.heap.push { cls := Value.type "tuple", data := Data.seq #[] }, toks := s.toks }) :=
  .of_wp fun prog w A R s h => by
    obtain ⟨hp, g, d, tk, os⟩ := s
    obtain ⟨hl, h⟩ := h
    have f1 := AutoSeq1.idx_int
    have c1 : (items.isEmpty || (0 : Int) == 1) = false := by rw [hi]; rfl
    wp_walk using wpAny_loadPart' hl
    first
      | exact ⟨_, rfl, h⟩
      | trace_state
def rRep1 (K : PySem.W.Frag) : R2 := fun x y H Q => ∃ l k xs, x = .ref l ∧ y = .int k ∧ SqT K H l xs ∧ xs ≠ [] ∧ ((k = 1 ∧ Q (.ref l) H) ∨ (k = 0 ∧ ∀ p o, H p = none → o.dict = none → Q (.ref p) (upd H p (tupO [] o []))))
theorem op_rep1 {X : Cx} : OpR X (binaryOp .Mult) (rRep1 X.K) := by
  intro pins s σ H x y v u Q I rx ry h
  obtain ⟨l, k, xs, rfl, rfl, hT, hne, q⟩ := h
  cases rx
  obtain ⟨t, rfl⟩ := ry
  obtain ⟨its, r, ⟨⟨cls, dd, data, sl⟩, ho, hc, n, hd⟩, hs⟩ := I.tuple hT
  simp only at hc hd
  subst hc hd
  have hle : its.length = xs.length := r.length.symm
  have hn : its ≠ [] := fun e => hne (by
    rw [e] at hle
    exact List.eq_nil_of_length_eq_zero hle.symm)
  have hi : its.toArray.isEmpty = false := by
    cases its with
    | nil => exact absurd rfl hn
    | cons a b => rfl
  rcases q with ⟨rfl, q⟩ | ⟨rfl, q⟩
  · refine wpAny_binaryOp_repeat_ref (T := "tuple") (U := "int") (by decide) ⟨_, ho, rfl⟩ (fun s' => typeIs_int s' 1 t) noFill_tuple_mul F.fills_int_mul F.slot_int_rmul repeat_tuple F.slot_int_index.lookup
      (call_meets F.slot_int_rmul (typeIs_int s 1 t) F.entry_int_rmul (F.args_int_rmul_2 _ _) (int_rmul_tuple 1 t l its.toArray n dd sl)
        ⟨ho, rfl, ⟨_, ho, rfl⟩, call_meets F.slot_tuple_mul ⟨_, ho, rfl⟩ F.entry_tuple_mul (F.args_tuple_mul_2 _ _) (tuple_mul1 l its.toArray n dd sl t) ⟨ho, ?_⟩⟩)
    exact ⟨.ref l, H, I, rfl, q⟩
  · refine wpAny_binaryOp_repeat_ref (T := "tuple") (U := "int") (by decide) ⟨_, ho, rfl⟩ (fun s' => typeIs_int s' 0 t) noFill_tuple_mul F.fills_int_mul F.slot_int_rmul repeat_tuple F.slot_int_index.lookup
      (call_meets F.slot_int_rmul (typeIs_int s 0 t) F.entry_int_rmul (F.args_int_rmul_2 _ _) (int_rmul_tuple 0 t l its.toArray n dd sl)
        ⟨ho, rfl, ⟨_, ho, rfl⟩, call_meets F.slot_tuple_mul ⟨_, ho, rfl⟩ F.entry_tuple_mul (F.args_tuple_mul_2 _ _) (tuple_mul0 l its.toArray n dd sl t hi) ⟨ho, ?_⟩⟩)
    refine ⟨.ref s.heap.objs.size, _, I.laid (t' := s.toks) (o := tupO [] _ []) (fun b ob q => Heap.get?_push_of_some _ q) (Nat.le_refl _) (tupO_ok (H := H) [] (Heap.get?_push_size _ rfl) ?_), rfl, q _ _ (I.hok.fresh (Nat.le_refl _)) rfl⟩
    exact ⟨by simp, _, .nil, PyProof.Rows.IsTup.new _ _⟩
def opB : BOp → Operator
  | .add => .Add | .sub => .Sub | .mul => .Mult | .fdiv => .FloorDiv | .mod => .Mod | .pow => .Pow | .shl => .LShift
theorem s_bin (dv : DivRoom X) {o : BOp} (h1 : PE X e1 (tE X.K cs f1)) (h2 : PE X e2 (tE X.K cs f2)) :
    PE X (.BinOp e1 (opB o) e2 pos) (tE X.K cs fun env st => (f1 env st).bind fun r => (f2 env r.2).bind fun q => (binV o r.1 q.1 q.2).map fun v => (v, q.2)) := by
  refine ⟨fun pins s σ H Q I h => ?_⟩
  obtain ⟨F, B, as, env, st, v, st', r, ev, k⟩ := h
  obtain ⟨⟨x, st1⟩, ha, ev1⟩ := obnd ev
  obtain ⟨⟨y, st2⟩, hb, ev2⟩ := obnd ev1
  obtain ⟨z, hz, ev3⟩ := omap ev2
  clear ev ev1 ev2
  cases ev3
  dsimp only at ha hb hz k
  have go : ∀ {R : R2}, OpR X (binaryOp (opB o)) R → (∀ F' as' H' u w, Rel X.K cs F' B as' env st2 σ H' → Ext F as H F' as' H' → VOk X.K F' B as' x u → VOk X.K F' B as' y w → R u w H' Q) →
      wpAny (model X.prog X.w) X.A (eval (.BinOp e1 (opB o) e2 pos) X.env) (EP X pins σ Q) X.xe s := fun hR hk =>
    (pe_op hR h1 h2).run pins s σ H Q I (two r ha hb hk)
  unfold binV at hz
  split at hz
  · cases hz
    exact go op_add fun F' as' H' u w r' x' v1 v2 => ⟨_, _, int_of v1, int_of v2, k F' as' H' _ r' x' vint⟩
  · cases hz
    exact go op_sub fun F' as' H' u w r' x' v1 v2 => ⟨_, _, int_of v1, int_of v2, k F' as' H' _ r' x' vint⟩
  · split at hz
    · rename_i hc; cases hz
      exact go op_mulG fun F' as' H' u w r' x' v1 v2 => ⟨_, _, int_of v1, int_of v2, hc, k F' as' H' _ r' x' vint⟩
    · cases hz
  · split at hz
    · rename_i hc; cases hz
      exact go (op_fdivG dv) fun F' as' H' u w r' x' v1 v2 => ⟨_, _, int_of v1, int_of v2, hc, k F' as' H' _ r' x' vint⟩
    · cases hz
  · split at hz
    · cases hz
    · rename_i hc; cases hz
      exact go op_modN fun F' as' H' u w r' x' v1 v2 => ⟨_, _, int_of v1, int_of v2, hc, k F' as' H' _ r' x' vint⟩
  · split at hz
    · rename_i hc; cases hz
      unfold okPow at hc
      rw [Bool.and_eq_true, Bool.and_eq_true, decide_eq_true_eq, decide_eq_true_eq, decide_eq_true_eq] at hc
      exact go op_pow fun F' as' H' u w r' x' v1 v2 => ⟨_, _, int_of v1, int_of v2, ⟨hc.1.1, hc.1.2, hc.2⟩, k F' as' H' _ r' x' vint⟩
    · cases hz
  · split at hz
    · rename_i hc; cases hz
      unfold okPow at hc
      rw [Bool.and_eq_true, Bool.and_eq_true, decide_eq_true_eq, decide_eq_true_eq, decide_eq_true_eq] at hc
      exact go op_shl fun F' as' H' u w r' x' v1 v2 => ⟨_, _, int_of v1, int_of v2, ⟨hc.1.1, hc.1.2, hc.2⟩, k F' as' H' _ r' x' vint⟩
    · cases hz
  · split at hz
    · rename_i hc; cases hz
      exact go op_add_str fun F' as' H' u w r' x' v1 v2 => ⟨_, _, str_of v1, str_of v2, by rw [S_len, S_len, ← line_eq]; exact hc, k F' as' H' _ r' x' (by rw [S_app]; exact vstr)⟩
    · cases hz
  · split at hz
    · rename_i a b hc; cases hz
      refine go op_catX fun F' as' H' u w r' x' v1 v2 => ?_
      obtain ⟨p, us, rfl, hp, hd⟩ := Den.tup_iff.mp v1
      obtain ⟨q, ws, rfl, hq, he⟩ := Den.tup_iff.mp v2
      refine ⟨p, q, us, ws, rfl, rfl, .inl (rd_mono r'.fh hp.rd), .inl (rd_mono r'.fh hq.rd), by rw [hd.length, he.length, ← line_eq]; exact hc, fun e => ?_, fun _ e => ?_, fun _ _ => ⟨a ++ b, fun t o ht h0 => ?_⟩⟩
      · have : a = [] := List.eq_nil_of_length_eq_zero (by rw [← hd.length, e]; rfl)
        subst this
        exact k F' as' H' _ r' x' v2
      · have : b = [] := List.eq_nil_of_length_eq_zero (by rw [← he.length, e]; rfl)
        subst this
        exact k F' as' H' _ r' x' (by rw [List.append_nil]; exact v1)
      · obtain ⟨r2, x2, v3⟩ := r'.putT ht h0 (hd.append he)
        exact k _ as' _ _ r2 (x'.trans x2) v3
    · cases hz
  · split at hz
    · rename_i a j hc; cases hz
      refine go op_repT fun F' as' H' u w r' x' v1 v2 => ?_
      obtain ⟨p, us, rfl, hp, hd⟩ := Den.tup_iff.mp v1
      refine ⟨p, j, us, rfl, int_of v2, .inl (rd_mono r'.fh hp.rd), fun e => ?_, hc.2.2.1, hc.2.2.2.1, by rw [hd.length]; exact hc.2.1, fun t ht => ?_⟩
      · have e2 : a = [] := List.eq_nil_of_length_eq_zero (by rw [← hd.length, e]; rfl)
        rw [e2] at hc
        exact absurd hc.1 (by simp)
      · obtain ⟨r2, x2, v3⟩ := r'.put (d := .tup (List.replicate j.toNat a).flatten) (o := .tup (List.replicate j.toNat us).flatten) ht fun F2 hf h2 => Den.tup_iff.mpr ⟨t, _, rfl, .plain h2 hc.2.2.2.2, by
            have h3 := Dens.mono hf _ _ hd
            generalize j.toNat = n
            induction n with
            | zero => exact Dens.nil.mpr rfl
            | succ n ih => rw [List.replicate_succ, List.replicate_succ, List.flatten_cons, List.flatten_cons]; exact h3.append ih⟩
        exact k _ as' _ _ r2 (x'.trans x2) v3
    · split at hz
      · rename_i a j _ hc; cases hz
        refine go op_rep1 fun F' as' H' u w r' x' v1 v2 => ?_
        obtain ⟨p, us, rfl, hp, hd⟩ := Den.tup_iff.mp v1
        refine ⟨p, j, us, rfl, int_of v2, .inl (rd_mono r'.fh hp.rd), fun e => ?_, .inl ⟨hc.2, k F' as' H' _ r' x' v1⟩⟩
        have e2 : a = [] := List.eq_nil_of_length_eq_zero (by rw [← hd.length, e]; rfl)
        rw [e2] at hc
        exact absurd hc.1 (by simp)
      · split at hz
        · rename_i a j _ _ hc; cases hz
          refine go op_rep1 fun F' as' H' u w r' x' v1 v2 => ?_
          obtain ⟨p, us, rfl, hp, hd⟩ := Den.tup_iff.mp v1
          refine ⟨p, j, us, rfl, int_of v2, .inl (rd_mono r'.fh hp.rd), fun e => ?_, .inr ⟨hc.2, fun t o ht h0 => ?_⟩⟩
          · have e2 : a = [] := List.eq_nil_of_length_eq_zero (by rw [← hd.length, e]; rfl)
            rw [e2] at hc
            exact absurd hc.1 (by simp)
          · obtain ⟨r2, x2, v3⟩ := r'.putT ht h0 (Dens.nil.mpr rfl)
            exact k _ as' _ _ r2 (x'.trans x2) v3
        · cases hz
  · split at hz
    · rename_i a j hc; cases hz
      exact go op_mulS fun F' as' H' u w r' x' v1 v2 => ⟨_, _, str_of v1, int_of v2, by rw [S_len]; exact hc.1, hc.2.1, hc.2.2, k F' as' H' _ r' x' (by rw [rep_S]; exact vstr)⟩
    · cases hz
  · split at hz
    · rename_i xs ys h3 h4
      split at hz
      · rename_i hc; cases hz
        refine go op_cat fun F' as' H' u w r' x' v1 v2 => ?_
        obtain ⟨p, us, rfl, hp, hd⟩ := asX_ok r'.toRSt h3 v1
        obtain ⟨q, ws, rfl, hq, he⟩ := asX_ok r'.toRSt h4 v2
        refine ⟨p, q, us, ws, rfl, rfl, hp, hq, by rw [hd.length, he.length, ← line_eq]; exact hc, fun t ht => ?_⟩
        obtain ⟨r2, x2, v3⟩ := r'.put (d := .lst (xs ++ ys)) (o := .lst (us ++ ws)) ht fun F2 hf h2 => Den.lst_iff.mpr ⟨t, _, rfl, h2, (Dens.mono hf _ _ hd).append (Dens.mono hf _ _ he)⟩
        exact k _ as' _ _ r2 (x'.trans x2) v3
      · cases hz
    · cases hz
  · cases hz
theorem s_neg (h1 : PE X e1 (tE X.K cs f1)) : PE X (.UnaryOp .USub e1 pos) (tE X.K cs fun env st => (f1 env st).bind fun r => (intOf r.1).map fun i => (.dat (.int (-i)), r.2)) :=
  (pe_un un_neg h1).weak fun σ H Q ⟨F, B, as, env, st, v, st', r, ev, k⟩ => by
    obtain ⟨⟨x, st1⟩, ha, ev⟩ := obnd ev
    obtain ⟨i, hi, ev⟩ := omap ev
    cases ev
    refine ⟨F, B, as, env, st, x, st1, r, ha, fun F' as' H' u r' x' v1 => ?_⟩
    dsimp only at hi
    unfold intOf at hi
    split at hi
    · cases hi
      exact ⟨_, int_of v1, k F' as' H' _ r' x' vint⟩
    · cases hi
end
end NK
set_option Elab.async false
set_option linter.all false
set_option autoImplicit false
set_option maxRecDepth 100000
namespace NK
open PySem PySem.Spec PyProof.Rows L2
mutual
theorem toP_plain : ∀ d : D, nod d = true → (toP d).plain = true
  | .non, _ => by simp [toP, PyData.plain]
  | .bl _, _ => by simp [toP, PyData.plain]
  | .int _, _ => by simp [toP, PyData.plain]
  | .str _, _ => by simp [toP, PyData.plain]
  | .tup ds, h => by simp only [toP, PyData.plain]; exact toPs_plain ds (by simpa [nod] using h)
  | .lst ds, h => by simp only [toP, PyData.plain]; exact toPs_plain ds (by simpa [nod] using h)
  | .dK _ _, h => by simp [nod] at h
  | .dT _ _, h => by simp [nod] at h
  | .exc _ _ _, h => by simp [nod] at h
  | .scr ns, _ => by
    simp only [toP, PyData.plain]
    induction ns with
    | nil => rfl
    | cons n ns ih => simp [PyData.plainAll, PyData.plain, ih (by simp [nod])]
theorem toPs_plain : ∀ ds : List D, nods ds = true → PyData.plainAll (toPs ds) = true
  | [], _ => by simp [toPs, PyData.plainAll]
  | d :: ds, h => by
    have h' : nod d = true ∧ nods ds = true := by simpa [nods] using h
    simp [toPs, PyData.plainAll, toP_plain d h'.1, toPs_plain ds h'.2]
end
mutual
theorem toP_dep : ∀ d : D, (toP d).depth ≤ dep d
  | .non => by simp [toP, PyData.depth]
  | .bl _ => by simp [toP, PyData.depth]
  | .int _ => by simp [toP, PyData.depth]
  | .str _ => by simp [toP, PyData.depth]
  | .tup ds => by simp only [toP, PyData.depth, dep]; have := toPs_dep ds; omega
  | .lst ds => by simp only [toP, PyData.depth, dep]; have := toPs_dep ds; omega
  | .dK _ _ => by simp [toP, PyData.depth]
  | .dT _ _ => by simp [toP, PyData.depth]
  | .exc _ _ _ => by simp [toP, PyData.depth]
  | .scr ns => by
    simp only [toP, PyData.depth, dep]
    have : ∀ ns : List Int, PyData.depthAll (ns.map .int) = 0 := fun ns => by
      induction ns with
      | nil => rfl
      | cons n ns ih => simp [PyData.depthAll, PyData.depth, ih]
    rw [this]; omega
theorem toPs_dep : ∀ ds : List D, PyData.depthAll (toPs ds) ≤ deps ds
  | [] => by simp [toPs, PyData.depthAll, deps]
  | d :: ds => by simp only [toPs, PyData.depthAll, deps]; have := toP_dep d; have := toPs_dep ds; omega
end
theorem eqI_ok (i : Int) (d : D) (h : nod d = true) : PyData.eqv (.int i) (toP d) = eqI i d := by
  cases d <;> simp [toP, PyData.eqv, eqI, nod] at h ⊢
theorem eqI_ok' (i : Int) (d : D) (h : nod d = true) : PyData.eqv (toP d) (.int i) = eqI i d := by
  cases d <;> simp [toP, PyData.eqv, eqI, nod] at h ⊢ <;> exact Bool.eq_iff_iff.mpr ⟨by simp; exact fun h => h.symm, by simp; exact fun h => h.symm⟩
theorem eqSs_ok : ∀ (ns : List Int) (ds : List D), nods ds = true → PyData.eqvAll (ns.map .int) (toPs ds) = eqSs ns ds
  | [], [], _ => by simp [toPs, PyData.eqvAll, eqSs]
  | [], _ :: _, _ => by simp [toPs, PyData.eqvAll, eqSs]
  | _ :: _, [], _ => by simp [toPs, PyData.eqvAll, eqSs]
  | n :: ns, d :: ds, h => by
    have h' : nod d = true ∧ nods ds = true := by simpa [nods] using h
    simp [toPs, PyData.eqvAll, eqSs, eqI_ok n d h'.1, eqSs_ok ns ds h'.2]
theorem eqSs_ok' : ∀ (ns : List Int) (ds : List D), nods ds = true → PyData.eqvAll (toPs ds) (ns.map .int) = eqSs ns ds
  | [], [], _ => by simp [toPs, PyData.eqvAll, eqSs]
  | [], _ :: _, _ => by simp [toPs, PyData.eqvAll, eqSs]
  | _ :: _, [], _ => by simp [toPs, PyData.eqvAll, eqSs]
  | n :: ns, d :: ds, h => by
    have h' : nod d = true ∧ nods ds = true := by simpa [nods] using h
    simp [toPs, PyData.eqvAll, eqSs, eqI_ok' n d h'.1, eqSs_ok' ns ds h'.2]
theorem eqNs_ok : ∀ ns ms : List Int, PyData.eqvAll (ns.map .int) (ms.map .int) = (ns == ms)
  | [], [] => rfl
  | [], _ :: _ => rfl
  | _ :: _, [] => rfl
  | n :: ns, m :: ms => by
    simp only [List.map_cons, PyData.eqvAll, PyData.eqv, eqNs_ok ns ms]
    rfl
mutual
theorem eqD_ok : ∀ a b : D, nod a = true → nod b = true → PyData.eqv (toP a) (toP b) = eqD a b
  | .non, b, _, hb => by cases b <;> simp [toP, PyData.eqv, eqD, nod] at hb ⊢
  | .bl x, b, _, hb => by cases b <;> simp [toP, PyData.eqv, eqD, nod] at hb ⊢
  | .int i, b, _, hb => by cases b <;> simp [toP, PyData.eqv, eqD, nod] at hb ⊢
  | .str x, b, _, hb => by
    cases b <;> simp [toP, PyData.eqv, eqD, nod] at hb ⊢
    rename_i y
    exact Bool.eq_iff_iff.mpr ⟨by simp [S_iff], by simp [S_iff]⟩
  | .tup xs, b, ha, hb => by
    cases b <;> simp [toP, PyData.eqv, eqD, nod] at ha hb ⊢
    exact eqDs_ok xs _ ha hb
  | .lst xs, b, ha, hb => by
    cases b <;> simp [toP, PyData.eqv, eqD, nod] at ha hb ⊢
    · exact eqDs_ok xs _ ha hb
    · exact eqSs_ok' _ xs ha
  | .scr ns, b, _, hb => by
    cases b <;> simp [toP, PyData.eqv, eqD, nod] at hb ⊢
    · exact eqSs_ok ns _ hb
    · exact eqNs_ok ns _
  | .dK _ _, _, ha, _ => by simp [nod] at ha
  | .dT _ _, _, ha, _ => by simp [nod] at ha
  | .exc _ _ _, _, ha, _ => by simp [nod] at ha
theorem eqDs_ok : ∀ as bs : List D, nods as = true → nods bs = true → PyData.eqvAll (toPs as) (toPs bs) = eqDs as bs
  | [], [], _, _ => by simp [toPs, PyData.eqvAll, eqDs]
  | [], _ :: _, _, _ => by simp [toPs, PyData.eqvAll, eqDs]
  | _ :: _, [], _, _ => by simp [toPs, PyData.eqvAll, eqDs]
  | a :: as, b :: bs, ha, hb => by
    have ha' : nod a = true ∧ nods as = true := by simpa [nods] using ha
    have hb' : nod b = true ∧ nods bs = true := by simpa [nods] using hb
    simp [toPs, PyData.eqvAll, eqDs, eqD_ok a b ha'.1 hb'.1, eqDs_ok as bs ha'.2 hb'.2]
end
section
variable {K : PySem.W.Frag} {F H : Hp}
mutual
theorem den_dp (hf : ∀ a o, F a = some o → H a = some o) : ∀ (d : D) (u : V), nod d = true → Den K F d u → Dp K H u (toP d)
  | .non, u, _, q => by rw [Den.non_iff.mp q]; simp only [toP]; exact .non
  | .bl b, u, _, q => by rw [Den.bl_iff.mp q]; simp only [toP]; exact .bl b
  | .int i, u, _, q => by rw [Den.int_iff.mp q]; simp only [toP]; exact .int i
  | .str w, u, _, q => by rw [Den.str_iff.mp q]; simp only [toP]; exact .str _
  | .tup ds, u, h, q => by
    obtain ⟨p, us, rfl, a, b⟩ := Den.tup_iff.mp q
    simp only [toP]
    exact .tup (.inl (rd_mono hf a.rd)) (dens_dp hf ds us (by simpa [nod] using h) b)
  | .lst ds, u, h, q => by
    obtain ⟨p, us, rfl, a, b⟩ := Den.lst_iff.mp q
    simp only [toP]
    exact .lst (.of (hf _ _ a)) (dens_dp hf ds us (by simpa [nod] using h) b)
  | .dK _ _, _, h, _ => by simp [nod] at h
  | .dT _ _, _, h, _ => by simp [nod] at h
  | .exc _ _ _, _, h, _ => by simp [nod] at h
  | .scr ns, u, _, q => by
    obtain ⟨p, rfl, a⟩ := Den.scr_iff.mp q
    simp only [toP]
    refine .lst (sqL_mono hf a) ?_
    clear q a
    induction ns with
    | nil => exact .nil
    | cons n ns ih => exact .cons (.int n) (ih (by simp [nod]))
theorem dens_dp (hf : ∀ a o, F a = some o → H a = some o) : ∀ (ds : List D) (us : List V), nods ds = true → Dens K F ds us → DpAll K H us (toPs ds)
  | [], us, _, q => by rw [Dens.nil.mp q]; simp only [toPs]; exact .nil
  | d :: ds, us, h, q => by
    have h' : nod d = true ∧ nods ds = true := by simpa [nods] using h
    obtain ⟨u, us', rfl, a, b⟩ := Dens.cons.mp q
    simp only [toPs]
    exact .cons (den_dp hf d u h'.1 a) (dens_dp hf ds us' h'.2 b)
end
end
def scalD : D → Prop
  | .lst _ => False
  | .dK _ _ => False
  | .dT _ _ => False
  | _ => True
section
variable {X : Cx} {cs : Nat → Option Addr} {e e1 e2 e3 : Expr} {f f1 f2 f3 : Env → Sto → Option (Val × Sto)} {pos : Pos}
def rEqP (K : PySem.W.Frag) (neg : Bool) : R2 := fun x y H Q => ∃ d e, Dp K H x d ∧ Dp K H y e ∧ d.plain = true ∧ e.plain = true ∧ min d.depth e.depth ≤ 190 ∧ Q (.bl (if neg then !PyData.eqv d e else PyData.eqv d e)) H
theorem op_eqP (hu : X.A.units + 200 < cLine) : OpR X (compareOp .Eq) (rEqP X.K false) := by
  intro pins s σ H x y v u Q I rx ry h
  obtain ⟨d, e, hd, he, sd, se, dd, q⟩ := h
  obtain ⟨as, r1⟩ := Dp.reads I d x v hd rx
  obtain ⟨bs, r2⟩ := Dp.reads I e y u he ry
  exact SeqAt.eq_plain r1 r2 sd se (by omega) ⟨.bl _, H, I, rfl, q⟩
theorem op_neP (hu : X.A.units + 200 < cLine) : OpR X (compareOp .NotEq) (rEqP X.K true) := by
  intro pins s σ H x y v u Q I rx ry h
  obtain ⟨d, e, hd, he, sd, se, dd, q⟩ := h
  obtain ⟨as, r1⟩ := Dp.reads I d x v hd rx
  obtain ⟨bs, r2⟩ := Dp.reads I e y u he ry
  exact SeqAt.ne_plain r1 r2 sd se (by omega) ⟨.bl _, H, I, rfl, q⟩
def rInP (K : PySem.W.Frag) (neg : Bool) : R2 := fun x y H Q => ∃ d ds, Dp K H x d ∧ (Dp K H y (.list ds) ∨ Dp K H y (.tuple ds)) ∧ d.plain = true ∧ PyData.plainAll ds = true ∧ d.depth ≤ 150 ∧ Q (.bl (if neg then !(ds.any fun z => PyData.eqv z d) else ds.any fun z => PyData.eqv z d)) H
theorem op_inP (hu : X.A.units + 200 < cLine) : OpR X (compareOp .In) (rInP X.K false) := by
  intro pins s σ H x y v u Q I rx ry h
  obtain ⟨d, ds, hd, he, sd, se, dd, q⟩ := h
  obtain ⟨as, r1⟩ := Dp.reads I d x v hd rx
  rcases he with he | he
  · obtain ⟨bs, r2⟩ := Dp.reads I _ y u he ry
    exact SeqAt.in_list_data r2 r1 se sd (by have := Nat.min_le_right (PyData.depthAll ds) d.depth; omega) ⟨.bl _, H, I, rfl, q⟩
  · obtain ⟨bs, r2⟩ := Dp.reads I _ y u he ry
    exact SeqAt.in_tuple_data r2 r1 se sd (by have := Nat.min_le_right (PyData.depthAll ds) d.depth; omega) ⟨.bl _, H, I, rfl, q⟩
theorem op_notInP (hu : X.A.units + 200 < cLine) : OpR X (compareOp .NotIn) (rInP X.K true) := by
  intro pins s σ H x y v u Q I rx ry h
  obtain ⟨d, ds, hd, he, sd, se, dd, q⟩ := h
  obtain ⟨as, r1⟩ := Dp.reads I d x v hd rx
  rcases he with he | he
  · obtain ⟨bs, r2⟩ := Dp.reads I _ y u he ry
    exact SeqAt.notIn_list_data r2 r1 se sd (by have := Nat.min_le_right (PyData.depthAll ds) d.depth; omega) ⟨.bl _, H, I, rfl, q⟩
  · obtain ⟨bs, r2⟩ := Dp.reads I _ y u he ry
    exact SeqAt.notIn_tuple_data r2 r1 se sd (by have := Nat.min_le_right (PyData.depthAll ds) d.depth; omega) ⟨.bl _, H, I, rfl, q⟩
def rInDict (neg : Bool) : R2 := fun x y H Q => ∃ a o, y = .ref a ∧ DGet H a x o ∧ Q (.bl (if neg then !o.isSome else o.isSome)) H
theorem op_inDict (hu : X.A.units + 1 < cLine) : OpR X (compareOp .In) (rInDict false) := by
  intro pins s σ H x y v u Q I rx ry h
  obtain ⟨a, o, rfl, g, q⟩ := h
  cases ry
  exact d_in hu I g rx fun s' I' => ⟨.bl _, H, I', rfl, q⟩
theorem op_notInDict (hu : X.A.units + 1 < cLine) : OpR X (compareOp .NotIn) (rInDict true) := by
  intro pins s σ H x y v u Q I rx ry h
  obtain ⟨a, o, rfl, g, q⟩ := h
  cases ry
  exact d_notIn hu I g rx fun s' I' => ⟨.bl _, H, I', rfl, q⟩
theorem dlook_zip {κ κ' : Type} [DecidableEq κ] [DecidableEq κ'] {g : κ → κ'} (hg : ∀ a b, g a = g b → a = b) {K : PySem.W.Frag} {F : Hp} : ∀ {ks : List κ} {ds : List D} {us : List V} (k : κ), ks.length = ds.length → Dens K F ds us →
    (∃ d u, dlook ks ds k = some d ∧ valV ((ks.map g).zip us) (g k) = some u ∧ Den K F d u) ∨ (dlook ks ds k = none ∧ valV ((ks.map g).zip us) (g k) = none)
  | [], [], us, k, _, _ => by simp [dlook, valV]
  | [], _ :: _, _, _, h, _ => by simp at h
  | _ :: _, [], _, _, h, _ => by simp at h
  | j :: ks, d :: ds, us, k, h, q => by
    obtain ⟨u, us', rfl, a, b⟩ := Dens.cons.mp q
    by_cases e : j = k
    · subst e
      refine .inl ⟨d, u, by simp [dlook], ?_, a⟩
      show valV ((g j, u) :: (ks.map g).zip us') (g j) = some u
      exact valV_pos rfl
    · have e2 : ¬ g j = g k := fun z => e (hg _ _ z)
      have ih := dlook_zip hg (ks := ks) (ds := ds) (us := us') k (by simpa using h) b
      have h1 : dlook (j :: ks) (d :: ds) k = dlook ks ds k := by simp [dlook, e]
      have h2 : valV ((((j :: ks).map g)).zip (u :: us')) (g k) = valV ((ks.map g).zip us') (g k) := by
        show valV ((g j, u) :: (ks.map g).zip us') (g k) = _
        exact valV_neg e2
      rw [h1, h2]
      exact ih
theorem kk_map_inj {a b : List K1} (h : a.map kk = b.map kk) : a = b := by
  induction a generalizing b with
  | nil => cases b <;> simp at h ⊢
  | cons x a ih =>
    cases b with
    | nil => simp at h
    | cons y b =>
      simp only [List.map_cons, List.cons.injEq] at h ⊢
      exact ⟨kk_inj h.1, ih h.2⟩
theorem toK_ok {K : PySem.W.Frag} {F : Hp} {d : D} {k : K1} {u : V} (h : toK d = some k) (q : Den K F d u) : u = kV (kk k) := by
  cases d <;> simp [toK] at h
  · subst h; exact Den.int_iff.mp q
  · subst h; exact Den.str_iff.mp q
theorem toKs_ok {K : PySem.W.Frag} {F : Hp} : ∀ {ds : List D} {k : List K1} {us : List V}, toKs ds = some k → Dens K F ds us → us = (k.map kk).map kV
  | [], k, us, h, q => by simp [toKs] at h; subst h; rw [Dens.nil.mp q]; rfl
  | d :: ds, k, us, h, q => by
    obtain ⟨x, hx, h⟩ := obnd h
    obtain ⟨y, hy, h⟩ := omap h
    subst h
    obtain ⟨u, us', rfl, a, b⟩ := Dens.cons.mp q
    rw [toK_ok hx a, toKs_ok hy b]; rfl
theorem toTK_ok {K : PySem.W.Frag} {F : Hp} {d : D} {k : List K1} {u : V} (h : toTK d = some k) (q : Den K F d u) : ∃ b, u = .ref b ∧ F b = some (.tup ((k.map kk).map kV)) := by
  cases d <;> simp [toTK] at h
  rename_i ds
  obtain ⟨p, us, rfl, a, b⟩ := Den.tup_iff.mp q
  have n : prs ds = false := by
    cases ds with
    | nil => exact absurd rfl h.1
    | cons d ds => cases d <;> simp [toKs, toK] at h <;> rfl
  exact ⟨p, rfl, by rw [a.tup n, toKs_ok h.2 b]⟩
section
variable {F B H : Hp} {as : List Addr} {env : Env} {st : Sto} {σ : L2.St}
theorem get_dK (r : RSt X.K cs F B as st H) {v : Val} {u : V} {ks : List K1} {ds : List D} (h : snap st v = some (.dK ks ds)) (q : VOk X.K F B as v u) {i : D} {k : K1} {w : V} (hk : toK i = some k) (qi : Den X.K F i w) :
    ∃ a o, u = .ref a ∧ DGet H a w o ∧ ((∃ d x, dlook ks ds k = some d ∧ o = some x ∧ Den X.K F d x) ∨ (dlook ks ds k = none ∧ o = none)) := by
  obtain ⟨p, us, rfl, e, l, b⟩ := top_dK r h q
  refine ⟨p, _, rfl, .inl ⟨_, kk k, e, toK_ok hk qi, rfl⟩, ?_⟩
  rcases dlook_zip (g := kk) (fun _ _ => kk_inj) k l b with ⟨d, x, h1, h2, h3⟩ | ⟨h1, h2⟩
  · exact .inl ⟨d, x, h1, h2, h3⟩
  · exact .inr ⟨h1, h2⟩
theorem get_dT (r : RSt X.K cs F B as st H) {v : Val} {u : V} {ks : List (List K1)} {ds : List D} (h : snap st v = some (.dT ks ds)) (q : VOk X.K F B as v u) {i : D} {k : List K1} {w : V} (hk : toTK i = some k) (qi : Den X.K F i w) :
    ∃ a o, u = .ref a ∧ DGet H a w o ∧ ((∃ d x, dlook ks ds k = some d ∧ o = some x ∧ Den X.K F d x) ∨ (dlook ks ds k = none ∧ o = none)) := by
  obtain ⟨p, us, rfl, e, l, b⟩ := top_dT r h q
  obtain ⟨c, rfl, hc⟩ := toTK_ok hk qi
  refine ⟨p, _, rfl, .inr ⟨_, k.map kk, c, e, rfl, r.fh _ _ hc, rfl⟩, ?_⟩
  rcases dlook_zip (g := fun l : List K1 => l.map kk) (fun _ _ => kk_map_inj) k l b with ⟨d, x, h1, h2, h3⟩ | ⟨h1, h2⟩
  · exact .inl ⟨d, x, h1, h2, h3⟩
  · exact .inr ⟨h1, h2⟩
theorem snap_dp (r : RSt X.K cs F B as st H) {v : Val} {u : V} {d : D} (h : snap st v = some d) (n : nod d = true) (q : VOk X.K F B as v u) : Dp X.K H u (toP d) := by
  rcases snap_top r h q with ⟨d', rfl, rfl, z⟩ | z
  · exact den_dp r.fh _ u n z
  · cases d <;> first | exact z.elim | skip
    · obtain ⟨p, us, rfl, a, b⟩ := z
      simp only [toP]
      exact .lst (.of a) (dens_dp r.fh _ us (by simpa [nod] using n) b)
    · simp [nod] at n
    · simp [nod] at n
theorem snap_dat (r : RSt X.K cs F B as st H) {v : Val} {u : V} {d : D} (h : snap st v = some d) (q : VOk X.K F B as v u) (n : scalD d) : Den X.K F d u := by
  rcases snap_top r h q with ⟨d', rfl, rfl, z⟩ | z
  · exact z
  · cases d <;> first | exact z.elim | exact n.elim
end
theorem toK_scal {d : D} {k : K1} (h : toK d = some k) : scalD d := by
  cases d <;> simp [toK] at h <;> trivial
theorem toTK_scal {d : D} {k : List K1} (h : toTK d = some k) : scalD d := by
  cases d <;> simp [toTK] at h <;> trivial
theorem any_eq {ds : List D} {a : D} (h : nods ds = true) (ha : nod a = true) : (toPs ds).any (fun z => PyData.eqv z (toP a)) = ds.any fun d => eqD d a := by
  induction ds with
  | nil => rfl
  | cons d ds ih =>
    have h' : nod d = true ∧ nods ds = true := by simpa [nods] using h
    simp only [toPs, List.any_cons, eqD_ok d a h'.1 ha, ih h'.2]
theorem kv_find {κ : Type} [DecidableEq κ] {kvs : List (κ × V)} {vs : List (κ × Value)} (h : KV kvs vs) (k : κ) : (∀ u, valV kvs k = some u → ∃ y, PySem.valueAt vs k = some y ∧ RelV u y) ∧ (valV kvs k = none → PySem.valueAt vs k = none) := by
  induction h with
  | nil => exact ⟨fun u e => by simp [valV] at e, fun _ => rfl⟩
  | @cons p q kvs vs r t ih =>
    obtain ⟨p1, p2⟩ := p
    obtain ⟨q1, q2⟩ := q
    obtain ⟨r1, r2⟩ := r
    dsimp only at r1 r2
    subst r1
    by_cases e : p1 = k
    · subst e
      refine ⟨fun u eu => ⟨q2, by simp [PySem.valueAt], ?_⟩, fun en => ?_⟩
      · rw [valV_pos rfl] at eu; cases eu; exact r2
      · rw [valV_pos rfl] at en; cases en
    · have e1 : PySem.valueAt ((p1, q2) :: vs) k = PySem.valueAt vs k := by simp [PySem.valueAt, e]
      rw [e1, valV_neg e]
      exact ih
theorem dlook_nod {k : K1} {e : D} : ∀ {js : List K1} {es : List D}, dlook js es k = some e → nods es = true → nod e = true ∧ dep e ≤ deps es
  | [], [], h, _ => by simp [dlook] at h
  | [], _ :: _, h, _ => by simp [dlook] at h
  | _ :: _, [], h, _ => by simp [dlook] at h
  | j :: js, f :: es, h, ne => by
    have ne' : nod f = true ∧ nods es = true := by simpa [nods] using ne
    simp only [dlook] at h
    simp only [deps]
    split at h
    · cases h; exact ⟨ne'.1, by omega⟩
    · have := dlook_nod h ne'.2
      exact ⟨this.1, by omega⟩
theorem hitsK {pins : List (Addr × PySem.Obj)} {s : Shared} {σ : L2.St} {H : Hp} (I : Inv X pins σ H s) {A : Around} {js : List K1} {es : List D} {ws : List V} {vb : List (Key × Value)} (hjl : js.length = es.length) (hb : Dens X.K H es ws) (kb : KV ((js.map kk).zip ws) vb) (ne : nods es = true) (hu : A.units + 160 < cLine) :
    ∀ {ks : List K1} {ds : List D} {us : List V} {va : List (Key × Value)}, ks.length = ds.length → Dens X.K H ds us → KV ((ks.map kk).zip us) va → nods ds = true → min (deps ds) (deps es) ≤ 150 → PySem.W.KeqHits A s vb va (eqKs ks ds js es)
  | [], [], us, va, _, q, k, _, _ => by
    rw [Dens.nil.mp q] at k
    cases k
    simp only [eqKs]
    exact .nil
  | [], _ :: _, _, _, h, _, _, _, _ => by simp at h
  | _ :: _, [], _, _, h, _, _, _, _ => by simp at h
  | k :: ks, d :: ds, us, va, hl, q, kv, nd, hd => by
    obtain ⟨u, us', rfl, qa, qb⟩ := Dens.cons.mp q
    have nd' : nod d = true ∧ nods ds = true := by simpa [nods] using nd
    have hde : dep d ≤ deps (d :: ds) ∧ deps ds ≤ deps (d :: ds) := by simp only [deps]; omega
    cases kv with
    | @cons _ y _ ys r t =>
      obtain ⟨y1, y2⟩ := y
      obtain ⟨r1, r2⟩ := r
      dsimp only at r1 r2
      subst r1
      have ih := hitsK I hjl hb kb ne hu (ks := ks) (ds := ds) (us := us') (va := ys) (by simpa using hl) qb t nd'.2 (by omega)
      simp only [eqKs]
      rcases dlook_zip (g := kk) (fun _ _ => kk_inj) k hjl hb with ⟨e, x, h1, h2, h3⟩ | ⟨h1, h2⟩
      · rw [h1]
        obtain ⟨z, hz, rz⟩ := (kv_find kb (kk k)).1 x h2
        have hm := dlook_nod h1 ne
        obtain ⟨as1, R1⟩ := Dp.reads I _ u y2 (den_dp (fun _ _ h => h) d u nd'.1 qa) r2
        obtain ⟨as2, R2⟩ := Dp.reads I _ x z (den_dp (fun _ _ h => h) e x hm.1 h3) rz
        have hq := SeqAt.eqAt_plain (toP d) (toP e) A s y2 z as1 as2 R1 R2 (toP_plain d nd'.1) (toP_plain e hm.1) (by have := toP_dep d; have := toP_dep e; omega)
        rw [eqD_ok d e nd'.1 hm.1] at hq
        exact .hit hz hq ih
      · rw [h1]
        dsimp only
        rw [Bool.false_and]
        exact .miss ((kv_find kb (kk k)).2 h2)
def rEqK (K : PySem.W.Frag) (neg : Bool) (a b : D) : R2 := fun x y H Q => eqOkK a b = true ∧ Den K H a x ∧ Den K H b y ∧ Q (.bl (if neg then !eqD a b else eqD a b)) H
theorem op_eqK (hu : X.A.units + 200 < cLine) (a b : D) (neg : Bool) : OpR X (compareOp (if neg then .NotEq else .Eq)) (rEqK X.K neg a b) := by
  intro pins s σ H x y v u Q I rx ry h
  obtain ⟨hc, ha, hb, q⟩ := h
  unfold eqOkK at hc
  split at hc
  case h_2 => cases hc
  rename_i ks ds js es
  simp only [Bool.and_eq_true, decide_eq_true_eq] at hc
  obtain ⟨⟨⟨⟨n1, n2⟩, l1⟩, l2⟩, hd⟩ := hc
  obtain ⟨p, us, rfl, g1, _, q1⟩ := Den.dK_iff.mp ha
  obtain ⟨p', ws, rfl, g2, _, q2⟩ := Den.dK_iff.mp hb
  obtain rfl : v = Value.ref p := rx
  obtain rfl : u = Value.ref p' := ry
  obtain ⟨_, ya, va, ra, da⟩ := (show ObjOk X.prog X.w H s.heap p (.dK _) from g1.ok I.hok)
  obtain ⟨_, yb, vb, rb, db⟩ := (show ObjOk X.prog X.w H s.heap p' (.dK _) from g2.ok I.hok)
  have ea : va.length = ks.length := by rw [← ra.length, List.length_zip, List.length_map, q1.length, ← l1, Nat.min_self]
  have eb : vb.length = js.length := by rw [← rb.length, List.length_zip, List.length_map, q2.length, ← l2, Nat.min_self]
  have hits := hitsK I (A := X.A.in1) l2 q2 rb n2 (by show X.A.units + 1 + 160 < cLine; omega) l1 q1 ra n1 hd
  cases neg
  · refine PySem.W.keq_eq (knd := mixKind X.prog X.w) ya yb da db (by omega) (fun _ => hits) ⟨.bl _, H, I, rfl, ?_⟩
    rw [ea, eb]
    exact q
  · refine PySem.W.keq_ne (knd := mixKind X.prog X.w) ya yb da db (by omega) (fun _ => hits) ⟨.bl _, H, I, rfl, ?_⟩
    rw [ea, eb]
    exact q
end
theorem eqOkT_eq {a b : D} (h : eqOkT a b = true) : eqD a b = true := by
  simp only [eqOkT, Bool.and_eq_true] at h
  exact h.1.2
theorem eqOkL_eq {a b : D} (h : eqOkL a b = true) : (!eqD a b) = false := by
  unfold eqOkL at h
  split at h
  · rw [eqOkT_eq h]; rfl
  · rw [eqOkT_eq h]; rfl
  · cases h
theorem dlook_okT {k : K1} {e : D} : ∀ {js : List K1} {es : List D}, dlook js es k = some e → okTs es = true → okT e = true
  | [], [], h, _ => by simp [dlook] at h
  | [], _ :: _, h, _ => by simp [dlook] at h
  | _ :: _, [], h, _ => by simp [dlook] at h
  | j :: js, f :: es, h, ne => by
    simp only [okTs, Bool.and_eq_true] at ne
    simp only [dlook] at h
    split at h
    · cases h; exact ne.1
    · exact dlook_okT h ne.2
section
variable {X : Cx}
section
variable {pins : List (Addr × PySem.Obj)} {s : Shared} {σ : L2.St} {H : Hp}
theorem leafT (I : Inv X pins σ H s) {a b : D} {x y : V} {v u : Value} {n : Nat} (hn : 4 ≤ n) (ha : nod a = true) (hb : nod b = true) (da : dep a ≤ 2) (e : eqD a b = true) (qa : Den X.K H a x) (qb : Den X.K H b y) (rx : RelV x v) (ry : RelV y u) : PySem.W.EqTree X.prog X.w s n v u true := by
  obtain ⟨as1, R1⟩ := Dp.reads I _ x v (den_dp (fun _ _ h => h) a x ha qa) rx
  obtain ⟨as2, R2⟩ := Dp.reads I _ y u (den_dp (fun _ _ h => h) b y hb qb) ry
  refine .leaf fun A hu => ?_
  have hq := SeqAt.eqAt_plain (toP a) (toP b) A s v u as1 as2 R1 R2 (toP_plain a ha) (toP_plain b hb) (by have := toP_dep a; omega)
  rw [eqD_ok a b ha hb, e] at hq
  exact hq
theorem allT {n : Nat} : ((List.range n).all fun _ => true) = true := List.all_eq_true.mpr fun _ _ => rfl
theorem neLoop {P : Program} {w : World} {p q : Addr} {us vs : Array Value} {n m : Nat} {du dv : Option Addr} {ku kv : Array (Option Value)} (hs : us.size = vs.size) (k : Nat) : ∀ i : Nat, us.size - i = k → MeetsIn P w (Builtin.«list.__eq__.loop» ⟨[.ref p, .ref q, rawInt i, rawInt 3], []⟩)
    (fun A R s => s.heap.get? p = some ⟨.type "list", du, .seq us n, ku⟩ ∧ s.heap.get? q = some ⟨.type "list", dv, .seq vs m, kv⟩ ∧ (∀ j (h1 : j < us.size) (h2 : j < vs.size), SeqAt.EqIn P w A.in1 s us[j] vs[j] true) ∧ R (.ok (.ret (.bool false))) s) := by
  induction k with
  | zero =>
    rintro i hk A R ⟨hp, g, d, tk, os⟩ ⟨hl, hb, _, hr⟩
    wp_walk using AutoSeq1.wpAny_loadPart' hl, AutoSeq1.wpAny_loadPart' hb
    rw [Array.getElem?_eq_none (by simp; omega : us.size ≤ ((i : Nat) : Int).toNat), Array.getElem?_eq_none (by simp; omega : vs.size ≤ ((i : Nat) : Int).toNat)]
    wp_walk using AutoSeq1.wpAny_loadPart' hl, AutoSeq1.wpAny_loadPart' hb
    rw [hs]
    show R (.ok (.ret (.bool (vs.size != vs.size)))) _
    simpa using hr
  | succ k ih =>
    rintro i hk A R ⟨hp, g, d, tk, os⟩ ⟨hl, hb, he, hr⟩
    wp_walk using AutoSeq1.wpAny_loadPart' hl, AutoSeq1.wpAny_loadPart' hb
    have c1 : i < us.size := by omega
    have c2 : i < vs.size := by omega
    rw [show us[((i : Nat) : Int).toNat]? = some us[i] by simp [c1], show vs[((i : Nat) : Int).toNat]? = some vs[i] by simp [c2]]
    refine wpAny_bind (he i c1 c2 _ _ ?_)
    wp_walk
    rw [show ((i : Int) + 1) = ((i + 1 : Nat) : Int) by push_cast; rfl]
    exact ⟨plainId_quiet MeetsSeq3.plain_eq_loop _, codeAny_builtin MeetsSeq3.entry_eq_loop (by
      rw [Around.under_plainId MeetsSeq3.plain_eq_loop _]
      exact ih (i + 1) (by omega) A R _ ⟨hl, hb, he, hr⟩)⟩
theorem neLists {P : Program} {w : World} {A : Around} {s : Shared} {p q : Addr} {us vs : Array Value} {E Q : Value → Shared → Prop} (hp : s.heap.IsList p us) (hq : s.heap.IsList q vs) (hs : us.size = vs.size) (hu : A.units < cLine)
    (he : ∀ j (h1 : j < us.size) (h2 : j < vs.size), SeqAt.EqIn P w A.in1 s us[j] vs[j] true) (h : Q (.bool false) s) : wpAny (model P w) A (richCompare .NotEq (.ref p) (.ref q)) Q E s := by
  obtain ⟨⟨c1, d1, a1, k1⟩, o1, rfl, n, rfl⟩ := hp
  obtain ⟨⟨c2, d2, a2, k2⟩, o2, rfl, m, rfl⟩ := hq
  have body : MeetsIn P w (Builtin.«list.__ne__» ⟨[.ref p, .ref q], []⟩) (fun A R s => s.heap.get? p = some ⟨.type "list", d1, .seq us n, k1⟩ ∧ s.heap.get? q = some ⟨.type "list", d2, .seq vs m, k2⟩ ∧ (∀ j (h1 : j < us.size) (h2 : j < vs.size), SeqAt.EqIn P w A.in1 s us[j] vs[j] true) ∧ R (.ok (.ret (.bool false))) s) := by
    rintro A R ⟨hp, g, d, tk, os⟩ ⟨hl, hb, he, hr⟩
    have sub := AutoSeq1.sub_list_list
    have ne : ¬ (us.size != vs.size) = true := by simp [hs]
    wp_walk using AutoSeq1.wpAny_loadPart' hl, AutoSeq1.wpAny_loadPart' hb
    exact ⟨plainId_quiet MeetsSeq3.plain_eq_loop _, codeAny_builtin MeetsSeq3.entry_eq_loop (by
      rw [Around.under_plainId MeetsSeq3.plain_eq_loop _]
      exact neLoop hs _ 0 rfl A R _ ⟨hl, hb, he, hr⟩)⟩
  exact wpAny_richCompare_same_room (T := "list") (op := .NotEq) ⟨_, o1, rfl⟩ ⟨_, o2, rfl⟩ F.slot_list_ne (call_meetsIn F.slot_list_ne ⟨_, o1, rfl⟩ F.entry_list_ne (F.args_list_ne_2 _ _) body ⟨o1, o2, he, show Value.bool false ≠ Value.notImplemented ∧ Q (.bool false) s from ⟨(fun x => nomatch x), h⟩⟩) hu
theorem neTuples {P : Program} {w : World} {A : Around} {s : Shared} {p q : Addr} {us vs : Array Value} {E Q : Value → Shared → Prop} (hp : s.heap.IsTuple p us) (hq : s.heap.IsTuple q vs) (hs : us.size = vs.size) (hu : A.units < cLine)
    (he : ∀ j (h1 : j < us.size) (h2 : j < vs.size), SeqAt.EqIn P w A.in1 s us[j] vs[j] true) (h : Q (.bool false) s) : wpAny (model P w) A (richCompare .NotEq (.ref p) (.ref q)) Q E s := by
  obtain ⟨⟨c1, d1, a1, k1⟩, o1, rfl, n, rfl⟩ := hp
  obtain ⟨⟨c2, d2, a2, k2⟩, o2, rfl, m, rfl⟩ := hq
  have body : MeetsIn P w (Builtin.«tuple.__ne__» ⟨[.ref p, .ref q], []⟩) (fun A R s => s.heap.get? p = some ⟨.type "tuple", d1, .seq us n, k1⟩ ∧ s.heap.get? q = some ⟨.type "tuple", d2, .seq vs m, k2⟩ ∧ (∀ j (h1 : j < us.size) (h2 : j < vs.size), SeqAt.EqIn P w A.in1 s us[j] vs[j] true) ∧ R (.ok (.ret (.bool false))) s) :=
    .of_wp fun A R s0 h0 => by
      obtain ⟨hp, g, d, tk, os⟩ := s0
      obtain ⟨g1, g2, ge, gr⟩ := h0
      have sub := AutoSeq1.sub_tuple_tuple
      have len : (us.toList.zip vs.toList).length = us.size := by simp [hs]
      wp_walk using AutoSeq1.wpAny_loadPart' g1, AutoSeq1.wpAny_loadPart' g2, wpAny_forIn_list _ (fun r c z => c.1 = none ∧ z = ⟨hp, g, d, tk, os⟩ ∧ ∃ i, r = (us.toList.zip vs.toList).drop i) _
      case turn =>
        rintro ⟨y, x⟩ r c z ⟨hc, rfl, i, hi⟩
        have il : i < us.size := by
          rcases Nat.lt_or_ge i us.size with h' | h'
          · exact h'
          · rw [List.drop_of_length_le (by rw [len]; exact h')] at hi
            cases hi
        have iv : i < vs.size := by omega
        rw [List.drop_eq_getElem_cons (by rw [len]; exact il)] at hi
        obtain ⟨e1, e2⟩ := List.cons.inj hi
        have ey : y = us[i] := by simpa using congrArg Prod.fst e1
        have ex : x = vs[i] := by simpa using congrArg Prod.snd e1
        rw [ey, ex]
        refine wpAny_bind (ge i il iv _ _ ?_)
        wp_walk
        exact ⟨rfl, rfl, i + 1, e2⟩
      case fin =>
        rintro ⟨c1, c2⟩ z ⟨hc, rfl, i, hi⟩
        dsimp only at hc
        subst hc
        wp_walk
        exact ⟨_, rfl, by simpa [Builtin.Tuple.tupleCompareSizes, hs] using gr⟩
      case h => exact ⟨rfl, rfl, 0, rfl⟩
  exact wpAny_richCompare_same_room (T := "tuple") (op := .NotEq) ⟨_, o1, rfl⟩ ⟨_, o2, rfl⟩ F.slot_tuple_ne (call_meetsIn F.slot_tuple_ne ⟨_, o1, rfl⟩ F.entry_tuple_ne (F.args_tuple_ne_2 _ _) body ⟨o1, o2, he, show Value.bool false ≠ Value.notImplemented ∧ Q (.bool false) s from ⟨(fun x => nomatch x), h⟩⟩) hu
theorem eqLens {P : Program} {w : World} {A : Around} {s : Shared} {p q : Addr} {us vs : Array Value} {E Q : Value → Shared → Prop} (hp : s.heap.IsList p us) (hq : s.heap.IsList q vs) (hs : us.size ≠ vs.size) (hu : A.units < cLine) (h : Q (.bool false) s) : wpAny (model P w) A (richCompare .Eq (.ref p) (.ref q)) Q E s := by
  obtain ⟨⟨c1, d1, a1, k1⟩, o1, rfl, n, rfl⟩ := hp
  obtain ⟨⟨c2, d2, a2, k2⟩, o2, rfl, m, rfl⟩ := hq
  have body : MeetsIn P w (Builtin.«list.__eq__» ⟨[.ref p, .ref q], []⟩) (fun A R s => s.heap.get? p = some ⟨.type "list", d1, .seq us n, k1⟩ ∧ s.heap.get? q = some ⟨.type "list", d2, .seq vs m, k2⟩ ∧ R (.ok (.ret (.bool false))) s) :=
    .of_wp fun A R s0 h0 => by
      obtain ⟨hp, g, d, tk, os⟩ := s0
      obtain ⟨g1, g2, gr⟩ := h0
      have sub := AutoSeq1.sub_list_list
      have ne : (us.size != vs.size) = true := by simp [hs]
      wp_walk using AutoSeq1.wpAny_loadPart' g1, AutoSeq1.wpAny_loadPart' g2
      exact ⟨_, rfl, gr⟩
  exact wpAny_richCompare_same_room (T := "list") (op := .Eq) ⟨_, o1, rfl⟩ ⟨_, o2, rfl⟩ F.slot_list_eq (call_meetsIn F.slot_list_eq ⟨_, o1, rfl⟩ F.entry_list_eq (F.args_list_eq_2 _ _) body ⟨o1, o2, show Value.bool false ≠ Value.notImplemented ∧ Q (.bool false) s from ⟨(fun x => nomatch x), h⟩⟩) hu
mutual
theorem treeT (I : Inv X pins σ H s) : ∀ (a b : D) {x y : V} {v u : Value} {n : Nat}, depT a + 4 ≤ n → okT a = true → okT b = true → eqD a b = true → Den X.K H a x → Den X.K H b y → RelV x v → RelV y u → PySem.W.EqTree X.prog X.w s n v u true
  | .non, b, x, y, v, u, n, hn, ha, hb, e, qa, qb, rx, ry => leafT I (by omega) rfl (by cases b <;> simp_all [eqD, nod]) (by simp [dep]) e qa qb rx ry
  | .bl _, b, x, y, v, u, n, hn, ha, hb, e, qa, qb, rx, ry => leafT I (by omega) rfl (by cases b <;> simp_all [eqD, nod]) (by simp [dep]) e qa qb rx ry
  | .int _, b, x, y, v, u, n, hn, ha, hb, e, qa, qb, rx, ry => leafT I (by omega) rfl (by cases b <;> simp_all [eqD, nod]) (by simp [dep]) e qa qb rx ry
  | .str _, b, x, y, v, u, n, hn, ha, hb, e, qa, qb, rx, ry => leafT I (by omega) rfl (by cases b <;> simp_all [eqD, nod]) (by simp [dep]) e qa qb rx ry
  | .scr _, _, _, _, _, _, _, _, ha, _, _, _, _, _, _ => by simp [okT] at ha
  | .exc _ _ _, _, _, _, _, _, _, _, ha, _, _, _, _, _, _ => by simp [okT] at ha
  | .dT _ _, _, _, _, _, _, _, _, ha, _, _, _, _, _, _ => by simp [okT] at ha
  | .tup xs, b, x, y, v, u, n, hn, ha, hb, e, qa, qb, rx, ry => by
    cases b <;> simp only [eqD] at e <;> first | cases e | skip
    rename_i ys
    obtain ⟨p, us, rfl, g1, q1⟩ := Den.tup_iff.mp qa
    obtain ⟨p', ws, rfl, g2, q2⟩ := Den.tup_iff.mp qb
    obtain rfl : v = Value.ref p := rx
    obtain rfl : u = Value.ref p' := ry
    by_cases hp : p = p'
    · subst hp; exact .same
    obtain ⟨vs, r1, t1, _⟩ := I.tuple (.inl g1.rd)
    obtain ⟨vs', r2, t2, _⟩ := I.tuple (.inl g2.rd)
    simp only [depT] at hn
    match n, hn with
    | n + 1, hn =>
      obtain ⟨hsz, hj⟩ := treesT I xs ys (n := n) (by omega) (by simpa [okT] using ha) (by simpa [okT] using hb) e q1 q2 r1 r2
      have := PySem.W.EqTree.tuples (prog := X.prog) (w := X.w) (s := s) (n := n) (e := fun _ => true) hp t1 t2 (fun j h1 h2 => by simpa using hj j (by simpa using h1) (by simpa using h2))
      rw [allT] at this
      simpa [hsz] using this
  | .lst xs, b, x, y, v, u, n, hn, ha, hb, e, qa, qb, rx, ry => by
    cases b <;> simp only [eqD] at e <;> first | cases e | skip
    · rename_i ys
      obtain ⟨p, us, rfl, g1, q1⟩ := Den.lst_iff.mp qa
      obtain ⟨p', ws, rfl, g2, q2⟩ := Den.lst_iff.mp qb
      obtain rfl : v = Value.ref p := rx
      obtain rfl : u = Value.ref p' := ry
      by_cases hp : p = p'
      · subst hp; exact .same
      obtain ⟨vs, r1, t1, _⟩ := I.list (.inl (.of g1))
      obtain ⟨vs', r2, t2, _⟩ := I.list (.inl (.of g2))
      simp only [depT] at hn
      match n, hn with
      | n + 1, hn =>
        obtain ⟨hsz, hj⟩ := treesT I xs ys (n := n) (by omega) (by simpa [okT] using ha) (by simpa [okT] using hb) e q1 q2 r1 r2
        have := PySem.W.EqTree.lists (prog := X.prog) (w := X.w) (s := s) (n := n) (e := fun _ => true) hp t1.isList t2.isList (by simpa using hsz) (fun j h1 h2 => by simpa using hj j (by simpa using h1) (by simpa using h2))
        rw [allT] at this
        exact this
    · simp [okT] at hb
  | .dK ks ds, b, x, y, v, u, n, hn, ha, hb, e, qa, qb, rx, ry => by
    cases b <;> simp only [eqD] at e <;> first | cases e | skip
    rename_i js es
    rw [Bool.and_eq_true, beq_iff_eq] at e
    obtain ⟨e1, e2⟩ := e
    obtain ⟨p, us, rfl, g1, l1, q1⟩ := Den.dK_iff.mp qa
    obtain ⟨p', ws, rfl, g2, l2, q2⟩ := Den.dK_iff.mp qb
    obtain rfl : v = Value.ref p := rx
    obtain rfl : u = Value.ref p' := ry
    by_cases hp : p = p'
    · subst hp; exact .same
    obtain ⟨_, ya, va, ra, da⟩ := (show ObjOk X.prog X.w H s.heap p (.dK _) from g1.ok I.hok)
    obtain ⟨_, yb, vb, rb, db⟩ := (show ObjOk X.prog X.w H s.heap p' (.dK _) from g2.ok I.hok)
    have ea : va.length = ks.length := by rw [← ra.length, List.length_zip, List.length_map, q1.length, ← l1, Nat.min_self]
    have eb : vb.length = js.length := by rw [← rb.length, List.length_zip, List.length_map, q2.length, ← l2, Nat.min_self]
    simp only [depT] at hn
    match n, hn with
    | n + 1, hn =>
      have hh := hitsT I l2 q2 rb (by simpa [okT] using hb) ks ds (n := n) (by omega) l1 q1 ra (by simpa [okT] using ha) e2
      have := PySem.W.EqTree.dicts (prog := X.prog) (w := X.w) (s := s) (n := n) (e := fun _ => true) hp ya yb da db (fun k v y hm hv => (hh (k, v) hm).2 y hv)
      have h2 : (va.all fun p => (PySem.valueAt vb p.1).isSome && true) = true := List.all_eq_true.mpr fun q hq => by
        rw [Bool.and_true]
        exact (hh q hq).1
      rw [h2, ea, eb, e1] at this
      simpa using this
theorem treesT (I : Inv X pins σ H s) : ∀ (as bs : List D) {xs ys : List V} {vs us : List Value} {n : Nat}, depTs as + 4 ≤ n → okTs as = true → okTs bs = true → eqDs as bs = true → Dens X.K H as xs → Dens X.K H bs ys → Vals xs vs → Vals ys us → vs.length = us.length ∧ ∀ j (h1 : j < vs.length) (h2 : j < us.length), PySem.W.EqTree X.prog X.w s n vs[j] us[j] true
  | [], [], _, _, _, _, _, _, _, _, _, qa, qb, rx, ry => by
    rw [Dens.nil.mp qa] at rx
    rw [Dens.nil.mp qb] at ry
    cases rx
    cases ry
    exact ⟨rfl, fun j h1 _ => absurd h1 (Nat.not_lt_zero j)⟩
  | [], _ :: _, _, _, _, _, _, _, _, _, e, _, _, _, _ => by simp [eqDs] at e
  | _ :: _, [], _, _, _, _, _, _, _, _, e, _, _, _, _ => by simp [eqDs] at e
  | a :: as, b :: bs, xs, ys, vs, us, n, hn, ha, hb, e, qa, qb, rx, ry => by
    obtain ⟨x, xs', rfl, qa1, qa2⟩ := Dens.cons.mp qa
    obtain ⟨y, ys', rfl, qb1, qb2⟩ := Dens.cons.mp qb
    simp only [okTs, Bool.and_eq_true] at ha hb
    simp only [eqDs, Bool.and_eq_true] at e
    simp only [depTs] at hn
    cases rx with
    | cons r1 r2 =>
      cases ry with
      | cons s1 s2 =>
        have t1 := treeT I a b (n := n) (by omega) ha.1 hb.1 e.1 qa1 qb1 r1 s1
        obtain ⟨t2, t3⟩ := treesT I as bs (n := n) (by omega) ha.2 hb.2 e.2 qa2 qb2 r2 s2
        refine ⟨by simp [t2], fun j h1 h2 => ?_⟩
        cases j with
        | zero => exact t1
        | succ j => exact t3 j (by simpa using h1) (by simpa using h2)
theorem hitsT (I : Inv X pins σ H s) {js : List K1} {es : List D} {ws : List V} {vb : List (Key × Value)} (hjl : js.length = es.length) (qb : Dens X.K H es ws) (kb : KV ((js.map kk).zip ws) vb) (hb : okTs es = true) : ∀ (ks : List K1) (ds : List D) {us : List V} {va : List (Key × Value)} {n : Nat}, depTs ds + 4 ≤ n → ks.length = ds.length → Dens X.K H ds us → KV ((ks.map kk).zip us) va → okTs ds = true → eqKs ks ds js es = true → ∀ q ∈ va, (PySem.valueAt vb q.1).isSome = true ∧ ∀ y, PySem.valueAt vb q.1 = some y → PySem.W.EqTree X.prog X.w s n q.2 y true
  | [], _, _, _, _, _, _, _, kv, _, _ => by
    simp only [List.map_nil, List.zip_nil_left] at kv
    cases kv
    exact fun q h => (List.not_mem_nil h).elim
  | _ :: _, [], _, _, _, _, hl, _, _, _, _ => by simp at hl
  | k :: ks, d :: ds, us, va, n, hn, hl, q, kv, hd, e => by
    obtain ⟨u, us', rfl, qa, qd⟩ := Dens.cons.mp q
    simp only [okTs, Bool.and_eq_true] at hd
    simp only [depTs] at hn
    simp only [eqKs, Bool.and_eq_true] at e
    cases kv with
    | @cons _ y _ zs r t =>
      obtain ⟨y1, y2⟩ := y
      obtain ⟨r1, r2⟩ := r
      dsimp only at r1 r2
      subst r1
      have ih := hitsT I hjl qb kb hb ks ds (n := n) (by omega) (by simpa using hl) qd t hd.2 e.2
      intro q hq
      rcases List.mem_cons.mp hq with rfl | hq
      · rcases dlook_zip (g := kk) (fun _ _ => kk_inj) k hjl qb with ⟨f, x, h1, h2, h3⟩ | ⟨h1, h2⟩
        · obtain ⟨z, hz, rz⟩ := (kv_find kb (kk k)).1 x h2
          have e1 := e.1
          rw [h1] at e1
          dsimp only at e1 ⊢
          refine ⟨by rw [hz]; rfl, fun y hy => ?_⟩
          rw [hz] at hy
          cases hy
          exact treeT I d f (by omega) hd.1 (dlook_okT h1 hb) e1 qa h3 r2 rz
        · have e1 := e.1
          rw [h1] at e1
          cases e1
      · exact ih q hq
end
end
def rEqT (K : PySem.W.Frag) (a b : D) (r : Bool) : R2 := fun x y H Q => Den K H a x ∧ Den K H b y ∧ Q (.bl r) H
theorem op_eqT (hu : X.A.units + 200 < cLine) (a b : D) (h0 : eqOkT a b = true) : OpR X (compareOp .Eq) (rEqT X.K a b true) := by
  intro pins s σ H x y v u Q I rx ry h
  obtain ⟨qa, qb, q⟩ := h
  have fin : EP X pins σ Q (Value.bool true) s := ⟨.bl true, H, I, rfl, q⟩
  simp only [eqOkT, Bool.and_eq_true, decide_eq_true_eq] at h0
  obtain ⟨⟨⟨⟨ha, hb⟩, hd⟩, e⟩, ht⟩ := h0
  cases a <;> first | cases ht | skip
  · rename_i xs
    cases b <;> simp only [eqD] at e <;> first | cases e | skip
    rename_i ys
    obtain ⟨p, us, rfl, g1, q1⟩ := Den.tup_iff.mp qa
    obtain ⟨p', ws, rfl, g2, q2⟩ := Den.tup_iff.mp qb
    obtain rfl : v = Value.ref p := rx
    obtain rfl : u = Value.ref p' := ry
    obtain ⟨vs, r1, t1, _⟩ := I.tuple (.inl g1.rd)
    obtain ⟨vs', r2, t2, _⟩ := I.tuple (.inl g2.rd)
    simp only [depT] at hd
    obtain ⟨hsz, hj⟩ := treesT I xs ys (n := 160) (by omega) (by simpa [okT] using ha) (by simpa [okT] using hb) e q1 q2 r1 r2
    refine PySem.W.eq_tuplesT (n := 160) (e := fun _ => true) t1 t2 (fun j h1 h2 => by simpa using hj j (by simpa using h1) (by simpa using h2)) (by omega) ?_
    rw [allT]
    simpa [hsz] using fin
  · rename_i xs
    cases b <;> simp only [eqD] at e <;> first | cases e | skip
    · rename_i ys
      obtain ⟨p, us, rfl, g1, q1⟩ := Den.lst_iff.mp qa
      obtain ⟨p', ws, rfl, g2, q2⟩ := Den.lst_iff.mp qb
      obtain rfl : v = Value.ref p := rx
      obtain rfl : u = Value.ref p' := ry
      obtain ⟨vs, r1, t1, _⟩ := I.list (.inl (.of g1))
      obtain ⟨vs', r2, t2, _⟩ := I.list (.inl (.of g2))
      simp only [depT] at hd
      obtain ⟨hsz, hj⟩ := treesT I xs ys (n := 160) (by omega) (by simpa [okT] using ha) (by simpa [okT] using hb) e q1 q2 r1 r2
      refine PySem.W.eq_listsT (n := 160) (e := fun _ => true) t1.isList t2.isList (by simpa using hsz) (fun j h1 h2 => by simpa using hj j (by simpa using h1) (by simpa using h2)) (by omega) ?_
      rw [allT]
      exact fin
    · simp [okT] at hb
  · rename_i ks ds
    cases b <;> simp only [eqD] at e <;> first | cases e | skip
    rename_i js es
    rw [Bool.and_eq_true, beq_iff_eq] at e
    obtain ⟨e1, e2⟩ := e
    obtain ⟨p, us, rfl, g1, l1, q1⟩ := Den.dK_iff.mp qa
    obtain ⟨p', ws, rfl, g2, l2, q2⟩ := Den.dK_iff.mp qb
    obtain rfl : v = Value.ref p := rx
    obtain rfl : u = Value.ref p' := ry
    obtain ⟨_, ya, va, ra, da⟩ := (show ObjOk X.prog X.w H s.heap p (.dK _) from g1.ok I.hok)
    obtain ⟨_, yb, vb, rb, db⟩ := (show ObjOk X.prog X.w H s.heap p' (.dK _) from g2.ok I.hok)
    have ea : va.length = ks.length := by rw [← ra.length, List.length_zip, List.length_map, q1.length, ← l1, Nat.min_self]
    have eb : vb.length = js.length := by rw [← rb.length, List.length_zip, List.length_map, q2.length, ← l2, Nat.min_self]
    simp only [depT] at hd
    have hh := hitsT I l2 q2 rb (by simpa [okT] using hb) ks ds (n := 160) (by omega) l1 q1 ra (by simpa [okT] using ha) e2
    refine PySem.W.eq_dictsT (n := 160) (e := fun _ => true) ya yb da db (fun k v y hm hv => (hh (k, v) hm).2 y hv) (by omega) ?_
    have h2 : (va.all fun p => (PySem.valueAt vb p.1).isSome && true) = true := List.all_eq_true.mpr fun q hq => by
      rw [Bool.and_true]
      exact (hh q hq).1
    rw [h2, ea, eb, e1]
    simpa using fin
theorem op_neT (hu : X.A.units + 200 < cLine) (a b : D) (h0 : eqOkL a b = true) : OpR X (compareOp .NotEq) (rEqT X.K a b false) := by
  intro pins s σ H x y v u Q I rx ry h
  obtain ⟨qa, qb, q⟩ := h
  cases a <;> first | cases h0 | skip
  · rename_i xs
    simp only [eqOkL, eqOkT, Bool.and_eq_true, decide_eq_true_eq] at h0
    obtain ⟨⟨⟨⟨ha, hb⟩, hd⟩, e⟩, _⟩ := h0
    cases b <;> simp only [eqD] at e <;> first | cases e | skip
    rename_i ys
    obtain ⟨p, us, rfl, g1, q1⟩ := Den.tup_iff.mp qa
    obtain ⟨p', ws, rfl, g2, q2⟩ := Den.tup_iff.mp qb
    obtain rfl : v = Value.ref p := rx
    obtain rfl : u = Value.ref p' := ry
    obtain ⟨vs, r1, t1, _⟩ := I.tuple (.inl g1.rd)
    obtain ⟨vs', r2, t2, _⟩ := I.tuple (.inl g2.rd)
    simp only [depT] at hd
    obtain ⟨hsz, hj⟩ := treesT I xs ys (n := 160) (by omega) (by simpa [okT] using ha) (by simpa [okT] using hb) e q1 q2 r1 r2
    exact neTuples t1 t2 (by simpa using hsz) (by omega) (fun j h1 h2 => (show PySem.W.EqTree X.prog X.w s 160 _ _ true by simpa using hj j (by simpa using h1) (by simpa using h2)).at _ (by show X.A.units + 1 + 160 < cLine; omega)) ⟨.bl false, H, I, rfl, q⟩
  rename_i xs
  simp only [eqOkL, eqOkT, Bool.and_eq_true, decide_eq_true_eq] at h0
  obtain ⟨⟨⟨⟨ha, hb⟩, hd⟩, e⟩, _⟩ := h0
  cases b <;> simp only [eqD] at e <;> first | cases e | skip
  · rename_i ys
    obtain ⟨p, us, rfl, g1, q1⟩ := Den.lst_iff.mp qa
    obtain ⟨p', ws, rfl, g2, q2⟩ := Den.lst_iff.mp qb
    obtain rfl : v = Value.ref p := rx
    obtain rfl : u = Value.ref p' := ry
    obtain ⟨vs, r1, t1, _⟩ := I.list (.inl (.of g1))
    obtain ⟨vs', r2, t2, _⟩ := I.list (.inl (.of g2))
    simp only [depT] at hd
    obtain ⟨hsz, hj⟩ := treesT I xs ys (n := 160) (by omega) (by simpa [okT] using ha) (by simpa [okT] using hb) e q1 q2 r1 r2
    exact neLists t1.isList t2.isList (by simpa using hsz) (by omega) (fun j h1 h2 => (show PySem.W.EqTree X.prog X.w s 160 _ _ true by simpa using hj j (by simpa using h1) (by simpa using h2)).at _ (by show X.A.units + 1 + 160 < cLine; omega)) ⟨.bl false, H, I, rfl, q⟩
  · simp [okT] at hb
theorem op_eqE (hu : X.A.units + 200 < cLine) (a b : D) (h0 : eqOkE a b = true) : OpR X (compareOp .Eq) (rEqT X.K a b (eqD a b)) := by
  cases a <;> first | cases h0 | skip
  rename_i xs
  cases b <;> first | cases h0 | skip
  rename_i ys
  cases ys with
  | cons _ _ => cases h0
  | nil =>
    cases xs with
    | nil => exact op_eqT hu (.lst []) (.lst []) rfl
    | cons z zs =>
      intro pins s σ H x y v u Q I rx ry h
      obtain ⟨qa, qb, q⟩ := h
      obtain ⟨p, us, rfl, g1, q1⟩ := Den.lst_iff.mp qa
      obtain ⟨p', ws, rfl, g2, q2⟩ := Den.lst_iff.mp qb
      obtain rfl : v = Value.ref p := rx
      obtain rfl : u = Value.ref p' := ry
      obtain ⟨vs, r1, t1, _⟩ := I.list (.inl (.of g1))
      obtain ⟨vs', r2, t2, _⟩ := I.list (.inl (.of g2))
      have l1 := q1.length
      have l2 := q2.length
      have l3 := r1.length
      have l4 := r2.length
      simp only [List.length_cons, List.length_nil] at l1 l2
      exact eqLens t1.isList t2.isList (by simp only [List.size_toArray]; omega) (by omega) ⟨.bl false, H, I, rfl, q⟩
end
section
variable {X : Cx} {cs : Nat → Option Addr} {e e1 e2 e3 : Expr} {f f1 f2 f3 : Env → Sto → Option (Val × Sto)} {pos : Pos}
theorem snap_den {F B H : Hp} {as : List Addr} {st : Sto} (r : RSt X.K cs F B as st H) {v : Val} {u : V} {d : D} (h : snap st v = some d) (q : VOk X.K F B as v u) : Den X.K H d u := by
  rcases snap_top r h q with ⟨d', rfl, rfl, z⟩ | z
  · exact Den.mono r.fh _ _ z
  · cases d <;> first | exact z.elim | skip
    · obtain ⟨p, us, rfl, a, b⟩ := z
      exact Den.lst_iff.mpr ⟨p, us, rfl, a, Dens.mono r.fh _ _ b⟩
    · obtain ⟨p, us, rfl, a, l, b⟩ := z
      exact Den.dK_iff.mpr ⟨p, us, rfl, a, l, Dens.mono r.fh _ _ b⟩
    · obtain ⟨p, us, rfl, a, l, b⟩ := z
      exact Den.dT_iff.mpr ⟨p, us, rfl, a, l, Dens.mono r.fh _ _ b⟩
def copB : COp → CmpOp
  | .eq => .Eq | .ne => .NotEq | .lt => .Lt | .le => .LtE | .gt => .Gt | .ge => .GtE | .is => .Is | .isnot => .IsNot | .inn => .In | .notin => .NotIn
theorem none_ref {K : PySem.W.Frag} {F B : Hp} {as : List Addr} {v : Val} {u : V} (h : VOk K F B as v u) (n : ∀ d, v = .dat d → d ≠ .non) : u ≠ .non := by
  cases v with
  | dat d =>
    have n' := n d rfl
    intro e
    subst e
    cases d <;> simp [VOk, Den] at h n'
  | bor d =>
    intro e
    subst e
    cases d <;> first | exact h.elim | (obtain ⟨_, _, e, _⟩ := h; cases e)
  | ref l => obtain ⟨a, _, rfl⟩ := h; simp
  | tup _ _ _ => obtain ⟨p, _, _, _, rfl, _⟩ := h; simp
theorem in_rule (hu : X.A.units + 200 < cLine) {x y : Val} {st : Sto} {c : Bool} (h : cmpV.inV st x y = some c) (neg : Bool) : ∃ R : R2, OpR X (compareOp (if neg then .NotIn else .In)) R ∧
    ∀ (F B : Hp) (as : List Addr) (H : Hp) (u w : V) (Q : VK), RSt X.K cs F B as st H → VOk X.K F B as x u → VOk X.K F B as y w → Q (.bl (if neg then !c else c)) H → R u w H Q := by
  unfold cmpV.inV at h
  split at h
  · -- a sign in a text
    rename_i a b h1 h2
    split at h
    · rename_i z
      cases h
      cases neg
      · refine ⟨_, op_in_sign, fun F B as H u w Q r q1 q2 hq => ⟨z, S b, ?_, Den.str_iff.mp (snap_dat r h2 q2 trivial), by rw [S_cps]; exact hq⟩⟩
        have := Den.str_iff.mp (snap_dat r h1 q1 trivial)
        rw [this]; rfl
      · refine ⟨_, op_notIn_sign, fun F B as H u w Q r q1 q2 hq => ⟨z, S b, ?_, Den.str_iff.mp (snap_dat r h2 q2 trivial), by rw [S_cps]; exact hq⟩⟩
        have := Den.str_iff.mp (snap_dat r h1 q1 trivial)
        rw [this]; rfl
    · cases h
  · rename_i k ks ds h1 h2
    obtain ⟨k', hk, h⟩ := omap h
    subst h
    have fin : ∀ (F B : Hp) (as : List Addr) (H : Hp) (u w : V) (Q : VK), RSt X.K cs F B as st H → VOk X.K F B as x u → VOk X.K F B as y w → Q (.bl (if neg then !(dlook ks ds k').isSome else (dlook ks ds k').isSome)) H → rInDict neg u w H Q := fun F B as H u w Q r q1 q2 hq => by
      obtain ⟨a, o, e, g, z⟩ := get_dK r h2 q2 hk (snap_dat r h1 q1 (toK_scal hk))
      refine ⟨a, o, e, g, ?_⟩
      rcases z with ⟨d, x, e1, e2, _⟩ | ⟨e1, e2⟩
      · rw [e1] at hq; rw [e2]; exact hq
      · rw [e1] at hq; rw [e2]; exact hq
    cases neg
    · exact ⟨_, op_inDict (by omega), fin⟩
    · exact ⟨_, op_notInDict (by omega), fin⟩
  · rename_i k ks ds h1 h2
    obtain ⟨k', hk, h⟩ := omap h
    subst h
    have fin : ∀ (F B : Hp) (as : List Addr) (H : Hp) (u w : V) (Q : VK), RSt X.K cs F B as st H → VOk X.K F B as x u → VOk X.K F B as y w → Q (.bl (if neg then !(dlook ks ds k').isSome else (dlook ks ds k').isSome)) H → rInDict neg u w H Q := fun F B as H u w Q r q1 q2 hq => by
      obtain ⟨a, o, e, g, z⟩ := get_dT r h2 q2 hk (snap_dat r h1 q1 (toTK_scal hk))
      refine ⟨a, o, e, g, ?_⟩
      rcases z with ⟨d, x, e1, e2, _⟩ | ⟨e1, e2⟩
      · rw [e1] at hq; rw [e2]; exact hq
      · rw [e1] at hq; rw [e2]; exact hq
    cases neg
    · exact ⟨_, op_inDict (by omega), fin⟩
    · exact ⟨_, op_notInDict (by omega), fin⟩
  · rename_i a ds h1 h2
    split at h
    · rename_i hc
      cases h
      rw [Bool.and_eq_true, Bool.and_eq_true, decide_eq_true_eq] at hc
      have fin : ∀ (F B : Hp) (as : List Addr) (H : Hp) (u w : V) (Q : VK), RSt X.K cs F B as st H → VOk X.K F B as x u → VOk X.K F B as y w → Q (.bl (if neg then !(ds.any fun d => eqD d a) else ds.any fun d => eqD d a)) H → rInP X.K neg u w H Q := fun F B as H u w Q r q1 q2 hq =>
        ⟨toP a, toPs ds, snap_dp r h1 hc.1.1 q1, .inl (by have z := snap_dp r h2 (by simpa [nod] using hc.1.2) q2; simpa only [toP] using z), toP_plain a hc.1.1, toPs_plain ds hc.1.2, Nat.le_trans (toP_dep a) hc.2, by rw [any_eq hc.1.2 hc.1.1]; exact hq⟩
      cases neg
      · exact ⟨_, op_inP hu, fin⟩
      · exact ⟨_, op_notInP hu, fin⟩
    · cases h
  · rename_i a ds h1 h2
    split at h
    · rename_i hc
      cases h
      rw [Bool.and_eq_true, Bool.and_eq_true, decide_eq_true_eq] at hc
      have fin : ∀ (F B : Hp) (as : List Addr) (H : Hp) (u w : V) (Q : VK), RSt X.K cs F B as st H → VOk X.K F B as x u → VOk X.K F B as y w → Q (.bl (if neg then !(ds.any fun d => eqD d a) else ds.any fun d => eqD d a)) H → rInP X.K neg u w H Q := fun F B as H u w Q r q1 q2 hq =>
        ⟨toP a, toPs ds, snap_dp r h1 hc.1.1 q1, .inr (by have z := snap_dp r h2 (by simpa [nod] using hc.1.2) q2; simpa only [toP] using z), toP_plain a hc.1.1, toPs_plain ds hc.1.2, Nat.le_trans (toP_dep a) hc.2, by rw [any_eq hc.1.2 hc.1.1]; exact hq⟩
      cases neg
      · exact ⟨_, op_inP hu, fin⟩
      · exact ⟨_, op_notInP hu, fin⟩
    · cases h
  · cases h
theorem cmp_rule (hu : X.A.units + 200 < cLine) {o : COp} {x y : Val} {st : Sto} {c : Bool} (h : cmpV o x y st = some c) : ∃ R : R2, OpR X (compareOp (copB o)) R ∧
    ∀ (F B : Hp) (as : List Addr) (H : Hp) (u w : V) (Q : VK), RSt X.K cs F B as st H → VOk X.K F B as x u → VOk X.K F B as y w → Q (.bl c) H → R u w H Q := by
  unfold cmpV at h
  split at h
  · cases h; exact ⟨_, op_lt, fun F B as H u w Q r q1 q2 hq => ⟨_, _, int_of q1, int_of q2, hq⟩⟩
  · cases h; exact ⟨_, op_le, fun F B as H u w Q r q1 q2 hq => ⟨_, _, int_of q1, int_of q2, hq⟩⟩
  · cases h; exact ⟨_, op_gt, fun F B as H u w Q r q1 q2 hq => ⟨_, _, int_of q1, int_of q2, hq⟩⟩
  · cases h; exact ⟨_, op_ge, fun F B as H u w Q r q1 q2 hq => ⟨_, _, int_of q1, int_of q2, hq⟩⟩
  · cases h; exact ⟨_, op_lt_str, fun F B as H u w Q r q1 q2 hq => ⟨_, _, str_of q1, str_of q2, by rw [ltW_cps]; exact hq⟩⟩
  · cases h; exact ⟨_, op_le_str, fun F B as H u w Q r q1 q2 hq => ⟨_, _, str_of q1, str_of q2, by rw [ltW_cps]; exact hq⟩⟩
  · cases h; exact ⟨_, op_gt_str, fun F B as H u w Q r q1 q2 hq => ⟨_, _, str_of q1, str_of q2, by rw [ltW_cps]; exact hq⟩⟩
  · cases h; exact ⟨_, op_ge_str, fun F B as H u w Q r q1 q2 hq => ⟨_, _, str_of q1, str_of q2, by rw [ltW_cps]; exact hq⟩⟩
  · cases h; exact ⟨_, op_isN, fun F B as H u w Q r q1 q2 hq => ⟨non_of q2, by rw [non_of q1]; exact hq⟩⟩
  · rename_i a b
    cases h; exact ⟨_, op_isBl, fun F B as H u w Q r q1 q2 hq => ⟨_, _, bl_of q1, bl_of q2, by
      have e : decide (a = b) = (a == b) := by cases a <;> cases b <;> rfl
      rw [e]; exact hq⟩⟩
  · rename_i hn
    cases h; exact ⟨_, op_isN, fun F B as H u w Q r q1 q2 hq => ⟨non_of q2, by
      rw [decide_eq_false (none_ref q1 fun d e z => hn (by rw [e, z]))]; exact hq⟩⟩
  · cases h; exact ⟨_, op_notN, fun F B as H u w Q r q1 q2 hq => ⟨non_of q2, by rw [non_of q1]; exact hq⟩⟩
  · rename_i a b
    cases h; exact ⟨_, op_notBl, fun F B as H u w Q r q1 q2 hq => ⟨_, _, bl_of q1, bl_of q2, by
      have e : decide (a = b) = (a == b) := by cases a <;> cases b <;> rfl
      rw [e]; exact hq⟩⟩
  · rename_i hn
    cases h; exact ⟨_, op_notN, fun F B as H u w Q r q1 q2 hq => ⟨non_of q2, by
      rw [decide_eq_false (none_ref q1 fun d e z => hn (by rw [e, z]))]; exact hq⟩⟩
  · split at h
    · rename_i a b h1 h2
      split at h
      · rename_i hc
        cases h
        rw [Bool.or_eq_true] at hc
        rcases hc with hc | hc
        case inl => exact ⟨_, op_eqE hu a b hc, fun F B as H u w Q r q1 q2 hq => ⟨snap_den r h1 q1, snap_den r h2 q2, hq⟩⟩
        rw [Bool.or_eq_true] at hc
        rcases hc with hc | hc
        case inr => exact ⟨_, op_eqT hu a b hc, fun F B as H u w Q r q1 q2 hq => ⟨snap_den r h1 q1, snap_den r h2 q2, by rw [eqOkT_eq hc] at hq; exact hq⟩⟩
        unfold eqOk at hc
        rw [Bool.or_eq_true] at hc
        rcases hc with hc | hc
        case inr => exact ⟨_, op_eqK hu a b false, fun F B as H u w Q r q1 q2 hq => ⟨hc, snap_den r h1 q1, snap_den r h2 q2, hq⟩⟩
        rw [Bool.and_eq_true, Bool.and_eq_true, decide_eq_true_eq] at hc
        refine ⟨_, op_eqP hu, fun F B as H u w Q r q1 q2 hq => ⟨toP a, toP b, snap_dp r h1 hc.1.1 q1, snap_dp r h2 hc.1.2 q2, toP_plain a hc.1.1, toP_plain b hc.1.2, ?_, ?_⟩⟩
        · have := toP_dep a; have := toP_dep b; omega
        · show Q (.bl (PyData.eqv (toP a) (toP b))) H
          rw [eqD_ok a b hc.1.1 hc.1.2]; exact hq
      · cases h
    · cases h
  · split at h
    · rename_i a b h1 h2
      split at h
      · rename_i hc
        cases h
        rw [Bool.or_eq_true] at hc
        rcases hc with hc | hc
        case inr => exact ⟨_, op_neT hu a b hc, fun F B as H u w Q r q1 q2 hq => ⟨snap_den r h1 q1, snap_den r h2 q2, by rw [eqOkL_eq hc] at hq; exact hq⟩⟩
        unfold eqOk at hc
        rw [Bool.or_eq_true] at hc
        rcases hc with hc | hc
        case inr => exact ⟨_, op_eqK hu a b true, fun F B as H u w Q r q1 q2 hq => ⟨hc, snap_den r h1 q1, snap_den r h2 q2, hq⟩⟩
        rw [Bool.and_eq_true, Bool.and_eq_true, decide_eq_true_eq] at hc
        refine ⟨_, op_neP hu, fun F B as H u w Q r q1 q2 hq => ⟨toP a, toP b, snap_dp r h1 hc.1.1 q1, snap_dp r h2 hc.1.2 q2, toP_plain a hc.1.1, toP_plain b hc.1.2, ?_, ?_⟩⟩
        · have := toP_dep a; have := toP_dep b; omega
        · show Q (.bl (!PyData.eqv (toP a) (toP b))) H
          rw [eqD_ok a b hc.1.1 hc.1.2]; exact hq
      · cases h
    · cases h
  · exact in_rule (cs := cs) hu h false
  · obtain ⟨c', hc, h⟩ := omap h
    subst h
    exact in_rule (cs := cs) hu hc true
  · cases h
end
end NK
set_option Elab.async false
set_option linter.all false
set_option autoImplicit false
set_option maxRecDepth 100000
namespace NK
open PySem PySem.Spec PyProof.Rows L2
section
variable {X : Cx} {cs : Nat → Option Addr} {e e1 e2 e3 : Expr} {es : List Expr} {f f1 f2 f3 : Env → Sto → Option (Val × Sto)} {g : Env → Sto → Option (List Val × Sto)} {pos : Pos}
def fCmp (o : COp) (f1 f2 : Env → Sto → Option (Val × Sto)) : Env → Sto → Option (Val × Sto) := fun env st => (f1 env st).bind fun r => (f2 env r.2).bind fun q => (cmpV o r.1 q.1 q.2).map fun c => (.dat (.bl c), q.2)
theorem s_cmp (hu : X.A.units + 200 < cLine) {o : COp} (h1 : PE X e1 (tE X.K cs f1)) (h2 : PE X e2 (tE X.K cs f2)) (hm : behindInMarks (copB o) e2 = false) : PE X (.Compare e1 [copB o] [e2] pos) (tE X.K cs (fCmp o f1 f2)) := by
  refine ⟨fun pins s σ H Q I h => ?_⟩
  obtain ⟨F, B, as, env, st, v, st', r, ev, k⟩ := h
  obtain ⟨⟨x, st1⟩, ha, ev1⟩ := obnd ev
  obtain ⟨⟨y, st2⟩, hb, ev2⟩ := obnd ev1
  obtain ⟨c, hc, ev3⟩ := omap ev2
  clear ev ev1 ev2
  cases ev3
  obtain ⟨R, hR, hk⟩ := cmp_rule (cs := cs) hu hc
  exact (pe_cmpR hR h1 h2 hm).run pins s σ H Q I (two r ha hb fun F' as' H' u w r' x' v1 v2 => hk F' B as' H' u w Q r'.toRSt v1 v2 (k F' as' H' _ r' x' vbl))
theorem boolR_of {o : Option (Val × Sto)} {b : Bool} {st : Sto} (h : o.bind boolR = some (b, st)) : o = some (.dat (.bl b), st) := by
  obtain ⟨⟨v, s⟩, e, h'⟩ := obnd h
  clear h
  subst e
  unfold boolR at h'
  split at h'
  · rename_i hv
    cases h'
    dsimp only at hv
    rw [hv]
  · cases h'
theorem s_cmpT (hu : X.A.units + 200 < cLine) {o : COp} (h1 : PE X e1 (tE X.K cs f1)) (h2 : PE X e2 (tE X.K cs f2)) (hm : behindInMarks (copB o) e2 = false) : PT X (.Compare e1 [copB o] [e2] pos) (tB X.K cs fun env st => (fCmp o f1 f2 env st).bind boolR) := by
  refine ⟨fun pins s σ H Q I h => ?_⟩
  obtain ⟨F, B, as, env, st, v, st', r, ev0, k⟩ := h
  have ev := boolR_of ev0
  obtain ⟨⟨x, st1⟩, ha, ev1⟩ := obnd ev
  obtain ⟨⟨y, st2⟩, hb, ev2⟩ := obnd ev1
  obtain ⟨c, hc, ev3⟩ := omap ev2
  clear ev ev1 ev2
  cases ev3
  obtain ⟨R, hR, hk⟩ := cmp_rule (cs := cs) hu hc
  exact (pt_cmpR hR h1 h2 hm).run pins s σ H Q I (two (Q := fun x H' => ∃ k, x = .bl k ∧ Q k H') r ha hb fun F' as' H' u w r' x' v1 v2 => hk F' B as' H' u w _ r'.toRSt v1 v2 ⟨_, rfl, k F' as' H' r' x'⟩)
theorem s_val (h : PE X e (tE X.K cs f)) (he : ∀ whole, isTrue e X.env whole = (do let v ← whole; standAt e.pos; holding [v] (truthy v))) : PT X e (tB X.K cs fun env st => (f env st).bind boolR) :=
  (pt_val h he).weak fun σ H Q ⟨F, B, as, env, st, b, st', r, ev, k⟩ => ⟨F, B, as, env, st, _, st', r, boolR_of ev, fun F' as' H' u r' x' v1 => ⟨b, bl_of v1, k F' as' H' r' x'⟩⟩
def fNot (f : Env → Sto → Option (Val × Sto)) : Env → Sto → Option (Val × Sto) := fun env st => ((f env st).bind boolR).map fun r => (.dat (.bl (!r.1)), r.2)
theorem s_not (h : PE X e (tE X.K cs f)) : PE X (.UnaryOp .Not e pos) (tE X.K cs (fNot f)) := (pe_not h).weak fun σ H Q ⟨F, B, as, env, st, b, st', r, ev, k⟩ => by
  obtain ⟨⟨c, s⟩, e1, e2⟩ := omap ev
  cases e2
  exact ⟨F, B, as, env, st, _, _, r, boolR_of e1, fun F' as' H' u r' x' v1 => ⟨c, bl_of v1, k F' as' H' _ r' x' vbl⟩⟩
theorem s_notT (h : PT X e (tB X.K cs fun env st => (f env st).bind boolR)) : PT X (.UnaryOp .Not e pos) (tB X.K cs fun env st => (fNot f env st).bind boolR) := (pt_not h).weak fun σ H Q ⟨F, B, as, env, st, b, st', r, ev, k⟩ => by
  have ev := boolR_of ev
  obtain ⟨⟨c, s⟩, e1, e2⟩ := omap ev
  cases e2
  exact ⟨F, B, as, env, st, _, _, r, e1, fun F' as' H' r' x' => k F' as' H' r' x'⟩
def fAnd (f1 f2 : Env → Sto → Option (Val × Sto)) : Env → Sto → Option (Val × Sto) := fun env st => ((f1 env st).bind boolR).bind fun r => if r.1 then f2 env r.2 else some (.dat (.bl false), r.2)
def fOr (f1 f2 : Env → Sto → Option (Val × Sto)) : Env → Sto → Option (Val × Sto) := fun env st => ((f1 env st).bind boolR).bind fun r => if r.1 then some (.dat (.bl true), r.2) else f2 env r.2
theorem s_and {b : Expr} {rest : List Expr} (h1 : PE X e1 (tE X.K cs f1)) (h2 : PE X (.BoolOp .And (b :: rest) pos) (tE X.K cs f2)) : PE X (.BoolOp .And (e1 :: b :: rest) pos) (tE X.K cs (fAnd f1 f2)) := (pe_and h1 h2).weak fun σ H Q ⟨F, B, as, env, st, v, st', r, ev, k⟩ => by
  obtain ⟨⟨c, s⟩, e1, e2⟩ := obnd ev
  refine ⟨F, B, as, env, st, _, _, r, boolR_of e1, fun F' as' H' u r' x' v1 => ⟨c, bl_of v1, ?_⟩⟩
  cases c
  · cases e2
    exact k F' as' H' _ r' x' vbl
  · exact ⟨F', B, as', env, s, v, st', r', e2, fun F2 as2 H2 u2 r2 x2 v2 => k F2 as2 H2 u2 r2 (x'.trans x2) v2⟩
theorem s_or {b : Expr} {rest : List Expr} (h1 : PE X e1 (tE X.K cs f1)) (h2 : PE X (.BoolOp .Or (b :: rest) pos) (tE X.K cs f2)) : PE X (.BoolOp .Or (e1 :: b :: rest) pos) (tE X.K cs (fOr f1 f2)) := (pe_or h1 h2).weak fun σ H Q ⟨F, B, as, env, st, v, st', r, ev, k⟩ => by
  obtain ⟨⟨c, s⟩, e1, e2⟩ := obnd ev
  refine ⟨F, B, as, env, st, _, _, r, boolR_of e1, fun F' as' H' u r' x' v1 => ⟨c, bl_of v1, ?_⟩⟩
  cases c
  · exact ⟨F', B, as', env, s, v, st', r', e2, fun F2 as2 H2 u2 r2 x2 v2 => k F2 as2 H2 u2 r2 (x'.trans x2) v2⟩
  · cases e2
    exact k F' as' H' _ r' x' vbl
theorem s_andW {b : Expr} {rest : List Expr} (h1 : PT X e1 (tB X.K cs fun env st => (f1 env st).bind boolR)) (h2 : PW X (.BoolOp .And (b :: rest) pos) (tB X.K cs fun env st => (f2 env st).bind boolR)) :
    PW X (.BoolOp .And (e1 :: b :: rest) pos) (tB X.K cs fun env st => (fAnd f1 f2 env st).bind boolR) := (pw_and h1 h2).weak fun σ H Q ⟨F, B, as, env, st, v, st', r, ev, k⟩ => by
  obtain ⟨⟨c, s⟩, e1, e2⟩ := obnd (boolR_of ev)
  refine ⟨F, B, as, env, st, c, s, r, e1, fun F' as' H' r' x' => ?_⟩
  cases c
  · cases e2
    rw [if_neg Bool.false_ne_true]
    exact k F' as' H' r' x'
  · rw [if_pos rfl]
    have e3 : f2 env s = some (.dat (.bl v), st') := e2
    exact ⟨F', B, as', env, s, v, st', r', by dsimp only; rw [e3]; rfl, fun F2 as2 H2 r2 x2 => k F2 as2 H2 r2 (x'.trans x2)⟩
theorem s_orW {b : Expr} {rest : List Expr} (h1 : PT X e1 (tB X.K cs fun env st => (f1 env st).bind boolR)) (h2 : PW X (.BoolOp .Or (b :: rest) pos) (tB X.K cs fun env st => (f2 env st).bind boolR)) :
    PW X (.BoolOp .Or (e1 :: b :: rest) pos) (tB X.K cs fun env st => (fOr f1 f2 env st).bind boolR) := (pw_or h1 h2).weak fun σ H Q ⟨F, B, as, env, st, v, st', r, ev, k⟩ => by
  obtain ⟨⟨c, s⟩, e1, e2⟩ := obnd (boolR_of ev)
  refine ⟨F, B, as, env, st, c, s, r, e1, fun F' as' H' r' x' => ?_⟩
  cases c
  · rw [if_neg Bool.false_ne_true]
    have e3 : f2 env s = some (.dat (.bl v), st') := e2
    exact ⟨F', B, as', env, s, v, st', r', by dsimp only; rw [e3]; rfl, fun F2 as2 H2 r2 x2 => k F2 as2 H2 r2 (x'.trans x2)⟩
  · cases e2
    rw [if_pos rfl]
    exact k F' as' H' r' x'
def fIte (c f1 f2 : Env → Sto → Option (Val × Sto)) : Env → Sto → Option (Val × Sto) := fun env st => ((c env st).bind boolR).bind fun r => if r.1 then f1 env r.2 else f2 env r.2
theorem s_ite (h : PT X e (tB X.K cs fun env st => (f env st).bind boolR)) (h1 : PE X e1 (tE X.K cs f1)) (h2 : PE X e2 (tE X.K cs f2)) : PE X (.IfExp e e1 e2 pos) (tE X.K cs (fIte f f1 f2)) := (pe_ifExp h h1 h2).weak fun σ H Q ⟨F, B, as, env, st, v, st', r, ev, k⟩ => by
  obtain ⟨⟨c, s⟩, e1, e2⟩ := obnd ev
  refine ⟨F, B, as, env, st, c, s, r, e1, fun F' as' H' r' x' => ?_⟩
  cases c
  · rw [if_neg Bool.false_ne_true]
    exact ⟨F', B, as', env, s, v, st', r', e2, fun F2 as2 H2 u2 r2 x2 v2 => k F2 as2 H2 u2 r2 (x'.trans x2) v2⟩
  · rw [if_pos rfl]
    exact ⟨F', B, as', env, s, v, st', r', e2, fun F2 as2 H2 u2 r2 x2 v2 => k F2 as2 H2 u2 r2 (x'.trans x2) v2⟩
def fChain (o o' : COp) (f1 f2 f3 : Env → Sto → Option (Val × Sto)) : Env → Sto → Option (Val × Sto) := fun env st => (f1 env st).bind fun r => (f2 env r.2).bind fun q => (cmpV o r.1 q.1 q.2).bind fun t =>
      if t then (f3 env q.2).bind fun s => (cmpV o' q.1 s.1 s.2).map fun t => (.dat (.bl t), s.2) else some (.dat (.bl false), q.2)
theorem chain_of (hu : X.A.units + 200 < cLine) {o o' : COp} {F B : Hp} {as : List Addr} {env : Env} {st : Sto} {v : Val} {st' : Sto} {σ : L2.St} {H : Hp} (r : Rel X.K cs F B as env st σ H) (ev : fChain o o' f1 f2 f3 env st = some (v, st')) {Q : VK}
    (k : ∀ b F' as' H', v = .dat (.bl b) → Rel X.K cs F' B as' env st' σ H' → Ext F as H F' as' H' → Q (.bl b) H') :
    ∃ R R' : R2, OpR X (compareOp (copB o)) R ∧ OpR X (compareOp (copB o')) R' ∧ tChain R R' (tE X.K cs f1) (tE X.K cs f2) (tE X.K cs f3) σ H Q := by
  obtain ⟨⟨x, st1⟩, ha, ev1⟩ := obnd ev
  obtain ⟨⟨y, st2⟩, hb, ev2⟩ := obnd ev1
  obtain ⟨c, hc, ev3⟩ := obnd ev2
  clear ev ev1 ev2
  obtain ⟨R, hR, hk⟩ := cmp_rule (cs := cs) hu hc
  cases c
  · cases ev3
    refine ⟨R, fun _ _ _ _ => False, hR, fun _ _ _ _ _ _ _ _ _ _ _ _ h => h.elim, F, B, as, env, st, x, st1, r, ha, fun F1 as1 H1 u r1 x1 v1 => ⟨F1, B, as1, env, st1, y, st2, r1, hb, fun F2 as2 H2 w r2 x2 v2 => ?_⟩⟩
    refine hk F2 B as2 H2 u w _ r2.toRSt (v1.ext x2) v2 ⟨false, rfl, ?_⟩
    show if false = true then _ else _
    rw [if_neg Bool.false_ne_true]
    exact k false F2 as2 H2 rfl r2 (x1.trans x2)
  · dsimp only at ev3
    rw [if_pos rfl] at ev3
    obtain ⟨⟨z, st3⟩, hd, ev4⟩ := obnd ev3
    obtain ⟨c', hc', ev5⟩ := omap ev4
    cases ev5
    obtain ⟨R', hR', hk'⟩ := cmp_rule (cs := cs) hu hc'
    refine ⟨R, R', hR, hR', F, B, as, env, st, x, st1, r, ha, fun F1 as1 H1 u r1 x1 v1 => ⟨F1, B, as1, env, st1, y, st2, r1, hb, fun F2 as2 H2 w r2 x2 v2 => ?_⟩⟩
    refine hk F2 B as2 H2 u w _ r2.toRSt (v1.ext x2) v2 ⟨true, rfl, ?_⟩
    show if true = true then _ else _
    rw [if_pos rfl]
    refine ⟨F2, B, as2, env, st2, z, st3, r2, hd, fun F3 as3 H3 t r3 x3 v3 => ?_⟩
    exact hk' F3 B as3 H3 w t _ r3.toRSt (v2.ext x3) v3 (k c' F3 as3 H3 rfl r3 ((x1.trans x2).trans x3))
theorem s_chain (hu : X.A.units + 200 < cLine) {o o' : COp} (h1 : PE X e1 (tE X.K cs f1)) (h2 : PE X e2 (tE X.K cs f2)) (h3 : PE X e3 (tE X.K cs f3)) (hm : lastMarks [copB o, copB o'] [e2, e3] = false) :
    PE X (.Compare e1 [copB o, copB o'] [e2, e3] pos) (tE X.K cs (fChain o o' f1 f2 f3)) := ⟨fun pins s σ H Q I ⟨F, B, as, env, st, v, st', r, ev, k⟩ => by
  obtain ⟨R, R', hR, hR', h⟩ := chain_of (cs := cs) (Q := Q) hu r ev fun b F' as' H' e r' x' => k F' as' H' _ r' x' (by rw [e]; exact vbl)
  exact (pe_chain hR hR' h1 h2 h3 hm).run pins s σ H Q I h⟩
theorem s_chainT (hu : X.A.units + 200 < cLine) {o o' : COp} (h1 : PE X e1 (tE X.K cs f1)) (h2 : PE X e2 (tE X.K cs f2)) (h3 : PE X e3 (tE X.K cs f3)) (hm : lastMarks [copB o, copB o'] [e2, e3] = false) :
    PT X (.Compare e1 [copB o, copB o'] [e2, e3] pos) (tB X.K cs fun env st => (fChain o o' f1 f2 f3 env st).bind boolR) := ⟨fun pins s σ H Q I ⟨F, B, as, env, st, v, st', r, ev, k⟩ => by
  obtain ⟨R, R', hR, hR', h⟩ := chain_of (cs := cs) (Q := fun x H' => ∃ k, x = .bl k ∧ Q k H') hu r (boolR_of ev) fun b F' as' H' e r' x' => ⟨b, rfl, by cases e; exact k F' as' H' r' x'⟩
  exact (pt_chain hR hR' h1 h2 h3 hm).run pins s σ H Q I h⟩
def nStar : Expr → Bool
  | .Starred _ _ => false
  | _ => true
def nSlice : Expr → Bool
  | .Slice _ _ _ _ => false
  | _ => true
theorem noStar {pe : Expr} {es : List Expr} {env : PySem.Env} (h : nStar pe = true) : starEach (pe :: es) env = (false, eval pe env) :: starEach es env := by
  cases pe <;> first | rfl | simp [nStar] at h
theorem s_nil : PA X [] (tEs X.K cs fun _ st => some ([], st)) := pa_nil.weak fun σ H Q ⟨F, B, as, env, st, v, st', r, ev, k⟩ => by
  cases ev
  exact k F as H [] r r.refl .nil
theorem s_cons (h1 : PE X e (tE X.K cs f)) (h2 : PA X es (tEs X.K cs g)) (hs : nStar e = true) :
    PA X (e :: es) (tEs X.K cs fun env st => (f env st).bind fun r => (g env r.2).map fun q => (r.1 :: q.1, q.2)) := (pa_cons h1 h2 (noStar hs)).weak fun σ H Q ⟨F, B, as, env, st, v, st', r, ev, k⟩ => by
  obtain ⟨⟨x, s1⟩, e1, ev1⟩ := obnd ev
  obtain ⟨⟨vs, s2⟩, e2, ev2⟩ := omap ev1
  cases ev2
  exact ⟨F, B, as, env, st, x, s1, r, e1, fun F1 as1 H1 u r1 x1 v1 => ⟨F1, B, as1, env, s1, vs, s2, r1, e2, fun F2 as2 H2 us r2 x2 v2 => k F2 as2 H2 (u :: us) r2 (x1.trans x2) (.cons (v1.ext x2) v2)⟩⟩
section
variable {F B H : Hp} {as : List Addr} {env : Env} {st : Sto} {σ : L2.St}
theorem toD_ref_ok (r : Rel X.K cs F B as env st σ H) {l : Nat} {u : V} {d : D} {st' : Sto} (h : toD (.ref l) st = some (d, st')) (q : VOk X.K F B as (.ref l) u) : ∃ F', Rel X.K cs F' B as env st' σ H ∧ Ext F as H F' as H ∧ Den X.K F' d u := by
  simp only [toD] at h
  obtain ⟨d', hd, e⟩ := omap h
  cases e
  obtain ⟨o, ho, hf⟩ := obnd hd
  obtain ⟨a, ea, rfl⟩ := q
  obtain ⟨_, hb, e1, e2⟩ := r.obj l a o ea ho
  have nd : o ≠ .dead := fun z => by subst z; simp [fzO] at hf
  obtain ⟨r', x'⟩ := r.toRSt.freeze ea ho nd e1
  refine ⟨_, r.slots x' r', x', ?_⟩
  have hm : ∀ b x, F b = some x → (upd F a hb) b = some x := x'.ff
  cases o with
  | lst ds => simp only [fzO] at hf; cases hf; obtain ⟨us, rfl, b⟩ := e2; exact Den.lst_iff.mpr ⟨a, us, rfl, upd_same, Dens.mono hm _ _ b⟩
  | dK ks ds => simp only [fzO] at hf; cases hf; obtain ⟨us, rfl, l, b⟩ := e2; exact Den.dK_iff.mpr ⟨a, us, rfl, .inl upd_same, l, Dens.mono hm _ _ b⟩
  | dT ks ds => simp only [fzO] at hf; cases hf; obtain ⟨us, rfl, l, b⟩ := e2; exact Den.dT_iff.mpr ⟨a, us, rfl, .inl upd_same, l, Dens.mono hm _ _ b⟩
  | ins _ _ => simp [fzO] at hf
  | dead => simp [fzO] at hf
theorem toD_ok (r : Rel X.K cs F B as env st σ H) {v : Val} {u : V} {d : D} {st' : Sto} (h : toD v st = some (d, st')) (q : VOk X.K F B as v u) : ∃ F', Rel X.K cs F' B as env st' σ H ∧ Ext F as H F' as H ∧ Den X.K F' d u := by
  cases v with
  | dat d' => simp only [toD] at h; cases h; exact ⟨F, r, r.refl, q⟩
  | bor d' => simp [toD] at h
  | ref l => exact toD_ref_ok r h q
  | tup pre l post =>
    simp only [toD] at h
    obtain ⟨d', hd, h⟩ := obnd h
    split at h
    · cases h
    · rename_i hn
      cases h
      obtain ⟨p, vs, ws, a, rfl, f, d1, d2, ea⟩ := q
      obtain ⟨F', r', x', dn⟩ := toD_ref_ok r (l := l) (u := .ref a) (d := d') (st' := st.set l .dead) (by simp only [toD, hd, Option.map_some]) ⟨a, ea, rfl⟩
      exact ⟨F', r', x', Den.tup_iff.mpr ⟨p, _, rfl, .plain (x'.ff _ _ f) (by simpa using hn), (Dens.mono x'.ff _ _ d1).append (Dens.cons.mpr ⟨_, _, rfl, dn, Dens.mono x'.ff _ _ d2⟩)⟩⟩
theorem toDs_ok : ∀ {vs : List Val} {us : List V} {F : Hp} {st : Sto} {ds : List D} {st' : Sto}, Rel X.K cs F B as env st σ H → toDs vs st = some (ds, st') → Paired (VOk X.K F B as) vs us → ∃ F', Rel X.K cs F' B as env st' σ H ∧ Ext F as H F' as H ∧ Dens X.K F' ds us
  | [], _, F, st, ds, st', r, h, .nil => by simp only [toDs] at h; cases h; exact ⟨F, r, r.refl, Dens.nil.mpr rfl⟩
  | v :: vs, _, F, st, ds, st', r, h, .cons (b := u) (l₂ := us) q qs => by
    simp only [toDs] at h
    obtain ⟨⟨d, s1⟩, h1, h⟩ := obnd h
    obtain ⟨⟨es, s2⟩, h2, h⟩ := omap h
    cases h
    obtain ⟨F1, r1, x1, q1⟩ := toD_ok r h1 q
    obtain ⟨F2, r2, x2, q2⟩ := toDs_ok r1 h2 (Paired.mapP qs fun a b z => z.ext x1)
    exact ⟨F2, r2, x1.trans x2, Dens.cons.mpr ⟨u, us, rfl, Den.mono x2.ff _ _ q1, q2⟩⟩
end
def fTup (g : Env → Sto → Option (List Val × Sto)) : Env → Sto → Option (Val × Sto) := fun env st => (g env st).bind fun r => (toDs r.1 r.2).map fun q => (.dat (.tup q.1), q.2)
theorem Paired.len {α β : Type} {R : α → β → Prop} {xs : List α} {ys : List β} (h : Paired R xs ys) : xs.length = ys.length := Paired.length h
theorem s_tup {x1 : Nat} (h : PA X es (tEs X.K cs g)) (hl : ∀ env st vs st', g env st = some (vs, st') → vs.length ≤ LIM) : PE X (.Tuple es x1 pos) (tE X.K cs (fTup g)) := (pe_tupX h).weak fun σ H Q ⟨F, B, as, env, st, v, st', r, ev, k⟩ => by
  obtain ⟨⟨vs, s1⟩, e1, ev1⟩ := obnd ev
  obtain ⟨⟨ds, s2⟩, e2, ev2⟩ := omap ev1
  cases ev2
  refine ⟨F, B, as, env, st, vs, s1, r, e1, fun F1 as1 H1 us r1 x1 v1 => ⟨by rw [← line_eq, ← Paired.len v1]; exact hl _ _ _ _ e1, ds, fun p o hp h0 => ?_⟩⟩
  obtain ⟨F2, r2, x2, q2⟩ := toDs_ok r1 e2 v1
  obtain ⟨r3, x3, v3⟩ := r2.putT hp h0 q2
  exact k _ as1 _ _ r3 ((x1.trans x2).trans x3) v3
theorem at_ok {K : PySem.W.Frag} {F : Hp} {ds : List D} {us : List V} {i : Int} {d : D} (h : at? ds i = some d) (q : Dens K F ds us) : ∃ u, atI us i = some u ∧ Den K F d u := by
  obtain ⟨j, hj, hd⟩ := obnd h
  obtain ⟨u, hu, q'⟩ := q.get hd
  refine ⟨u, ?_, q'⟩
  unfold atI
  rw [q.length, show ixN ds.length i = some j from hj]
  exact hu
def fIdx (f1 f2 : Env → Sto → Option (Val × Sto)) : Env → Sto → Option (Val × Sto) := fun env st => (f1 env st).bind fun r => (f2 env r.2).bind fun q => (idxV r.1 q.1 q.2).map fun d => (.dat d, q.2)
theorem s_idx (hu : X.A.units + 200 < cLine) (h1 : PE X e1 (tE X.K cs f1)) (h2 : PE X e2 (tE X.K cs f2)) (hs : nSlice e2 = true) : PE X (.Subscript e1 e2 pos) (tE X.K cs (fIdx f1 f2)) := by
  have pi : PlainIx e2 := fun o i => by cases e2 <;> first | rfl | simp [nSlice] at hs
  refine ⟨fun pins s σ H Q I h => ?_⟩
  obtain ⟨F, B, as, env, st, v, st', r, ev, k⟩ := h
  obtain ⟨⟨x, st1⟩, ha, ev1⟩ := obnd ev
  obtain ⟨⟨y, st2⟩, hb, ev2⟩ := obnd ev1
  obtain ⟨d, hd, ev3⟩ := omap ev2
  clear ev ev1 ev2
  cases ev3
  dsimp only at hd ha hb k
  have go : ∀ {R : R2}, IxR X R → (∀ F' as' H' u w, Rel X.K cs F' B as' env st2 σ H' → Ext F as H F' as' H' → VOk X.K F' B as' x u → VOk X.K F' B as' y w → R u w H' Q) →
      wpAny (model X.prog X.w) X.A (eval (.Subscript e1 e2 pos) X.env) (EP X pins σ Q) X.xe s := fun hR hk =>
    (pe_ix hR h1 h2 pi).run pins s σ H Q I (two r ha hb hk)
  have goD : (∀ F' as' H' u w, Rel X.K cs F' B as' env st2 σ H' → Ext F as H F' as' H' → VOk X.K F' B as' x u → VOk X.K F' B as' y w → ∃ a v, u = .ref a ∧ DGet H' a w (some v) ∧ Q v H') →
      wpAny (model X.prog X.w) X.A (eval (.Subscript e1 e2 pos) X.env) (EP X pins σ Q) X.xe s := fun hk =>
    (pe_dget (by omega) h1 h2 pi).run pins s σ H Q I (two (R := fun u w H' Q => ∃ a v, u = .ref a ∧ DGet H' a w (some v) ∧ Q v H') r ha hb hk)
  unfold idxV at hd
  split at hd
  · refine go ix_tup fun F' as' H' u w r' x' v1 v2 => ?_
    obtain ⟨p, us, rfl, hp, hq⟩ := Den.tup_iff.mp v1
    obtain ⟨z, hz, qz⟩ := at_ok hd hq
    exact ⟨p, us, _, z, rfl, int_of v2, .inl (rd_mono r'.fh hp.rd), hz, k F' as' H' _ r' x' qz⟩
  · rename_i w0 k0
    split at hd
    · rename_i hl
      obtain ⟨c, hc, e⟩ := omap hd
      cases e
      exact go ix_str fun F' as' H' u w r' x' v1 v2 => ⟨S w0, k0, c, str_of v1, int_of v2, by rw [S_len, ← line_eq]; exact hl, by rw [S_cps]; exact hc, k F' as' H' _ r' x' vstr⟩
    · cases hd
  · split at hd
    · rename_i ds hs'
      split at hd
      · refine go ix_list fun F' as' H' u w r' x' v1 v2 => ?_
        obtain ⟨p, us, rfl, hp, hq⟩ := top_lst r'.toRSt hs' v1
        obtain ⟨z, hz, qz⟩ := at_ok hd hq
        exact ⟨p, us, _, z, rfl, int_of v2, .of hp, hz, k F' as' H' _ r' x' qz⟩
      · cases hd
    · rename_i ns hs'
      split at hd
      · obtain ⟨m, hm, e⟩ := omap hd
        cases e
        refine go ix_list fun F' as' H' u w r' x' v1 v2 => ?_
        obtain ⟨p, rfl, hp⟩ := top_scr r'.toRSt hs' v1
        refine ⟨p, _, _, .int m, rfl, int_of v2, hp, ?_, k F' as' H' _ r' x' vint⟩
        obtain ⟨j, hj, hd'⟩ := obnd hm
        unfold atI
        rw [List.length_map, show ixN ns.length _ = some j from hj]
        show (List.map V.int ns)[j]? = _
        rw [List.getElem?_map, hd']; rfl
      · cases hd
    · rename_i ks ds hs'
      obtain ⟨k0, hk0, hd'⟩ := obnd hd
      refine goD fun F' as' H' u w r' x' v1 v2 => ?_
      obtain ⟨a, o, rfl, g, z⟩ := get_dK r'.toRSt hs' v1 hk0 v2
      rcases z with ⟨d', x0, e1, e2, e3⟩ | ⟨e1, _⟩
      · rw [hd'] at e1; cases e1
        subst e2
        exact ⟨a, x0, rfl, g, k F' as' H' _ r' x' e3⟩
      · rw [hd'] at e1; cases e1
    · rename_i ks ds hs'
      obtain ⟨k0, hk0, hd'⟩ := obnd hd
      refine goD fun F' as' H' u w r' x' v1 v2 => ?_
      obtain ⟨a, o, rfl, g, z⟩ := get_dT r'.toRSt hs' v1 hk0 v2
      rcases z with ⟨d', x0, e1, e2, e3⟩ | ⟨e1, _⟩
      · rw [hd'] at e1; cases e1
        subst e2
        exact ⟨a, x0, rfl, g, k F' as' H' _ r' x' e3⟩
      · rw [hd'] at e1; cases e1
    · cases hd
  · cases hd
end
end NK
set_option Elab.async false
set_option linter.all false
set_option autoImplicit false
set_option maxRecDepth 100000
namespace NK
open PySem PySem.Spec PyProof.Rows L2
section
variable {X : Cx} {cs : Nat → Option Addr} {e e1 e2 e3 : Expr} {es : List Expr} {f f1 f2 f3 : Env → Sto → Option (Val × Sto)} {g : Env → Sto → Option (List Val × Sto)} {pos : Pos}
theorem sIx_eq (n d : Nat) (o : Option Int) : sIx n d o = HT.sIx n d o := by cases o <;> rfl
theorem s_po0 : PO X none (tP X.K cs fun _ st => some (none, st)) := po_none.weak fun σ H Q ⟨F, B, as, env, st, v, st', r, ev, k⟩ => by
  cases ev
  exact k F as H r r.refl
theorem s_po1 (h : PE X e (tE X.K cs f)) : PO X (some e) (tP X.K cs fun env st => (f env st).bind fun r => (intOf r.1).map fun i => (some i, r.2)) := (po_some h).weak fun σ H Q ⟨F, B, as, env, st, v, st', r, ev, k⟩ => by
  obtain ⟨⟨x, s1⟩, e1, ev1⟩ := obnd ev
  obtain ⟨i, hi, ev2⟩ := omap ev1
  cases ev2
  refine ⟨F, B, as, env, st, x, s1, r, e1, fun F' as' H' u r' x' v1 => ?_⟩
  unfold intOf at hi
  split at hi
  · cases hi
    rename_i hx
    dsimp only at hx
    subst hx
    exact ⟨_, int_of v1, k F' as' H' r' x'⟩
  · cases hi
theorem cut_dens {K : PySem.W.Frag} {F : Hp} {ds : List D} {us : List V} (lo hi : Option Int) (q : Dens K F ds us) : Dens K F (cutL ds lo hi) (cutV us lo hi) := by
  unfold cutL cutV
  rw [sIx_eq, sIx_eq, q.length]
  exact (q.drop _).take _
theorem cut_all {α : Type} {xs : List α} {lo hi : Option Int} (h : HT.sIx xs.length 0 lo = 0 ∧ HT.sIx xs.length xs.length hi = xs.length) : cutL xs lo hi = xs := by
  unfold cutL
  rw [sIx_eq, sIx_eq, h.1, h.2]
  simp
def fSlc (f : Env → Sto → Option (Val × Sto)) (l h : Env → Sto → Option (Option Int × Sto)) : Env → Sto → Option (Val × Sto) := fun env st => (f env st).bind fun r => (l env r.2).bind fun l => (h env l.2).bind fun h => (slcV r.1 l.1 h.1 h.2).map fun d => (.dat d, h.2)
theorem s_slc {lo hi : Option Expr} {p2 : Pos} {l h : Env → Sto → Option (Option Int × Sto)} (h1 : PE X e (tE X.K cs f)) (hl : PO X lo (tP X.K cs l)) (hh : PO X hi (tP X.K cs h)) : PE X (.Subscript e (.Slice lo hi none p2) pos) (tE X.K cs (fSlc f l h)) := by
  refine ⟨fun pins s σ H Q I hw => ?_⟩
  obtain ⟨F, B, as, env, st, v, st', r, ev, k⟩ := hw
  obtain ⟨⟨x, st1⟩, ha, ev1⟩ := obnd ev
  obtain ⟨⟨lv, st2⟩, hb, ev2⟩ := obnd ev1
  obtain ⟨⟨hv, st3⟩, hc, ev3⟩ := obnd ev2
  obtain ⟨d, hd, ev4⟩ := omap ev3
  clear ev ev1 ev2 ev3
  cases ev4
  dsimp only at ha hb hc hd k
  have go : ∀ {R : V → Option Int → Option Int → Hp → VK → Prop}, SlR X R → (∀ F' as' H' u, Rel X.K cs F' B as' env st3 σ H' → Ext F as H F' as' H' → VOk X.K F' B as' x u → R u lv hv H' Q) →
      wpAny (model X.prog X.w) X.A (eval (.Subscript e (.Slice lo hi none p2) pos) X.env) (EP X pins σ Q) X.xe s := fun hR hk =>
    (pe_slice hR h1 hl hh).run pins s σ H Q I ⟨F, B, as, env, st, x, st1, r, ha, fun F1 as1 H1 u r1 x1 v1 => ⟨F1, B, as1, env, st1, lv, st2, r1, hb, fun F2 as2 H2 r2 x2 => ⟨F2, B, as2, env, st2, hv, st3, r2, hc, fun F3 as3 H3 r3 x3 =>
      hk F3 as3 H3 u r3 ((x1.trans x2).trans x3) ((v1.ext x2).ext x3)⟩⟩⟩
  unfold slcV at hd
  split at hd
  · rename_i ds
    cases hd
    refine go sl_tupX fun F' as' H' u r' x' v1 => ?_
    obtain ⟨p, us, rfl, hp, hq⟩ := Den.tup_iff.mp v1
    refine ⟨p, us, rfl, .inl (rd_mono r'.fh hp.rd), fun hw => ?_, fun _ => ⟨cutL ds lv hv, fun t o ht h0 => ?_⟩⟩
    · rw [hq.length] at hw
      exact k F' as' H' _ r' x' (by rw [cut_all hw]; exact v1)
    · obtain ⟨r2, x2, v2⟩ := r'.putT ht h0 (cut_dens lv hv hq)
      exact k _ as' _ _ r2 (x'.trans x2) v2
  · rename_i w0
    split at hd
    · rename_i hw
      cases hd
      refine go sl_str fun F' as' H' u r' x' v1 => ⟨S w0, str_of v1, by rw [S_len, ← line_eq]; exact hw, ?_⟩
      have e : cutS (S w0) lv hv = S (cutL w0 lv hv) := by
        unfold cutS cutL S
        simp only [Str.length, sIx_eq, List.size_toArray]
      rw [e]
      exact k F' as' H' _ r' x' vstr
    · cases hd
  · obtain ⟨ds, hs, e⟩ := omap hd
    cases e
    refine go sl_list fun F' as' H' u r' x' v1 => ?_
    obtain ⟨p, us, rfl, hp, hq⟩ := asL_ok r'.toRSt hs v1
    refine ⟨p, us, rfl, hp, fun t ht => ?_⟩
    obtain ⟨r2, x2, v2⟩ := r'.put (d := .lst (cutL ds lv hv)) (o := .lst (cutV us lv hv)) ht fun F2 hf h2 => Den.lst_iff.mpr ⟨t, _, rfl, h2, cut_dens lv hv (Dens.mono hf _ _ hq)⟩
    exact k _ as' _ _ r2 (x'.trans x2) v2
def RetOk (K : PySem.W.Frag) (cs : Nat → Option Addr) (F' B : Hp) (as : List Addr) (H : Hp) (H' : Hp) : Ret → V → Prop
  | .dat d, u => Den K F' d u
  | .own o, u => ∃ p ho, u = .ref p ∧ H p = none ∧ F' p = none ∧ H' p = some ho ∧ flat o = true ∧ o ≠ .dead ∧ OOk K cs F' B as o ho
  | .val _, _ => False
  | .tup pre o post, u => ∃ p vs ws a ho, u = .ref p ∧ F' p = some (.tup (vs ++ V.ref a :: ws)) ∧ Dens K F' pre vs ∧ Dens K F' post ws ∧ H a = none ∧ F' a = none ∧ H' a = some ho ∧ flat o = true ∧ o ≠ .dead ∧ OOk K cs F' B as o ho
def spF (K : PySem.W.Frag) (cs : Nat → Option Addr) (n : Nat) (fn : List Val → Sto → Option (Ret × Sto)) : Sp := fun vs H Q _ => ∃ F B as args st r st', RSt K cs F B as st H ∧ Paired (VOk K F B as) args vs ∧ args.length = n ∧ fn args st = some (r, st') ∧
  ∀ F' H' u, RSt K cs F' B as st' H' → Ext F as H F' as H' → RetOk K cs F' B as H H' r u → Q u H'
theorem spF_len {K : PySem.W.Frag} {n : Nat} {fn : List Val → Sto → Option (Ret × Sto)} {vs : List V} {H : Hp} {Q : VK} {E : XK} (h : spF K cs n fn vs H Q E) : vs.length = n := by
  obtain ⟨F, B, as, args, st, r, st', _, p, l, _⟩ := h
  rw [← l]; exact (Paired.len p).symm
theorem flat_ook {K : PySem.W.Frag} {F B B' : Hp} {as as' : List Addr} {o : Obj} {ho : HO} (h : flat o = true) (q : OOk K cs F B as o ho) : OOk K cs F B' as' o ho := by
  cases o <;> first | exact q | simp [flat] at h
section
variable {F B H : Hp} {as : List Addr} {env : Env} {st : Sto} {σ : L2.St}
theorem takeSt_len : ∀ {ls : List Nat} {os : Sto}, takeSt st ls = some os → os.length = ls.length
  | [], os, h => by simp only [takeSt] at h; cases h; rfl
  | l :: ls, os, h => by
    simp only [takeSt] at h
    obtain ⟨o, ho, h⟩ := obnd h
    split at h
    · obtain ⟨os', h', e⟩ := omap h
      cases e
      simp [takeSt_len h']
    · cases h
theorem takeSt_get : ∀ {ls : List Nat} {os : Sto} {j : Nat} {l : Nat}, takeSt st ls = some os → ls[j]? = some l → ∃ o, os[j]? = some o ∧ st[l]? = some o ∧ flat o = true
  | [], os, j, l, h, e => by simp at e
  | l :: ls, os, j, l', h, e => by
    simp only [takeSt] at h
    obtain ⟨o, ho, h⟩ := obnd h
    split at h
    · rename_i hf
      obtain ⟨os', h', e'⟩ := omap h
      cases e'
      cases j with
      | zero => simp at e; subst e; exact ⟨o, rfl, ho, hf⟩
      | succ j =>
        obtain ⟨o', a, b, c⟩ := takeSt_get (j := j) h' (by simpa using e)
        exact ⟨o', by simpa using a, b, c⟩
    · cases h
theorem backSt_len : ∀ {ls : List Nat} {os st : Sto}, (backSt st ls os).length = st.length
  | [], os, st => by cases os <;> rfl
  | l :: ls, [], st => rfl
  | l :: ls, o :: os, st => by show (backSt (st.set l o) ls os).length = _; rw [backSt_len, List.length_set]
theorem backSt_out : ∀ {ls : List Nat} {os st : Sto} {l : Nat}, l ∉ ls → (backSt st ls os)[l]? = st[l]?
  | [], os, st, l, _ => by cases os <;> rfl
  | k :: ls, [], st, l, _ => rfl
  | k :: ls, o :: os, st, l, h => by
    show (backSt (st.set k o) ls os)[l]? = _
    rw [backSt_out (fun z => h (List.mem_cons_of_mem _ z)), List.getElem?_set_ne (fun z => h (by rw [z]; exact List.mem_cons_self))]
theorem backSt_in : ∀ {ls : List Nat} {os st : Sto} {j l : Nat}, ls.Nodup → os.length = ls.length → (∀ l ∈ ls, l < st.length) → ls[j]? = some l → (backSt st ls os)[l]? = os[j]?
  | [], os, st, j, l, _, _, _, e => by simp at e
  | k :: ls, [], st, j, l, _, hl, _, e => by simp at hl
  | k :: ls, o :: os, st, 0, l, nd, hl, hb, e => by
    simp at e; subst e
    show (backSt (st.set k o) ls os)[k]? = some o
    rw [backSt_out (List.nodup_cons.mp nd).1, List.getElem?_set_self (hb k List.mem_cons_self)]
  | k :: ls, o :: os, st, j + 1, l, nd, hl, hb, e => by
    show (backSt (st.set k o) ls os)[l]? = os[j]?
    exact backSt_in (List.nodup_cons.mp nd).2 (by simpa using hl) (fun x hx => by rw [List.length_set]; exact hb x (List.mem_cons_of_mem _ hx)) (by simpa using e)
def adrs (as : List Addr) (ls : List Nat) : List Addr := ls.filterMap fun l => as[l]?
theorem adrs_cons {l : Nat} {ls : List Nat} {a : Addr} (h : as[l]? = some a) : adrs as (l :: ls) = a :: adrs as ls := by
  unfold adrs
  rw [List.filterMap_cons, h]
theorem adrs_get : ∀ {ls : List Nat} {j l : Nat}, (∀ l ∈ ls, l < as.length) → ls[j]? = some l → (adrs as ls)[j]? = as[l]?
  | [], j, l, _, e => by simp at e
  | k :: ls, j, l, h, e => by
    have hk := h k List.mem_cons_self
    rw [adrs_cons (List.getElem?_eq_getElem hk)]
    cases j with
    | zero => simp at e; subst e; rw [List.getElem?_eq_getElem hk]; rfl
    | succ j => simpa using adrs_get (j := j) (fun x hx => h x (List.mem_cons_of_mem _ hx)) (by simpa using e)
theorem adrs_mem {ls : List Nat} {a : Addr} (h : a ∈ adrs as ls) : ∃ l ∈ ls, as[l]? = some a := List.mem_filterMap.mp h
theorem adrs_len : ∀ {ls : List Nat}, (∀ l ∈ ls, l < as.length) → (adrs as ls).length = ls.length
  | [], _ => rfl
  | k :: ls, h => by
    rw [adrs_cons (List.getElem?_eq_getElem (h k List.mem_cons_self))]
    simp [adrs_len fun x hx => h x (List.mem_cons_of_mem _ hx)]
theorem adrs_nodup (nd : as.Nodup) : ∀ {ls : List Nat}, ls.Nodup → (adrs as ls).Nodup
  | [], _ => List.nodup_nil
  | k :: ls, h => by
    have ih := adrs_nodup nd (List.nodup_cons.mp h).2
    cases e : as[k]? with
    | none => unfold adrs; rw [List.filterMap_cons, e]; exact ih
    | some a =>
      rw [adrs_cons e]
      refine List.nodup_cons.mpr ⟨fun hm => ?_, ih⟩
      obtain ⟨l, hl, e2⟩ := adrs_mem hm
      exact (List.nodup_cons.mp h).1 (by rw [nd_ix nd e e2]; exact hl)
def lend (B H : Hp) (as : List Addr) (bor : List Nat) : Hp := fun a => if a ∈ adrs as bor then H a else B a
theorem lend_mono (r : RSt X.K cs F B as st H) {bor : List Nat} : ∀ a o, B a = some o → lend B H as bor a = some o := fun a o h => by
  unfold lend
  split
  · exact r.bh _ _ h
  · exact h
theorem Top.lend {B' : Hp} (h : ∀ a o, B a = some o → B' a = some o) {d : D} {u : V} (q : Top X.K B F d u) : Top X.K B' F d u := by
  cases d <;> first | exact q.elim | skip
  · obtain ⟨p, us, e, a, b⟩ := q; exact ⟨p, us, e, h _ _ a, b⟩
  · obtain ⟨p, us, e, a, l, b⟩ := q; exact ⟨p, us, e, rd_mono h a, l, b⟩
  · obtain ⟨p, us, e, a, l, b⟩ := q; exact ⟨p, us, e, rd_mono h a, l, b⟩
theorem prep_ok (r : RSt X.K cs F B as st H) {B' : Hp} {asc : List Addr} (hB : ∀ a o, B a = some o → B' a = some o) : ∀ {m : List Bool} {vs : List Val} {us : List V} {n : Nat} {args : List Val} {imp bor : List Nat}, prep st n m vs = some (args, imp, bor) → Paired (VOk X.K F B as) vs us →
    (∀ j l, imp[j]? = some l → asc[n + j]? = as[l]?) → (∀ l ∈ bor, ∀ a, as[l]? = some a → B' a = H a) → Paired (VOk X.K F B' asc) args us
  | [], [], _, n, args, imp, bor, h, .nil, _, _ => by simp only [prep] at h; cases h; exact .nil
  | b :: m, .dat d :: vs, _, n, args, imp, bor, h, .cons q qs, h1, h2 => by
    have h : ((prep st n m vs).map fun r => (Val.dat d :: r.1, r.2.1, r.2.2)) = some (args, imp, bor) := by cases b <;> simpa only [prep] using h
    obtain ⟨⟨a', i', b'⟩, h', e⟩ := omap h
    cases e
    exact .cons q (prep_ok r hB h' qs h1 h2)
  | b :: m, .bor d :: vs, _, n, args, imp, bor, h, .cons q qs, h1, h2 => by
    have h : ((prep st n m vs).map fun r => (Val.bor d :: r.1, r.2.1, r.2.2)) = some (args, imp, bor) := by cases b <;> simpa only [prep] using h
    obtain ⟨⟨a', i', b'⟩, h', e⟩ := omap h
    cases e
    exact .cons (Top.lend hB q) (prep_ok r hB h' qs h1 h2)
  | true :: m, .ref l :: vs, _, n, args, imp, bor, h, .cons q qs, h1, h2 => by
    simp only [prep] at h
    obtain ⟨⟨a', i', b'⟩, h', e⟩ := omap h
    cases e
    obtain ⟨a, ea, rfl⟩ := q
    refine .cons ⟨a, ?_, rfl⟩ (prep_ok r hB h' qs (fun j k hj => ?_) h2)
    · have := h1 0 l rfl
      simpa [ea] using this
    · have := h1 (j + 1) k (by simpa using hj)
      rw [show n + 1 + j = n + (j + 1) by omega]; exact this
  | true :: m, .tup pre l post :: vs, _, n, args, imp, bor, h, .cons q qs, h1, h2 => by
    simp only [prep] at h
    obtain ⟨⟨a', i', b'⟩, h', e⟩ := omap h
    cases e
    obtain ⟨p, ps, ws, a, rfl, hF, g1, g2, ea⟩ := q
    refine .cons ⟨p, ps, ws, a, rfl, hF, g1, g2, ?_⟩ (prep_ok r hB h' qs (fun j k hj => ?_) h2)
    · have := h1 0 l rfl
      simpa [ea] using this
    · have := h1 (j + 1) k (by simpa using hj)
      rw [show n + 1 + j = n + (j + 1) by omega]; exact this
  | false :: m, .tup pre l post :: vs, _, n, args, imp, bor, h, _, _, _ => by simp [prep] at h
  | false :: m, .ref l :: vs, _, n, args, imp, bor, h, .cons q qs, h1, h2 => by
    simp only [prep] at h
    obtain ⟨d, hd, h⟩ := obnd h
    obtain ⟨⟨a', i', b'⟩, h', e⟩ := omap h
    cases e
    obtain ⟨a, ea, rfl⟩ := q
    obtain ⟨o, ho, hf⟩ := obnd hd
    obtain ⟨_, hb, e1, e2⟩ := r.obj l a o ea ho
    have eb : B' a = some hb := by rw [h2 l List.mem_cons_self a ea]; exact e1
    refine .cons ?_ (prep_ok r hB h' qs h1 fun l' hl => h2 l' (List.mem_cons_of_mem _ hl))
    cases o with
    | lst ds => simp only [fzO] at hf; cases hf; obtain ⟨us, rfl, b⟩ := e2; exact ⟨a, us, rfl, eb, b⟩
    | dK ks ds => simp only [fzO] at hf; cases hf; obtain ⟨us, rfl, l, b⟩ := e2; exact ⟨a, us, rfl, .inl eb, l, b⟩
    | dT ks ds => simp only [fzO] at hf; cases hf; obtain ⟨us, rfl, l, b⟩ := e2; exact ⟨a, us, rfl, .inl eb, l, b⟩
    | ins _ _ => simp [fzO] at hf
    | dead => simp [fzO] at hf
  | [], _ :: _, _, n, args, imp, bor, h, _, _, _ => by simp [prep] at h
  | _ :: _, [], _, n, args, imp, bor, h, _, _, _ => by simp [prep] at h
theorem RSt.lt (r : RSt X.K cs F B as st H) {l : Nat} {o : Obj} (h : st[l]? = some o) : l < as.length := by
  rw [r.len]; exact (List.getElem?_eq_some_iff.mp h).1
theorem handed (r : RSt X.K cs F B as st H) {imp bor : List Nat} {os : Sto} (ht : takeSt st imp = some os) (hn : imp.Nodup) (hb : ∀ x ∈ bor, x ∉ imp) : RSt X.K cs F (lend B H as bor) (adrs as imp) os H := by
  have lt : ∀ l ∈ imp, l < as.length := fun l hl => by
    obtain ⟨j, hj, e⟩ := List.mem_iff_getElem.mp hl
    obtain ⟨o, _, ho, _⟩ := takeSt_get ht (by rw [List.getElem?_eq_getElem hj, e] : imp[j]? = some l)
    exact r.lt ho
  refine ⟨r.fh, fun a o h => ?_, adrs_nodup r.nd hn, by rw [adrs_len lt, takeSt_len ht], fun a ha => ?_, fun j a o e1 e2 => ?_⟩
  · unfold lend at h
    split at h
    · exact h
    · exact r.bh _ _ h
  · obtain ⟨l, hl, e⟩ := adrs_mem ha
    unfold lend
    rw [if_neg]
    · exact r.nb a (List.mem_of_getElem? e)
    · intro hm
      obtain ⟨l', hl', e'⟩ := adrs_mem hm
      rw [nd_ix r.nd e' e] at hl'
      exact hb l hl' hl
  · have hj : j < imp.length := by rw [← takeSt_len ht]; exact (List.getElem?_eq_some_iff.mp e2).1
    have el := List.getElem?_eq_getElem hj
    obtain ⟨o', h1, h2, h3⟩ := takeSt_get ht el
    rw [e2] at h1; cases h1
    rw [adrs_get lt el] at e1
    obtain ⟨z, ho, e3, e4⟩ := r.obj _ a o e1 h2
    exact ⟨z, ho, e3, flat_ook h3 e4⟩
theorem taken (r : RSt X.K cs F B as st H) {imp bor : List Nat} {os os' : Sto} (ht : takeSt st imp = some os) (hn : imp.Nodup) {F' H' : Hp} (r' : RSt X.K cs F' (lend B H as bor) (adrs as imp) os' H') (x' : Ext F (adrs as imp) H F' (adrs as imp) H') (hf : os'.all flat = true) (hl : os'.length = os.length) :
    RSt X.K cs F' B as (backSt st imp os') H' ∧ Ext F as H F' as H' := by
  have lt : ∀ l ∈ imp, l < as.length := fun l hl => by
    obtain ⟨j, hj, e⟩ := List.mem_iff_getElem.mp hl
    obtain ⟨o, _, ho, _⟩ := takeSt_get ht (by rw [List.getElem?_eq_getElem hj, e] : imp[j]? = some l)
    exact r.lt ho
  have sub : ∀ {a}, a ∈ adrs as imp → a ∈ as := fun h => let ⟨l, _, e⟩ := adrs_mem h; List.mem_of_getElem? e
  have fr : ∀ a o, H a = some o → a ∉ adrs as imp → H' a = some o := x'.fr
  refine ⟨⟨r'.fh, fun a o h => ?_, r.nd, by rw [backSt_len]; exact r.len, r.nb, fun l a o e1 e2 => ?_⟩, ⟨x'.ff, List.prefix_refl _, fun a o h hn => fr a o h fun z => hn (sub z), fun a ha => ?_, fun a h h0 => (x'.nf a h h0).imp id sub, fun a h h0 => absurd h h0⟩⟩
  · refine fr a o (r.bh _ _ h) fun z => ?_
    rw [r.nb a (sub z)] at h; cases h
  · by_cases hm : l ∈ imp
    · obtain ⟨j, hj, e⟩ := List.mem_iff_getElem.mp hm
      have ej : imp[j]? = some l := by rw [List.getElem?_eq_getElem hj, e]
      rw [backSt_in hn (by rw [hl, takeSt_len ht]) (fun x hx => by rw [← r.len]; exact lt x hx) ej] at e2
      obtain ⟨z, ho, e3, e4⟩ := r'.obj j a o (by rw [adrs_get lt ej]; exact e1) e2
      exact ⟨z, ho, e3, flat_ook (List.all_eq_true.mp hf o (List.mem_of_getElem? e2)) e4⟩
    · rw [backSt_out hm] at e2
      obtain ⟨z, ho, e3, e4⟩ := r.obj l a o e1 e2
      have na : a ∉ adrs as imp := fun h => by
        obtain ⟨l', hl', e'⟩ := adrs_mem h
        rw [nd_ix r.nd e' e1] at hl'
        exact hm hl'
      refine ⟨z.imp id fun z => ?_, ho, fr _ _ e3 na, e4.mono x'.ff (List.prefix_refl _)⟩
      cases q : F' a with
      | none => rfl
      | some y =>
        rcases x'.nf a (by rw [q]; simp) z with w | w
        · rw [e3] at w; cases w
        · exact absurd w na
  · cases q : H a with
    | none => exact absurd q (r.there a ha)
    | some o =>
      by_cases hm : a ∈ adrs as imp
      · exact x'.frA a hm
      · rw [fr a o q hm]; simp
theorem RSt.fz (r : RSt X.K cs F B as st H) {F0 H0 : Hp} {as0 : List Addr} (x : Ext F0 as0 H0 F as H) {p : Addr} {ho : HO} (h0 : H0 p = none) (hF : F p = none) (hH : H p = some ho) (nas : p ∉ as) : RSt X.K cs (upd F p ho) B as st H ∧ Ext F0 as0 H0 (upd F p ho) as H := by
  have hff : ∀ a o, F a = some o → (upd F p ho) a = some o := fun a o h => by rw [upd_ne (by intro e; rw [e, hF] at h; cases h)]; exact h
  refine ⟨⟨fun a o h => ?_, r.bh, r.nd, r.len, r.nb, fun l a o e1 e2 => ?_⟩, ⟨fun a o h => hff _ _ (x.ff _ _ h), x.pre, x.fr, x.frA, fun a h h1 => ?_, x.na⟩⟩
  · by_cases e : a = p
    · subst e; rw [upd_same] at h; cases h; exact hH
    · rw [upd_ne e] at h; exact r.fh _ _ h
  · obtain ⟨z, h', e3, e4⟩ := r.obj l a o e1 e2
    have ne : a ≠ p := fun e => nas (e ▸ List.mem_of_getElem? e1)
    exact ⟨z.imp id fun z => by rw [upd_ne ne]; exact z, h', e3, e4.mono hff (List.prefix_refl _)⟩
  · by_cases e : a = p
    · subst e; exact .inl h0
    · rw [upd_ne e] at h; exact x.nf a h h1
theorem RSt.adopt (r : RSt X.K cs F B as st H) {F0 H0 : Hp} {as0 : List Addr} (x : Ext F0 as0 H0 F as H) {p : Addr} {o : Obj} {ho : HO} (h0 : H0 p = none) (hF : F p = none) (hB : B p = none) (hH : H p = some ho) (nas : p ∉ as) (ok : OOk X.K cs F B (as ++ [p]) o ho) :
    RSt X.K cs F B (as ++ [p]) (st ++ [o]) H ∧ Ext F0 as0 H0 F (as ++ [p]) H := by
  refine ⟨⟨r.fh, r.bh, ?_, by simp [r.len], fun a h => ?_, fun l a y e1 e2 => ?_⟩, ⟨x.ff, x.pre.trans (List.prefix_append _ _), x.fr, x.frA, x.nf, fun a h h1 => ?_⟩⟩
  · rw [List.nodup_append]
    exact ⟨r.nd, by simp, fun a h b h' e => by simp at h'; subst h'; subst e; exact nas h⟩
  · rcases List.mem_append.mp h with h | h
    · exact r.nb a h
    · simp at h; subst h; exact hB
  · by_cases hl : l < as.length
    · rw [List.getElem?_append_left hl] at e1
      rw [List.getElem?_append_left (by rw [← r.len]; exact hl)] at e2
      obtain ⟨z, h', e3, e4⟩ := r.obj l a y e1 e2
      exact ⟨z, h', e3, e4.mono (fun _ _ h => h) (List.prefix_append _ _)⟩
    · have hl1 : as.length ≤ l := by omega
      rw [List.getElem?_append_right hl1] at e1
      rw [List.getElem?_append_right (by rw [← r.len]; exact hl1)] at e2
      have h0 : l - as.length = 0 := by
        rcases Nat.eq_zero_or_pos (l - as.length) with h | h
        · exact h
        · rw [List.getElem?_eq_none (by simp; omega)] at e1; cases e1
      rw [h0] at e1
      rw [← r.len, h0] at e2
      simp at e1 e2
      subst e1; subst e2
      exact ⟨.inr hF, ho, hH, ok⟩
  · rcases List.mem_append.mp h with h | h
    · exact x.na a h h1
    · simp at h; subst h; exact h0
theorem frozen_den {o : Obj} {d : D} {p : Addr} {ho : HO} (hf : fzO o = some d) (q : OOk X.K cs F B as o ho) (hF : F p = none) : Den X.K (upd F p ho) d (.ref p) := by
  have hff : ∀ a o, F a = some o → (upd F p ho) a = some o := fun a o h => by rw [upd_ne (by intro e; rw [e, hF] at h; cases h)]; exact h
  cases o with
  | lst ds => simp only [fzO] at hf; cases hf; obtain ⟨us, rfl, b⟩ := q; exact Den.lst_iff.mpr ⟨p, us, rfl, upd_same, Dens.mono hff _ _ b⟩
  | dK ks ds => simp only [fzO] at hf; cases hf; obtain ⟨us, rfl, l, b⟩ := q; exact Den.dK_iff.mpr ⟨p, us, rfl, .inl upd_same, l, Dens.mono hff _ _ b⟩
  | dT ks ds => simp only [fzO] at hf; cases hf; obtain ⟨us, rfl, l, b⟩ := q; exact Den.dT_iff.mpr ⟨p, us, rfl, .inl upd_same, l, Dens.mono hff _ _ b⟩
  | ins _ _ => simp [fzO] at hf
  | dead => simp [fzO] at hf
end
structure FnAt (X : Cx) (cs : Nat → Option Addr) (d : Nat) (n : Nat) (x : Str) (fn : List Val → Sto → Option (Ret × Sto)) : Prop where
  ex : ∃ (fa : Addr) (fd : FuncData) (ps : List Str), X.mg x = some (.ref fa) ∧ PySem.W.keepIn X.K (.ref fa) = true ∧ Binds X.K fd ps [] ∧ FnOk X.prog X.w X.K X.mg X.base CX0 d fa fd ps (spF X.K cs n fn)
def fCallV (C : Calls) (i : Nat) (m : List Bool) (g : Env → Sto → Option (List Val × Sto)) : Env → Sto → Option ((Ret × Sto)) := fun env st => (g env st).bind fun r => callV C i m r.1 r.2
theorem call_of {C : Calls} {i : Nat} {m : List Bool} {n : Nat} {σ : L2.St} {H : Hp} {Q : VK} {E : XK} {F B : Hp} {as : List Addr} {env : Env} {st : Sto} {ret : Ret} {st' : Sto} (r : Rel X.K cs F B as env st σ H) (ev : fCallV C i m g env st = some (ret, st')) (hn : ∀ a s q, C i a s = some q → a.length = n)
    (k : ∀ F' as' H' u F0 H0 s0, Rel X.K cs F0 B as' env s0 σ H0 → Rel X.K cs F' B as' env st' σ H' → Ext F as H F0 as' H0 → Ext F0 as' H0 F' as' H' → RetOk X.K cs F' B as' H0 H' ret u → Q u H') : tCall (spF X.K cs n (C i)) [] E (tEs X.K cs g) σ H Q := by
  obtain ⟨⟨vs, s1⟩, e1, ev1⟩ := obnd ev
  unfold callV at ev1
  obtain ⟨⟨args, imp, bor⟩, hp, ev2⟩ := obnd ev1
  dsimp only at ev2
  split at ev2
  · rename_i hc
    obtain ⟨os, hos, ev3⟩ := obnd ev2
    obtain ⟨⟨ret', os'⟩, hC, ev4⟩ := obnd ev3
    dsimp only at ev4
    split at ev4
    · rename_i hz
      cases ev4
      rw [Bool.and_eq_true, decide_eq_true_eq] at hz
      refine ⟨F, B, as, env, st, vs, s1, r, e1, fun F1 as1 H1 us r1 x1 v1 => ?_⟩
      show spF X.K cs n (C i) (us ++ []) H1 Q E
      rw [List.append_nil]
      have lt : ∀ l ∈ imp, l < as1.length := fun l hl => by
        obtain ⟨j, hj, e⟩ := List.mem_iff_getElem.mp hl
        obtain ⟨o, _, ho, _⟩ := takeSt_get hos (by rw [List.getElem?_eq_getElem hj, e] : imp[j]? = some l)
        exact r1.toRSt.lt ho
      refine ⟨F1, lend B H1 as1 bor, adrs as1 imp, args, os, ret, os', handed r1.toRSt hos hc.1 hc.2, prep_ok r1.toRSt (lend_mono r1.toRSt) hp v1 (fun j l hj => ?_) (fun l hl a ha => ?_), hn _ _ _ hC, hC, fun F' H' u r' x' q => ?_⟩
      · rw [Nat.zero_add]; exact adrs_get lt hj
      · unfold lend
        exact if_pos (List.mem_filterMap.mpr ⟨l, hl, ha⟩)
      · obtain ⟨r2, x2⟩ := taken r1.toRSt hos hc.1 r' x' hz.1 hz.2
        refine k F' as1 H' u F1 H1 s1 r1 (r1.slots x2 r2) x1 x2 ?_
        cases ret with
        | dat d => exact q
        | own o =>
          obtain ⟨p, ho, e2, e3, e4, e5, e6, e7, e8⟩ := q
          exact ⟨p, ho, e2, e3, e4, e5, e6, e7, flat_ook e6 e8⟩
        | val v => exact q.elim
        | tup pre o post =>
          obtain ⟨p, vs', ws', a, ho, e2, t1, t2, t3, e3, e4, e5, e6, e7, e8⟩ := q
          exact ⟨p, vs', ws', a, ho, e2, t1, t2, t3, e3, e4, e5, e6, e7, flat_ook e6 e8⟩
    · cases ev4
  · cases ev2
def frz (q : Ret × Sto) : Option (Val × Sto) := match q.1 with
  | .dat d => some (.dat d, q.2)
  | .own o => (fzO o).map fun d => (.dat d, q.2)
  | .val _ => none
  | .tup pre o post => (fzO o).bind fun d => if prs (pre ++ d :: post) then none else some (.dat (.tup (pre ++ d :: post)), q.2)
def own (q : Ret × Sto) : Option (Val × Sto) := match q.1 with
  | .dat _ => none
  | .own o => some (.ref q.2.length, q.2 ++ [o])
  | .val _ => none
  | .tup _ _ _ => none
def takT (q : Ret × Sto) : Option (Val × Sto) := match q.1 with
  | .dat d => some (.dat d, q.2)
  | .own _ => none
  | .val _ => none
  | .tup pre o post => some (.tup pre q.2.length post, q.2 ++ [o])
theorem frz_of {C : Calls} {i : Nat} {m : List Bool} {n : Nat} {E : XK} (hn : ∀ a s q, C i a s = some q → a.length = n) : ∀ σ H Q, tE X.K cs (fun env st => (fCallV C i m g env st).bind frz) σ H Q → tCall (spF X.K cs n (C i)) [] E (tEs X.K cs g) σ H Q := fun σ H Q ⟨F, B, as, env, st, v, st', r, ev, k⟩ => by
  obtain ⟨⟨ret, s1⟩, e1, ev1⟩ := obnd ev
  refine call_of r e1 hn fun F' as' H' u F0 H0 s0 r0 r' x0 x' q => ?_
  cases ret with
  | dat d =>
    cases ev1
    exact k F' as' H' u r' (x0.trans x') q
  | own o =>
    have ev1 : ((fzO o).map fun d => (Val.dat d, s1)) = some (v, st') := ev1
    obtain ⟨d, hd, e⟩ := omap ev1
    cases e
    obtain ⟨p, ho, rfl, h0, hF, hH, hf, nd, ok⟩ := q
    have nas : p ∉ as' := fun h => r0.toRSt.there p h h0
    obtain ⟨r2, x2⟩ := r'.toRSt.fz x' h0 hF hH nas
    exact k _ as' H' _ (r0.slots x2 r2) (x0.trans x2) (frozen_den hd ok hF)
  | val v => cases ev1
  | tup pre o post =>
    have ev1 : ((fzO o).bind fun d => if prs (pre ++ d :: post) then none else some (Val.dat (.tup (pre ++ d :: post)), s1)) = some (v, st') := ev1
    obtain ⟨d, hd, e⟩ := obnd ev1
    split at e
    · cases e
    · rename_i hn
      cases e
      obtain ⟨p, vs, ws, a, ho, rfl, t1, t2, t3, h0, hF, hH, hf, nd, ok⟩ := q
      have nas : a ∉ as' := fun h => r0.toRSt.there a h h0
      obtain ⟨r2, x2⟩ := r'.toRSt.fz x' h0 hF hH nas
      have hff : ∀ b x, F' b = some x → (upd F' a ho) b = some x := fun b x h => by rw [upd_ne (by intro e; rw [e, hF] at h; cases h)]; exact h
      exact k _ as' H' _ (r0.slots x2 r2) (x0.trans x2) (Den.tup_iff.mpr ⟨p, _, rfl, .plain (hff _ _ t1) (by simpa using hn), (Dens.mono hff _ _ t2).append (Dens.cons.mpr ⟨_, _, rfl, frozen_den hd ok hF, Dens.mono hff _ _ t3⟩)⟩)
theorem own_of {C : Calls} {i : Nat} {m : List Bool} {n : Nat} {E : XK} (hn : ∀ a s q, C i a s = some q → a.length = n) : ∀ σ H Q, tE X.K cs (fun env st => (fCallV C i m g env st).bind own) σ H Q → tCall (spF X.K cs n (C i)) [] E (tEs X.K cs g) σ H Q := fun σ H Q ⟨F, B, as, env, st, v, st', r, ev, k⟩ => by
  obtain ⟨⟨ret, s1⟩, e1, ev1⟩ := obnd ev
  refine call_of r e1 hn fun F' as' H' u F0 H0 s0 r0 r' x0 x' q => ?_
  cases ret with
  | dat d => cases ev1
  | own o =>
    cases ev1
    obtain ⟨p, ho, rfl, h0, hF, hH, hf, nd, ok⟩ := q
    have nas : p ∉ as' := fun h => r0.toRSt.there p h h0
    have pB : B p = none := by
      cases z : B p with
      | none => rfl
      | some y => rw [r0.bh _ _ z] at h0; cases h0
    obtain ⟨r2, x2⟩ := r'.toRSt.adopt x' h0 hF pB hH nas (flat_ook hf ok)
    refine k _ (as' ++ [p]) H' _ (r0.slots x2 r2) (x0.trans x2) ⟨p, ?_, rfl⟩
    rw [show s1.length = as'.length from r'.len.symm, List.getElem?_append_right (Nat.le_refl _), Nat.sub_self]
    rfl
  | val v => cases ev1
  | tup _ _ _ => cases ev1
theorem tak_of {C : Calls} {i : Nat} {m : List Bool} {n : Nat} {E : XK} (hn : ∀ a s q, C i a s = some q → a.length = n) : ∀ σ H Q, tE X.K cs (fun env st => (fCallV C i m g env st).bind takT) σ H Q → tCall (spF X.K cs n (C i)) [] E (tEs X.K cs g) σ H Q := fun σ H Q ⟨F, B, as, env, st, v, st', r, ev, k⟩ => by
  obtain ⟨⟨ret, s1⟩, e1, ev1⟩ := obnd ev
  refine call_of r e1 hn fun F' as' H' u F0 H0 s0 r0 r' x0 x' q => ?_
  cases ret with
  | dat d =>
    cases ev1
    exact k F' as' H' u r' (x0.trans x') q
  | own o => cases ev1
  | val v => cases ev1
  | tup pre o post =>
    cases ev1
    obtain ⟨p, vs, ws, a, ho, rfl, t1, t2, t3, h0, hF, hH, hf, nd, ok⟩ := q
    have nas : a ∉ as' := fun h => r0.toRSt.there a h h0
    have pB : B a = none := by
      cases z : B a with
      | none => rfl
      | some y => rw [r0.bh _ _ z] at h0; cases h0
    obtain ⟨r2, x2⟩ := r'.toRSt.adopt x' h0 hF pB hH nas (flat_ook hf ok)
    refine k _ (as' ++ [a]) H' _ (r0.slots x2 r2) (x0.trans x2) ⟨p, vs, ws, a, rfl, t1, t2, t3, ?_⟩
    rw [show s1.length = as'.length from r'.len.symm, List.getElem?_append_right (Nat.le_refl _), Nat.sub_self]
    rfl
theorem s_call {C : Calls} {i : Nat} {m : List Bool} {d n : Nat} {x : Str} {p : Pos} (hx : FnAt X cs d n x (C i)) (hn : ∀ a s q, C i a s = some q → a.length = n) (hr : Room d X.A) (hg : Gl X x) (ha : PA X (e :: es) (tEs X.K cs g)) (hd : (x == ("__debug__" : Str)) = false)
    (hs : starEach (e :: es) X.env = (false, eval e X.env) :: starEach es X.env) (ht : ((backTo pos (starEach es X.env)).any (·.1)) = false) : PE X (.Call (.Name x p) (e :: es) [] pos) (tE X.K cs fun env st => (fCallV C i m g env st).bind frz) := by
  obtain ⟨fa, fd, ps, h1, h2, h3, h4⟩ := hx.ex
  exact (pe_call h4 hr hg h1 h2 h3 .nil pass0 ha hd hs ht).weak (frz_of hn)
theorem s_callA {C : Calls} {i : Nat} {m : List Bool} {d n : Nat} {x : Str} {p : Pos} (hx : FnAt X cs d n x (C i)) (hn : ∀ a s q, C i a s = some q → a.length = n) (hr : Room d X.A) (hg : Gl X x) (ha : PA X (e :: es) (tEs X.K cs g)) (hd : (x == ("__debug__" : Str)) = false)
    (hs : starEach (e :: es) X.env = (false, eval e X.env) :: starEach es X.env) (ht : ((backTo pos (starEach es X.env)).any (·.1)) = false) : PE X (.Call (.Name x p) (e :: es) [] pos) (tE X.K cs fun env st => (fCallV C i m g env st).bind own) := by
  obtain ⟨fa, fd, ps, h1, h2, h3, h4⟩ := hx.ex
  exact (pe_call h4 hr hg h1 h2 h3 .nil pass0 ha hd hs ht).weak (own_of hn)
theorem s_callT {C : Calls} {i : Nat} {m : List Bool} {d n : Nat} {x : Str} {p : Pos} (hx : FnAt X cs d n x (C i)) (hn : ∀ a s q, C i a s = some q → a.length = n) (hr : Room d X.A) (hg : Gl X x) (ha : PA X (e :: es) (tEs X.K cs g)) (hd : (x == ("__debug__" : Str)) = false)
    (hs : starEach (e :: es) X.env = (false, eval e X.env) :: starEach es X.env) (ht : ((backTo pos (starEach es X.env)).any (·.1)) = false) : PE X (.Call (.Name x p) (e :: es) [] pos) (tE X.K cs fun env st => (fCallV C i m g env st).bind takT) := by
  obtain ⟨fa, fd, ps, h1, h2, h3, h4⟩ := hx.ex
  exact (pe_call h4 hr hg h1 h2 h3 .nil pass0 ha hd hs ht).weak (tak_of hn)
theorem allD_ok {F B : Hp} {as : List Addr} : ∀ {vs : List Val} {us : List V} {ds : List D}, allD vs = some ds → Paired (VOk X.K F B as) vs us → Dens X.K F ds us
  | [], _, ds, h, .nil => by simp only [allD] at h; cases h; exact Dens.nil.mpr rfl
  | v :: vs, _, ds, h, .cons (b := u) (l₂ := us) q qs => by
    cases v with
    | dat d =>
      simp only [allD] at h
      obtain ⟨r, hr, e⟩ := omap h
      subst e
      exact Dens.cons.mpr ⟨u, us, rfl, q, allD_ok hr qs⟩
    | bor _ => simp [allD] at h
    | ref _ => simp [allD] at h
    | tup _ _ _ => simp [allD] at h
theorem toV1_ok {F B : Hp} {as : List Addr} : ∀ {vs : List Val} {us : List V} {q : List D × Nat × List D}, toV1 vs = some q → Paired (VOk X.K F B as) vs us → ∃ ws zs a, us = ws ++ V.ref a :: zs ∧ Dens X.K F q.1 ws ∧ Dens X.K F q.2.2 zs ∧ as[q.2.1]? = some a
  | [], _, q, h, .nil => by simp [toV1] at h
  | v :: vs, _, q, h, .cons (b := u) (l₂ := us) p ps => by
    cases v with
    | dat d =>
      simp only [toV1] at h
      obtain ⟨r, hr, e⟩ := omap h
      subst e
      obtain ⟨ws, zs, a, rfl, d1, d2, ea⟩ := toV1_ok hr ps
      exact ⟨u :: ws, zs, a, rfl, Dens.cons.mpr ⟨u, ws, rfl, p, d1⟩, d2, ea⟩
    | bor _ => simp [toV1] at h
    | ref l =>
      simp only [toV1] at h
      obtain ⟨r, hr, e⟩ := omap h
      subst e
      obtain ⟨a, ea, rfl⟩ := p
      exact ⟨[], us, a, rfl, Dens.nil.mpr rfl, allD_ok hr ps, ea⟩
    | tup _ _ _ => simp [toV1] at h
def fTupV (g : Env → Sto → Option (List Val × Sto)) : Env → Sto → Option (Val × Sto) := fun env st => (g env st).bind fun r => (toV1 r.1).map fun q => (.tup q.1 q.2.1 q.2.2, r.2)
theorem s_tupV {x1 : Nat} (h : PA X es (tEs X.K cs g)) (hl : ∀ env st vs st', g env st = some (vs, st') → vs.length ≤ LIM) : PE X (.Tuple es x1 pos) (tE X.K cs (fTupV g)) := (pe_tup h).weak fun σ H Q ⟨F, B, as, env, st, v, st', r, ev, k⟩ => by
  obtain ⟨⟨vs, s1⟩, e1, ev1⟩ := obnd ev
  obtain ⟨q, e2, ev2⟩ := omap ev1
  cases ev2
  refine ⟨F, B, as, env, st, vs, s1, r, e1, fun F1 as1 H1 us r1 x1 v1 => ⟨by rw [← line_eq, ← Paired.len v1]; exact hl _ _ _ _ e1, fun p hp => ?_⟩⟩
  obtain ⟨ws, zs, a, rfl, d1, d2, ea⟩ := toV1_ok e2 v1
  obtain ⟨r3, x3⟩ := r1.frozen (o := .tup (ws ++ V.ref a :: zs)) hp
  exact k _ as1 _ _ r3 (x1.trans x3) ⟨p, ws, zs, a, rfl, upd_same, Dens.mono x3.ff _ _ d1, Dens.mono x3.ff _ _ d2, ea⟩
def fIdxT (f1 f2 : Env → Sto → Option (Val × Sto)) : Env → Sto → Option (Val × Sto) := fun env st => (f1 env st).bind fun r => (f2 env r.2).bind fun q => (intOf q.1).bind fun k => (idxTV r.1 k).map fun v => (v, q.2)
theorem s_idxT (h1 : PE X e1 (tE X.K cs f1)) (h2 : PE X e2 (tE X.K cs f2)) (hs : nSlice e2 = true) : PE X (.Subscript e1 e2 pos) (tE X.K cs (fIdxT f1 f2)) := by
  have pi : PlainIx e2 := fun o i => by cases e2 <;> first | rfl | simp [nSlice] at hs
  refine ⟨fun pins s σ H Q I hw => ?_⟩
  obtain ⟨F, B, as, env, st, v, st', r, ev, k⟩ := hw
  obtain ⟨⟨x, st1⟩, ha, ev1⟩ := obnd ev
  obtain ⟨⟨y, st2⟩, hb, ev2⟩ := obnd ev1
  obtain ⟨i, hi, ev3⟩ := obnd ev2
  obtain ⟨zv, hz, ev4⟩ := omap ev3
  clear ev ev1 ev2 ev3
  cases ev4
  dsimp only at ha hb hi hz k
  refine (pe_ix ix_tup h1 h2 pi).run pins s σ H Q I (two r ha hb fun F' as' H' u w r' x' v1 v2 => ?_)
  have ei : w = .int i := by
    unfold intOf at hi
    split at hi
    · cases hi; exact int_of v2
    · cases hi
  unfold idxTV at hz
  split at hz
  · obtain ⟨d, hd, e⟩ := omap hz
    subst e
    obtain ⟨p, us, rfl, hp, hq⟩ := Den.tup_iff.mp v1
    obtain ⟨z, hz, qz⟩ := at_ok hd hq
    exact ⟨p, us, _, z, rfl, ei, .inl (rd_mono r'.fh hp.rd), hz, k F' as' H' _ r' x' qz⟩
  · rename_i pre l post
    obtain ⟨j, hj, hz⟩ := obnd hz
    obtain ⟨p, vs, ws, a, rfl, f, d1, d2, ea⟩ := v1
    have hlen : (vs ++ V.ref a :: ws).length = pre.length + 1 + post.length := by
      rw [List.length_append, List.length_cons, d1.length, d2.length]; omega
    have hat : ∀ u, (vs ++ V.ref a :: ws)[j]? = some u → atI (vs ++ V.ref a :: ws) i = some u := fun u hu => by
      unfold atI
      rw [hlen, show ixN (pre.length + 1 + post.length) i = some j from hj]
      exact hu
    have fin : ∀ u, (vs ++ V.ref a :: ws)[j]? = some u → VOk X.K F' B as' v u → ∃ a0 xs i0 z0, V.ref p = .ref a0 ∧ w = .int i0 ∧ SqT X.K H' a0 xs ∧ atI xs i0 = some z0 ∧ Q z0 H' := fun u hu hv =>
      ⟨p, _, i, u, rfl, ei, .of (r'.fh _ _ f), hat u hu, k F' as' H' _ r' x' hv⟩
    split at hz
    · rename_i hlt
      obtain ⟨d, hd, e⟩ := omap hz
      subst e
      obtain ⟨u, hu, qu⟩ := d1.get hd
      exact fin u (by rw [List.getElem?_append_left (by rw [d1.length]; exact hlt)]; exact hu) qu
    · rename_i hlt
      split at hz
      · rename_i hje
        cases hz
        exact fin (.ref a) (by rw [List.getElem?_append_right (by rw [d1.length]; omega), d1.length, hje, Nat.sub_self]; rfl) ⟨a, ea, rfl⟩
      · rename_i hne
        obtain ⟨d, hd, e⟩ := omap hz
        subst e
        obtain ⟨u, hu, qu⟩ := d2.get hd
        refine fin u ?_ qu
        rw [List.getElem?_append_right (by rw [d1.length]; omega), d1.length, show j - pre.length = (j - pre.length - 1) + 1 by omega, List.getElem?_cons_succ]
        exact hu
  · cases hz
end
end NK
set_option Elab.async false
set_option linter.all false
set_option autoImplicit false
set_option maxRecDepth 100000
namespace NK
open PySem PySem.Spec PyProof.Rows L2
section
variable {X : Cx} {cs : Nat → Option Addr} {e e1 e2 e3 : Expr} {es : List Expr} {f f1 f2 f3 : Env → Sto → Option (Val × Sto)} {g : Env → Sto → Option (List Val × Sto)} {pos : Pos}
section
variable {F B H : Hp} {as : List Addr} {env : Env} {st : Sto} {σ : L2.St}
theorem RSt.extra (r : RSt X.K cs F B as st H) {p : Addr} {o : HO} (hp : H p = none) : RSt X.K cs F B as st (upd H p o) ∧ Ext F as H F as (upd H p o) := by
  have nep : ∀ {a}, H a ≠ none → a ≠ p := fun h e => h (by rw [e]; exact hp)
  have up : ∀ a x, H a = some x → (upd H p o) a = some x := fun a x h => by rw [upd_ne (nep (by rw [h]; simp))]; exact h
  refine ⟨⟨fun a x h => up _ _ (r.fh _ _ h), fun a x h => up _ _ (r.bh _ _ h), r.nd, r.len, r.nb, fun l a x e1 e2 => ?_⟩, ⟨fun _ _ h => h, List.prefix_refl _, fun a x h _ => up _ _ h, fun a h => ?_, fun a h h' => absurd h' h, fun a h h' => absurd h h'⟩⟩
  · obtain ⟨z, ho, e3, e4⟩ := r.obj l a x e1 e2
    exact ⟨z, ho, up _ _ e3, e4⟩
  · have := r.there a h
    rw [upd_ne (nep this)]; exact this
theorem RSt.free (r : RSt X.K cs F B as st H) {p : Addr} (hp : H p = none) : F p = none ∧ B p = none ∧ p ∉ as := by
  refine ⟨?_, ?_, fun h => r.there p h hp⟩
  · cases q : F p with
    | none => rfl
    | some x => rw [r.fh _ _ q] at hp; cases hp
  · cases q : B p with
    | none => rfl
    | some x => rw [r.bh _ _ q] at hp; cases hp
theorem Ext.back {F' : Hp} {as' : List Addr} {H' : Hp} (x : Ext F as H F' as' H') {p : Addr} (hp : H' p = none) : H p = none := by
  cases q : H p with
  | none => rfl
  | some o =>
    by_cases h : p ∈ as
    · exact absurd hp (x.frA p h)
    · rw [x.fr _ _ q h] at hp; cases hp
theorem fresh_k {F' H' : Hp} {as' : List Addr} {st' : Sto} (r' : Rel X.K cs F' B as' env st' σ H') (x' : Ext F as H F' as' H') {o : Obj} {Q : VK} {p : Addr} {ho : HO} (hp : H' p = none) (ok : OOk X.K cs F' B as' o ho)
    (k : ∀ F' as' H' p ho, Rel X.K cs F' B as' env st' σ H' → Ext F as H F' as' H' → H p = none → F' p = none → p ∉ as' → H' p = some ho → OOk X.K cs F' B as' o ho → Q (.ref p) H') : Q (.ref p) (upd H' p ho) := by
  obtain ⟨r2, x2⟩ := r'.toRSt.extra (o := ho) hp
  obtain ⟨f1, f2, f3⟩ := r'.toRSt.free hp
  exact k F' as' _ p ho (r'.slots x2 r2) (x'.trans x2) (x'.back hp) f1 f3 upd_same ok
end
def fFz (f : Env → Sto → Option (Obj × Sto)) : Env → Sto → Option (Val × Sto) := fun env st => (f env st).bind fun r => (fzO r.1).map fun d => (.dat d, r.2)
def fNew (f : Env → Sto → Option (Obj × Sto)) : Env → Sto → Option (Val × Sto) := fun env st => (f env st).map fun r => (.ref r.2.length, r.2 ++ [r.1])
theorem fz_of {f : Env → Sto → Option (Obj × Sto)} : ∀ σ H Q, tE X.K cs (fFz f) σ H Q → tO X.K cs f σ H Q := fun σ H Q ⟨F, B, as, env, st, v, st', r, ev, k⟩ => by
  obtain ⟨⟨o, s1⟩, e1, ev1⟩ := obnd ev
  obtain ⟨d, hd, ev2⟩ := omap ev1
  cases ev2
  refine ⟨F, B, as, env, st, o, s1, r, e1, fun F' as' H' p ho r' x' h0 hF hn hH ok => ?_⟩
  obtain ⟨r2, x2⟩ := r'.toRSt.fz x' h0 hF hH hn
  exact k _ as' H' _ (r.slots x2 r2) x2 (frozen_den hd ok hF)
theorem new_of {f : Env → Sto → Option (Obj × Sto)} : ∀ σ H Q, tE X.K cs (fNew f) σ H Q → tO X.K cs f σ H Q := fun σ H Q ⟨F, B, as, env, st, v, st', r, ev, k⟩ => by
  obtain ⟨⟨o, s1⟩, e1, ev1⟩ := omap ev
  cases ev1
  refine ⟨F, B, as, env, st, o, s1, r, e1, fun F' as' H' p ho r' x' h0 hF hn hH ok => ?_⟩
  have pB : B p = none := by
    cases z : B p with
    | none => rfl
    | some y => rw [r.bh _ _ z] at h0; cases h0
  obtain ⟨r2, x2⟩ := r'.toRSt.adopt x' h0 hF pB hH hn (ok.mono (fun _ _ h => h) (List.prefix_append _ _))
  refine k _ (as' ++ [p]) H' _ (r.slots x2 r2) x2 ⟨p, ?_, rfl⟩
  rw [show s1.length = as'.length from r'.len.symm, List.getElem?_append_right (Nat.le_refl _), Nat.sub_self]
  rfl
theorem s_fz {f : Env → Sto → Option (Obj × Sto)} (h : PE X e (tO X.K cs f)) : PE X e (tE X.K cs (fFz f)) := h.weak fz_of
theorem s_new {f : Env → Sto → Option (Obj × Sto)} (h : PE X e (tO X.K cs f)) : PE X e (tE X.K cs (fNew f)) := h.weak new_of
def fLst (g : Env → Sto → Option (List Val × Sto)) : Env → Sto → Option (Obj × Sto) := fun env st => (g env st).bind fun r => (toDs r.1 r.2).map fun q => (.lst q.1, q.2)
theorem s_lst (h : PA X es (tEs X.K cs g)) (hl : ∀ env st vs st', g env st = some (vs, st') → vs.length ≤ LIM) : PE X (.List es pos) (tO X.K cs (fLst g)) := (pe_lst h).weak fun σ H Q ⟨F, B, as, env, st, v, st', r, ev, k⟩ => by
  obtain ⟨⟨vs, s1⟩, e1, ev1⟩ := obnd ev
  obtain ⟨⟨ds, s2⟩, e2, ev2⟩ := omap ev1
  cases ev2
  refine ⟨F, B, as, env, st, vs, s1, r, e1, fun F1 as1 H1 us r1 x1 v1 => ⟨by rw [← line_eq, ← Paired.len v1]; exact hl _ _ _ _ e1, fun p hp => ?_⟩⟩
  obtain ⟨F2, r2, x2, q2⟩ := toDs_ok r1 e2 v1
  exact fresh_k (o := .lst ds) r2 (x1.trans x2) hp ⟨us, rfl, q2⟩ k
theorem s_dic0 : PE X (.Dict [] [] pos) (tO X.K cs fun _ st => some (.dK [] [], st)) := pe_dnewK.weak fun σ H Q ⟨F, B, as, env, st, v, st', r, ev, k⟩ => by
  cases ev
  exact fun p hp => fresh_k (o := .dK [] []) r r.refl hp ⟨[], rfl, rfl, Dens.nil.mpr rfl⟩ k
theorem s_dicT : PE X (.Dict [] [] pos) (tO X.K cs fun _ st => some (.dT [] [], st)) := pe_dnewT.weak fun σ H Q ⟨F, B, as, env, st, v, st', r, ev, k⟩ => by
  cases ev
  exact fun p hp => fresh_k (o := .dT [] []) r r.refl hp ⟨[], rfl, rfl, Dens.nil.mpr rfl⟩ k
def fCut (f : Env → Sto → Option (Val × Sto)) (l h : Env → Sto → Option (Option Int × Sto)) : Env → Sto → Option (Obj × Sto) := fun env st => (f env st).bind fun r => (l env r.2).bind fun l => (h env l.2).bind fun h => (asL h.2 r.1).map fun ds => (.lst (cutL ds l.1 h.1), h.2)
theorem s_cut {lo hi : Option Expr} {p2 : Pos} {l h : Env → Sto → Option (Option Int × Sto)} (h1 : PE X e (tE X.K cs f)) (hl : PO X lo (tP X.K cs l)) (hh : PO X hi (tP X.K cs h)) : PE X (.Subscript e (.Slice lo hi none p2) pos) (tO X.K cs (fCut f l h)) :=
  (pe_slice sl_list h1 hl hh).weak fun σ H Q ⟨F, B, as, env, st, v, st', r, ev, k⟩ => by
    obtain ⟨⟨x, st1⟩, ha, ev1⟩ := obnd ev
    obtain ⟨⟨lv, st2⟩, hb, ev2⟩ := obnd ev1
    obtain ⟨⟨hv, st3⟩, hc, ev3⟩ := obnd ev2
    obtain ⟨ds, hd, ev4⟩ := omap ev3
    cases ev4
    refine ⟨F, B, as, env, st, x, st1, r, ha, fun F1 as1 H1 u r1 x1 v1 => ⟨F1, B, as1, env, st1, lv, st2, r1, hb, fun F2 as2 H2 r2 x2 => ⟨F2, B, as2, env, st2, hv, st3, r2, hc, fun F3 as3 H3 r3 x3 => ?_⟩⟩⟩
    obtain ⟨p, us, rfl, hp, hq⟩ := asL_ok r3.toRSt hd ((v1.ext x2).ext x3)
    exact ⟨p, us, rfl, hp, fun t ht => fresh_k (o := .lst (cutL ds lv hv)) r3 ((x1.trans x2).trans x3) ht ⟨_, rfl, cut_dens lv hv hq⟩ k⟩
theorem evn_pick0 {α : Type} : ∀ xs : List α, ((List.range ((xs.length + 1) / 2)).map (2 * ·)).filterMap (xs[·]?) = evens xs
  | [] => by simp [evens]
  | [a] => by simp [evens, List.range_succ]
  | a :: b :: r => by
    have e : ((a :: b :: r).length + 1) / 2 = (r.length + 1) / 2 + 1 := by simp only [List.length_cons]; omega
    rw [e, List.range_succ_eq_map, List.map_cons, List.filterMap_cons]
    simp only [Nat.mul_zero, List.getElem?_cons_zero, evens]
    rw [← evn_pick0 r, List.map_map, List.filterMap_map, List.filterMap_map]
    congr 1
theorem evn_pick (items : Array Value) : slicePick items none none (some 2) = (evens items.toList).toArray := by
  unfold slicePick
  congr 1
  rw [← evn_pick0]
  have e : sliceRange (sliceBounds none none (some 2) items.size).1 (sliceBounds none none (some 2) items.size).2.1 (sliceBounds none none (some 2) items.size).2.2 = (List.range ((items.toList.length + 1) / 2)).map (2 * ·) := by
    show sliceRange 0 (items.size : Int) 2 = _
    unfold sliceRange
    rw [Array.length_toList]
    by_cases h : (0 : Int) < (items.size : Int)
    · have c : (((items.size : Int) - 0 + 2 - 1) / 2).toNat = (items.size + 1) / 2 := by omega
      simp only [show ((2 : Int) > 0) from by decide, if_true, h, c]
      refine List.map_congr_left fun k _ => ?_
      omega
    · have c : items.size = 0 := by omega
      simp [c]
  rw [e]
  refine congrArg (fun g => List.filterMap g _) (funext fun k => ?_)
  simp
theorem evens_le {α : Type} : ∀ xs : List α, (evens xs).length ≤ xs.length
  | [] => Nat.le_refl _
  | [_] => Nat.le_refl _
  | a :: b :: r => by have := evens_le r; simp only [evens, List.length_cons]; omega
theorem evens_pair {α β : Type} {R : α → β → Prop} : ∀ {xs : List α} {ys : List β}, Paired R xs ys → Paired R (evens xs) (evens ys)
  | [], _, .nil => .nil
  | [a], _, .cons h .nil => .cons h .nil
  | a :: b :: r, _, .cons h (.cons _ k) => .cons h (evens_pair k)
theorem evens_dens {K : PySem.W.Frag} {F : Hp} : ∀ {ds : List D} {us : List V}, Dens K F ds us → Dens K F (evens ds) (evens us)
  | [], us, h => by rw [Dens.nil.mp h]; exact Dens.nil.mpr rfl
  | [a], us, h => by
    obtain ⟨u, us', rfl, x, y⟩ := Dens.cons.mp h
    rw [Dens.nil.mp y]
    exact Dens.cons.mpr ⟨u, [], rfl, x, Dens.nil.mpr rfl⟩
  | a :: b :: r, us, h => by
    obtain ⟨u, us', rfl, x, y⟩ := Dens.cons.mp h
    obtain ⟨u2, us2, rfl, x2, y2⟩ := Dens.cons.mp y
    exact Dens.cons.mpr ⟨u, _, rfl, x, evens_dens y2⟩
def tEvL (K : PySem.W.Frag) (te : TE) : TE := fun σ H Q => te σ H fun x H1 => ∃ a xs, x = .ref a ∧ SqL K H1 a xs ∧ ∀ p, H1 p = none → Q (.ref p) (upd H1 p (.lst (evens xs)))
theorem pe_evL {e : Expr} {te : TE} {k : Nat} {p1 p3 pos : Pos} (he : PE X e te) : PE X (.Subscript e (.Slice none none (some (.Constant (.int 2) k p1)) p3) pos) (tEvL X.K te) := by
  refine ⟨fun pins s σ H Q I h => ?_⟩
  refine Subscript_ (thn (he.run pins s σ H _ I h) fun v s1 ⟨x, H1, I1, r1, q1⟩ => ?_)
  obtain ⟨a, xs, ex, hx, q⟩ := q1
  subst ex
  cases r1
  have hst : PO X (some (.Constant (.int 2) k p1)) (tPart (tC (.int 2))) := po_some pe_int
  refine wpAny_Slice (thn (po_none.run pins s1 σ H1 (fun o H2 => o = none ∧ H2 = H1) I1 ⟨rfl, rfl⟩) fun vl s2 ⟨l, H2, I2, pl, el, e2⟩ => ?_)
  subst el e2
  refine thn (po_none.run pins s2 σ H2 (fun o H3 => o = none ∧ H3 = H2) I2 ⟨rfl, rfl⟩) fun vu s3 ⟨u, H3, I3, pu, eu, e3⟩ => ?_
  subst eu e3
  refine thn (hst.run pins s3 σ H3 (fun o H4 => o = some 2 ∧ H4 = H3) I3 ⟨2, rfl, rfl, rfl⟩) fun vs s4 ⟨o, H4, I4, ps, eo, e4⟩ => ?_
  subst eo e4
  have I5 : Inv X pins σ H4 { s4 with heap := s4.heap.push { cls := .type "slice", data := .fields #[vl, vu, vs] } } := I4.kept (t' := s4.toks) fun b ob q => Heap.get?_push_of_some _ q
  obtain ⟨its, r, ht, hz⟩ := I5.list hx
  have hlen := r.length
  show wpAny (model X.prog X.w) X.A (subscriptTail e (.Slice none none (some (.Constant (.int 2) k p1)) p3) (.ref a) (.ref s4.heap.objs.size)) (EP X pins σ Q) X.xe { s4 with heap := s4.heap.push { cls := .type "slice", data := .fields #[vl, vu, vs] } }
  refine tail_any (ops := [.ref a, .ref s4.heap.objs.size]) ht.isList.typeIs (PySem.slot_list_getitem.lookup) ?_ (by with_unfolding_all rfl)
  refine wpAny_getItem_list_slice ht.isList (Heap.IsSliceOf.new _ vl vu vs) pl pu ps (by decide) ?_ (by rw [List.size_toArray]; omega)
  rw [evn_pick]
  refine ⟨.ref _, _, I5.laid (t' := s4.toks) (o := .lst (evens xs)) (fun b ob q => Heap.get?_push_of_some _ q) (Nat.le_refl _) ?_, rfl, q _ (I5.hok.fresh (Nat.le_refl _))⟩
  exact ⟨Nat.le_trans (evens_le _) hz, _, 0, evens_pair r, Heap.get?_push_size _ rfl⟩
def fEvn (f : Env → Sto → Option (Val × Sto)) : Env → Sto → Option (Obj × Sto) := fun env st => (f env st).bind fun r => (asL r.2 r.1).map fun ds => (.lst (evens ds), r.2)
theorem s_evn {k : Nat} {p1 p3 : Pos} (h1 : PE X e (tE X.K cs f)) : PE X (.Subscript e (.Slice none none (some (.Constant (.int 2) k p1)) p3) pos) (tO X.K cs (fEvn f)) := (pe_evL h1).weak fun σ H Q ⟨F, B, as, env, st, v, st', r, ev, k⟩ => by
  obtain ⟨⟨x, st1⟩, ha, ev1⟩ := obnd ev
  obtain ⟨ds, hd, ev4⟩ := omap ev1
  cases ev4
  refine ⟨F, B, as, env, st, x, st1, r, ha, fun F1 as1 H1 u r1 x1 v1 => ?_⟩
  obtain ⟨p, us, rfl, hp, hq⟩ := asL_ok r1.toRSt hd v1
  exact ⟨p, us, rfl, hp, fun t ht => fresh_k (o := .lst (evens ds)) r1 x1 ht ⟨_, rfl, evens_dens hq⟩ k⟩
def fCat (f1 f2 : Env → Sto → Option (Val × Sto)) : Env → Sto → Option (Obj × Sto) := fun env st => (f1 env st).bind fun r => (f2 env r.2).bind fun q => (asX q.2 r.1).bind fun xs => (asX q.2 q.1).bind fun ys =>
      if xs.length + ys.length ≤ LIM then some (.lst (xs ++ ys), q.2) else none
theorem s_cat (h1 : PE X e1 (tE X.K cs f1)) (h2 : PE X e2 (tE X.K cs f2)) : PE X (.BinOp e1 .Add e2 pos) (tO X.K cs (fCat f1 f2)) := (pe_op op_cat h1 h2).weak fun σ H Q ⟨F, B, as, env, st, v, st', r, ev, k⟩ => by
  obtain ⟨⟨x, st1⟩, ha, ev1⟩ := obnd ev
  obtain ⟨⟨y, st2⟩, hb, ev2⟩ := obnd ev1
  obtain ⟨xs, hx, ev3⟩ := obnd ev2
  obtain ⟨ys, hy, ev4⟩ := obnd ev3
  clear ev ev1 ev2 ev3
  split at ev4
  · rename_i hl
    cases ev4
    refine two r ha hb fun F' as' H' u w r' x' v1 v2 => ?_
    obtain ⟨p, us, rfl, hp, hd⟩ := asX_ok r'.toRSt hx v1
    obtain ⟨q, ws, rfl, hq, he⟩ := asX_ok r'.toRSt hy v2
    exact ⟨p, q, us, ws, rfl, rfl, hp, hq, by rw [hd.length, he.length, ← line_eq]; exact hl, fun t ht => fresh_k (o := .lst (xs ++ ys)) r' x' ht ⟨_, rfl, hd.append he⟩ k⟩
  · cases ev4
theorem Dens.rep {K : PySem.W.Frag} {F : Hp} {ds : List D} {us : List V} (h : Dens K F ds us) (n : Nat) : Dens K F (List.replicate n ds).flatten (List.replicate n us).flatten := by
  induction n with
  | zero => exact Dens.nil.mpr rfl
  | succ n ih => rw [List.replicate_succ, List.replicate_succ, List.flatten_cons, List.flatten_cons]; exact h.append ih
def fRep (f1 f2 : Env → Sto → Option (Val × Sto)) : Env → Sto → Option (Obj × Sto) := fun env st => (f1 env st).bind fun r => (f2 env r.2).bind fun q => (asX q.2 r.1).bind fun xs => (intOf q.1).bind fun k =>
      if xs.length * k.toNat ≤ LIM ∧ -(2 ^ 63) ≤ k ∧ k < 2 ^ 63 then some (.lst (List.replicate k.toNat xs).flatten, q.2) else none
theorem intOf_eq {v : Val} {i : Int} (h : intOf v = some i) : v = .dat (.int i) := by
  unfold intOf at h
  split at h
  · cases h; rfl
  · cases h
theorem s_rep (h1 : PE X e1 (tE X.K cs f1)) (h2 : PE X e2 (tE X.K cs f2)) : PE X (.BinOp e1 .Mult e2 pos) (tO X.K cs (fRep f1 f2)) := (pe_op op_rep h1 h2).weak fun σ H Q ⟨F, B, as, env, st, v, st', r, ev, k⟩ => by
  obtain ⟨⟨x, st1⟩, ha, ev1⟩ := obnd ev
  obtain ⟨⟨y, st2⟩, hb, ev2⟩ := obnd ev1
  obtain ⟨xs, hx, ev3⟩ := obnd ev2
  obtain ⟨j, hj, ev4⟩ := obnd ev3
  clear ev ev1 ev2 ev3
  split at ev4
  · rename_i hl
    cases ev4
    refine two r ha hb fun F' as' H' u w r' x' v1 v2 => ?_
    obtain ⟨p, us, rfl, hp, hd⟩ := asX_ok r'.toRSt hx v1
    have hy := intOf_eq hj
    dsimp only at hy
    subst hy
    exact ⟨p, j, us, rfl, int_of v2, hp, hl.2.1, hl.2.2, by rw [hd.length, ← line_eq]; exact hl.1, fun t ht => fresh_k (o := .lst (List.replicate j.toNat xs).flatten) r' x' ht ⟨_, rfl, hd.rep _⟩ k⟩
  · cases ev4
def fList (f : Env → Sto → Option (Val × Sto)) : Env → Sto → Option (Obj × Sto) := fun env st => (f env st).bind fun r => (asLS r.2 r.1).map fun ds => (.lst ds, r.2)
theorem vals_signs : ∀ (cs : List Nat) (us : List Value), us.length = cs.length → (∀ (j : Nat) (v : Value), us[j]? = some v → ∃ (c : Nat) (u : Tok), cs[j]? = some c ∧ v = Value.str ⟨#[c]⟩ u) → Vals (cs.map fun c => V.str (S [c])) us
  | [], [], _, _ => .nil
  | [], _ :: _, h, _ => by simp at h
  | _ :: _, [], h, _ => by simp at h
  | c :: cs, u :: us, h, k => by
    obtain ⟨c', t, e, rfl⟩ := k 0 u rfl
    simp at e; subst e
    exact .cons ⟨t, rfl⟩ (vals_signs cs us (by simpa using h) fun j v hj => by
      obtain ⟨c2, t2, e2, e3⟩ := k (j + 1) v (by simpa using hj)
      exact ⟨c2, t2, by simpa using e2, e3⟩)
theorem call_listS (hc : X.calm = true) : CallR X (.type "list") (fun xs H Q => ∃ w : W, xs = [.str (S w)] ∧ w.length ≤ LIM ∧ ∀ l, H l = none → Q (.ref l) (upd H l (.lst (w.map fun c => V.str (S [c]))))) := by
  intro pins s σ H xs us Q I r h
  obtain ⟨w, rfl, hz, q⟩ := h
  obtain ⟨u, rfl, t, rfl⟩ := vals1 r
  refine call_list_str (I.ok.hd hc) (S w) t (hn := show (S w).length ≤ sizeLine by rw [S_len, ← line_eq]; exact hz) fun h' tk acc' c' hk hS' hacc => ?_
  have hl : acc'.toList.length = w.length := by have := hacc.1; simp [S] at this; simp [this]
  refine ⟨.ref s.heap.objs.size, _, I.laid (t' := tk) hk (Nat.le_refl _) (show ObjOk X.prog X.w _ h' _ (.lst (w.map fun c => V.str (S [c]))) from ⟨by rw [List.length_map, ← line_eq]; exact hz, acc'.toList, c', vals_signs _ _ hl fun j v hv => ?_, by simpa using hS'⟩), rfl, q _ (I.hok.fresh (Nat.le_refl _))⟩
  obtain ⟨c, u, h1, h2⟩ := hacc.2 j v (by simpa using hv)
  exact ⟨c, u, by simpa [S] using h1, h2⟩
theorem dens_signs {K : PySem.W.Frag} {F : Hp} : ∀ w : W, Dens K F (w.map fun c => .str [c]) (w.map fun c => V.str (S [c]))
  | [] => Dens.nil.mpr rfl
  | c :: w => Dens.cons.mpr ⟨_, _, rfl, Den.str_iff.mpr rfl, dens_signs w⟩
theorem asLS_cases {st : Sto} {v : Val} {ds : List D} (h : asLS st v = some ds) : asLT st v = some ds ∨ ∃ w : W, v = .dat (.str w) ∧ w.length ≤ LIM ∧ ds = w.map fun c => .str [c] := by
  unfold asLS at h
  split at h
  · rename_i ds' hd'
    cases h
    exact .inl hd'
  · split at h
    · rename_i w _
      split at h
      · rename_i hl
        cases h
        exact .inr ⟨w, rfl, hl, rfl⟩
      · cases h
    · cases h
theorem s_list {p : Pos} (hc : X.calm = true) (hg : Gl X "list") (hm : X.mg "list" = none) (h : PE X e (tE X.K cs f)) (hs : nStar e = true) : PE X (.Call (.Name "list" p) [e] [] pos) (tO X.K cs (fList f)) :=
  (pe_callTy (call_list_of.or (call_listS hc)) hg hm (by decide +kernel) (s_cons h s_nil hs) (by decide) (by decide) (noStar hs) rfl).weak fun σ H Q ⟨F, B, as, env, st, v, st', r, ev, k⟩ => by
    obtain ⟨⟨x, st1⟩, ha, ev1⟩ := obnd ev
    obtain ⟨ds, hd, ev2⟩ := omap ev1
    cases ev2
    refine ⟨F, B, as, env, st, [x], st1, r, by simp [ha], fun F' as' H' us r' x' v1 => ?_⟩
    cases v1 with
    | cons q t =>
      cases t
      rcases asLS_cases hd with hd' | ⟨w, rfl, hl, rfl⟩
      · obtain ⟨p, us, rfl, hp, hq⟩ := asLT_ok r'.toRSt hd' q
        exact .inl ⟨p, us, rfl, hp, fun t ht => fresh_k (o := .lst ds) r' x' ht ⟨_, rfl, hq⟩ k⟩
      · have e := str_of q
        subst e
        exact .inr ⟨w, rfl, hl, fun t ht => fresh_k (o := .lst (w.map fun c => .str [c])) r' x' ht ⟨_, rfl, dens_signs w⟩ k⟩
structure Yields (K : PySem.W.Frag) (cs : Nat → Option Addr) (F B : Hp) (as : List Addr) (G : Sto → Prop) (J : It) (ds : List D) : Prop where
  stop : ∀ {F2 as2 st2 H2} (i : Nat), (∀ a o, F a = some o → F2 a = some o) → as <+: as2 → G st2 → RSt K cs F2 B as2 st2 H2 → ds.length = i → J.stop i H2
  go : ∀ {F2 as2 st2 H2} (i : Nat) (d : D), (∀ a o, F a = some o → F2 a = some o) → as <+: as2 → G st2 → RSt K cs F2 B as2 st2 H2 → ds[i]? = some d → J.go i H2
  yld : ∀ {F2 as2 st2 H2} (i : Nat) (d : D) (x : V) (H3 : Hp), (∀ a o, F a = some o → F2 a = some o) → as <+: as2 → G st2 → RSt K cs F2 B as2 st2 H2 → ds[i]? = some d → J.yld i H2 x H3 → ∃ F3, RSt K cs F3 B as2 st2 H3 ∧ Ext F2 as2 H2 F3 as2 H3 ∧ Den K F3 d x
def tIG (K : PySem.W.Frag) (cs : Nat → Option Addr) (fi : Env → Sto → Option (List D × Sto)) (G : Env → Sto → Sto → Prop) : TI := fun σ H R => ∃ F B as env st ds st', Rel K cs F B as env st σ H ∧ fi env st = some (ds, st') ∧
  ∀ F' as' H' J, Rel K cs F' B as' env st' σ H' → Ext F as H F' as' H' → Yields K cs F' B as' (G env st') J ds → ds.length ≤ LIM → R J H'
def anyG : Env → Sto → Sto → Prop := fun _ _ => anyS
def tI (K : PySem.W.Frag) (cs : Nat → Option Addr) (fi : Env → Sto → Option (List D × Sto)) : TI := tIG K cs fi anyG
theorem _root_.L2.PI.weak {tg iter : Expr} {t t' : TI} (h : PI X tg iter t) (w : ∀ σ H R, t' σ H R → t σ H R) : PI X tg iter t' := ⟨fun pins s σ H R I q => h.run pins s σ H R I (w σ H R q)⟩
theorem _root_.L2.PI.held {tg iter : Expr} {t : TI} (h : PI X tg iter t) : PI X tg iter (fun σ H R => t σ H fun J H' => (∃ hh, HOk X.prog X.w H' hh) → R J H') := ⟨fun pins s σ H R I q =>
  thn (h.run pins s σ H _ I q) fun v s1 hv => thn hv fun itv s2 ⟨it, fp, tn, J, H', a, I2, b, c, d, e⟩ => ⟨it, fp, tn, J, H', a, I2, b, c, d, e ⟨_, I2.hok⟩⟩⟩
theorem sqL_le {P : Program} {w : World} {H : Hp} {h : Heap} (x : HOk P w H h) {p : Addr} {us : List V} (q : SqL X.K H p us) : us.length ≤ sizeLine := by
  rcases q with q | ⟨o, its, n, hk, hc, hd, hs, hz, r⟩
  · exact (q.ok x).1
  · have e := r.length
    simp only [Array.length_toList] at e
    omega
theorem yields_l {F B : Hp} {as : List Addr} {G : Sto → Prop} {p : Addr} {us : List V} {ds : List D} (hl : ∀ {F2 as2 st2 H2}, (∀ a o, F a = some o → F2 a = some o) → as <+: as2 → G st2 → RSt X.K cs F2 B as2 st2 H2 → SqL X.K H2 p us) (hd : Dens X.K F ds us) : Yields X.K cs F B as G (Itl X.K p) ds where
  stop := fun i hF hp' hG r h => ⟨us, hl hF hp' hG r, by rw [hd.length]; exact Nat.le_of_eq h⟩
  go := fun i d hF hp' hG r h => let ⟨u, e, _⟩ := hd.get h; ⟨us, u, hl hF hp' hG r, e⟩
  yld := fun i d x H3 hF hp' hG r h y => by
    obtain ⟨rfl, y2⟩ := y
    obtain ⟨u, e, q⟩ := hd.get h
    have := y2 us (hl hF hp' hG r)
    rw [e] at this; cases this
    exact ⟨_, r, r.refl, Den.mono hF _ _ q⟩
theorem yields_t {F B : Hp} {as : List Addr} {G : Sto → Prop} {p : Addr} {us : List V} {ds : List D} (hp : Rd F p (.tup us)) (hd : Dens X.K F ds us) : Yields X.K cs F B as G (Itt X.K p) ds where
  stop := fun i hF hp' hG r h => ⟨us, .inl (rd_mono r.fh (rd_mono hF hp)), by rw [hd.length]; exact Nat.le_of_eq h⟩
  go := fun i d hF hp' hG r h => let ⟨u, e, _⟩ := hd.get h; ⟨us, u, .inl (rd_mono r.fh (rd_mono hF hp)), e⟩
  yld := fun i d x H3 hF hp' hG r h y => by
    obtain ⟨rfl, y2⟩ := y
    obtain ⟨u, e, q⟩ := hd.get h
    have := y2 us (.inl (rd_mono r.fh (rd_mono hF hp)))
    rw [e] at this; cases this
    exact ⟨_, r, r.refl, Den.mono hF _ _ q⟩
theorem yields_s {F B : Hp} {as : List Addr} {G : Sto → Prop} {w : W} : Yields X.K cs F B as G (Its (S w)) (w.map fun c => .str [c]) where
  stop := fun i hF hp' hG r h => by
    show (S w).cps.size ≤ i
    have h := Nat.le_of_eq h
    simpa [S] using h
  go := fun i d hF hp' hG r h => by
    show i < (S w).cps.size
    have := (List.getElem?_eq_some_iff.mp h).1
    simpa [S] using this
  yld := fun i d x H3 hF hp' hG r h y => by
    obtain ⟨rfl, c, hc, rfl⟩ := y
    rw [List.getElem?_map] at h
    obtain ⟨c', hc', e⟩ := Option.map_eq_some_iff.mp h
    subst e
    have : (S w).cps[i]? = w[i]? := by simp [S]
    rw [this, hc'] at hc; cases hc
    exact ⟨_, r, r.refl, Den.str_iff.mpr rfl⟩
theorem yields_r {F B : Hp} {as : List Addr} {G : Sto → Prop} {lo hi : Int} : Yields X.K cs F B as G (Itr lo (hi - lo).toNat) (rngL lo hi) where
  stop := fun i hF hp' hG r h => by
    show (hi - lo).toNat ≤ i
    have h := Nat.le_of_eq h
    simpa [rngL] using h
  go := fun i d hF hp' hG r h => by
    show i < (hi - lo).toNat
    have := (List.getElem?_eq_some_iff.mp h).1
    simpa [rngL] using this
  yld := fun i d x H3 hF hp' hG r h y => by
    obtain ⟨rfl, rfl⟩ := y
    unfold rngL at h
    rw [List.getElem?_map] at h
    obtain ⟨c', hc', e⟩ := Option.map_eq_some_iff.mp h
    subst e
    obtain ⟨hlt, e2⟩ := List.getElem?_eq_some_iff.mp hc'
    rw [List.getElem_range] at e2
    subst e2
    exact ⟨_, r, r.refl, Den.int_iff.mpr rfl⟩
def fIt (f : Env → Sto → Option (Val × Sto)) : Env → Sto → Option (List D × Sto) := fun env st => (f env st).bind fun r => (itV r.1).map fun ds => (ds, r.2)
theorem s_it {tg : Expr} (h : PE X e (tE X.K cs f)) : PI X tg e (tI X.K cs (fIt f)) := by
  refine ⟨fun pins s σ H R I hw => ?_⟩
  obtain ⟨F, B, as, env, st, ds, st', r, ev, k⟩ := hw
  obtain ⟨⟨x, s1⟩, e1, ev1⟩ := obnd ev
  obtain ⟨ds', hd, ev2⟩ := omap ev1
  clear ev ev1
  cases ev2
  dsimp only at hd k
  unfold itV at hd
  split at hd
  · cases hd
    refine (pi_list h).held.run pins s σ H R I ⟨F, B, as, env, st, _, s1, r, e1, fun F' as' H' u r' x' v1 => ?_⟩
    obtain ⟨p, us, rfl, hp, hq⟩ := Den.lst_iff.mp v1
    exact ⟨p, rfl, ⟨us, .of (r'.fh _ _ hp)⟩, fun ⟨hh, ok⟩ => k F' as' H' _ r' x' (yields_l (fun hF _ _ r2 => .of (r2.fh _ _ (hF _ _ hp))) hq) (by rw [line_eq, ← hq.length]; exact ok.lst_le (r'.fh _ _ hp))⟩
  · cases hd
    refine (pi_tup h).held.run pins s σ H R I ⟨F, B, as, env, st, _, s1, r, e1, fun F' as' H' u r' x' v1 => ?_⟩
    obtain ⟨p, us, rfl, hp, hq⟩ := Den.tup_iff.mp v1
    exact ⟨p, rfl, ⟨us, .inl (rd_mono r'.fh hp.rd)⟩, fun ⟨hh, ok⟩ => k F' as' H' _ r' x' (yields_t hp.rd hq) (by rw [line_eq, ← hq.length]; exact ok.tupR_le (rd_mono r'.fh hp.rd))⟩
  · cases hd
    refine (pi_list h).held.run pins s σ H R I ⟨F, B, as, env, st, _, s1, r, e1, fun F' as' H' u r' x' v1 => ?_⟩
    obtain ⟨p, rfl, hp⟩ := Den.scr_iff.mp v1
    exact ⟨p, rfl, ⟨_, sqL_mono r'.fh hp⟩, fun ⟨hh, ok⟩ => k F' as' H' _ r' x' (yields_l (fun hF _ _ r2 => sqL_mono r2.fh (sqL_mono hF hp)) (scrs _)) (by have := sqL_le (X := X) ok (sqL_mono r'.fh hp); rw [line_eq, List.length_map]; rw [List.length_map] at this; exact this)⟩
  · cases hd
    refine (pi_list h).held.run pins s σ H R I ⟨F, B, as, env, st, _, s1, r, e1, fun F' as' H' u r' x' v1 => ?_⟩
    obtain ⟨p, us, rfl, hp, hq⟩ := v1
    exact ⟨p, rfl, ⟨us, .of (r'.bh _ _ hp)⟩, fun ⟨hh, ok⟩ => k F' as' H' _ r' x' (yields_l (fun hF _ _ r2 => .of (r2.bh _ _ hp)) hq) (by rw [line_eq, ← hq.length]; exact ok.lst_le (r'.bh _ _ hp))⟩
  · split at hd
    case isFalse => cases hd
    rename_i hl
    cases hd
    refine (pi_str h).run pins s σ H R I ⟨F, B, as, env, st, _, s1, r, e1, fun F' as' H' u r' x' v1 => ?_⟩
    exact ⟨S _, str_of v1, k F' as' H' _ r' x' yields_s (by rw [List.length_map]; exact hl)⟩
  · cases hd
def fRng (g : Env → Sto → Option (List Val × Sto)) : Env → Sto → Option (List D × Sto) := fun env st => (g env st).bind fun r => (rngV r.1).map fun ds => (ds, r.2)
theorem rngOk_of {lo hi : Int} (h : rngOk lo hi = true) : -(2 ^ 62) ≤ lo ∧ lo < 2 ^ 62 ∧ -(2 ^ 62) ≤ hi ∧ hi < 2 ^ 62 ∧ (hi - lo).toNat ≤ LIM := by
  unfold rngOk at h
  simp only [Bool.and_eq_true, decide_eq_true_eq] at h
  exact ⟨h.1.1.1.1, h.1.1.1.2, h.1.1.2, h.1.2, h.2⟩
theorem paired1 {α β : Type} {R : α → β → Prop} {a : α} {ys : List β} (h : Paired R [a] ys) : ∃ b, ys = [b] ∧ R a b := by
  cases h with
  | cons q t => cases t; exact ⟨_, rfl, q⟩
theorem paired2 {α β : Type} {R : α → β → Prop} {a a' : α} {ys : List β} (h : Paired R [a, a'] ys) : ∃ b b', ys = [b, b'] ∧ R a b ∧ R a' b' := by
  cases h with
  | cons q t => obtain ⟨b', rfl, q'⟩ := paired1 t; exact ⟨_, b', rfl, q, q'⟩
theorem s_rng1 {tg : Expr} {p : Pos} (hg : Gl X "range") (hm : X.mg "range" = none) (h : PA X [e] (tEs X.K cs g)) (hs : nStar e = true) (hl : ∀ env st vs st', g env st = some (vs, st') → vs.length = 1) : PI X tg (.Call (.Name "range" p) [e] [] pos) (tI X.K cs (fRng g)) :=
  (pi_range1 hg hm h (noStar hs)).weak fun σ H R ⟨F, B, as, env, st, ds, st', r, ev, k⟩ => by
    obtain ⟨⟨vs, s1⟩, e1, ev1⟩ := obnd ev
    obtain ⟨ds', hd, ev2⟩ := omap ev1
    clear ev ev1
    cases ev2
    have hl' := hl _ _ _ _ e1
    dsimp only at hd k
    refine ⟨F, B, as, env, st, vs, s1, r, e1, fun F' as' H' us r' x' v1 => ?_⟩
    unfold rngV at hd
    split at hd
    · rename_i j
      split at hd
      · rename_i hj
        cases hd
        obtain ⟨u, rfl, q⟩ := paired1 v1
        obtain ⟨h1, h2, h3, h4, h5⟩ := rngOk_of hj
        refine ⟨j, by rw [int_of q], h3, h4, ?_⟩
        have := k F' as' H' (Itr 0 (j - 0).toNat) r' x' yields_r (by simpa [rngL] using h5)
        simpa using this
      · cases hd
    · simp at hl'
    · simp at hl'
    · cases hd
theorem s_rng2 {tg : Expr} {p : Pos} (hg : Gl X "range") (hm : X.mg "range" = none) (h : PA X [e, e1] (tEs X.K cs g)) (hs : nStar e = true) (hs2 : nStar e1 = true) (hl : ∀ env st vs st', g env st = some (vs, st') → vs.length = 2) : PI X tg (.Call (.Name "range" p) [e, e1] [] pos) (tI X.K cs (fRng g)) :=
  (pi_range2 hg hm h (by rw [noStar hs, noStar hs2]; rfl) (by rw [noStar hs2]; rfl)).weak fun σ H R ⟨F, B, as, env, st, ds, st', r, ev, k⟩ => by
    obtain ⟨⟨vs, s1⟩, e1, ev1⟩ := obnd ev
    obtain ⟨ds', hd, ev2⟩ := omap ev1
    clear ev ev1
    cases ev2
    have hl' := hl _ _ _ _ e1
    dsimp only at hd k
    refine ⟨F, B, as, env, st, vs, s1, r, e1, fun F' as' H' us r' x' v1 => ?_⟩
    unfold rngV at hd
    split at hd
    · simp at hl'
    · rename_i i j
      split at hd
      · rename_i hj
        cases hd
        obtain ⟨u, w, rfl, q, q'⟩ := paired2 v1
        obtain ⟨h1, h2, h3, h4, h5⟩ := rngOk_of hj
        exact ⟨i, j, by rw [int_of q, int_of q'], ⟨h1, h2, h3, h4⟩, k F' as' H' _ r' x' yields_r (by simpa [rngL] using h5)⟩
      · cases hd
    · simp at hl'
    · cases hd
theorem yields_s2 {F B : Hp} {as : List Addr} {G : Sto → Prop} {lo hi : Int} : Yields X.K cs F B as G (Itc lo 2 ((hi - lo + 1) / 2).toNat) (rngS lo hi) where
  stop := fun i hF hp' hG r h => by
    show ((hi - lo + 1) / 2).toNat ≤ i
    have h := Nat.le_of_eq h
    simpa [rngS] using h
  go := fun i d hF hp' hG r h => by
    show i < ((hi - lo + 1) / 2).toNat
    have := (List.getElem?_eq_some_iff.mp h).1
    simpa [rngS] using this
  yld := fun i d x H3 hF hp' hG r h y => by
    obtain ⟨rfl, rfl⟩ := y
    unfold rngS at h
    rw [List.getElem?_map] at h
    obtain ⟨c', hc', e⟩ := Option.map_eq_some_iff.mp h
    subst e
    obtain ⟨hlt, e2⟩ := List.getElem?_eq_some_iff.mp hc'
    rw [List.getElem_range] at e2
    subst e2
    exact ⟨_, r, r.refl, Den.int_iff.mpr rfl⟩
theorem rgC_two {i j : Int} (h : rngOk i j = true) : RgC i j 2 ((j - i + 1) / 2).toNat := by
  obtain ⟨h1, h2, h3, h4, h5⟩ := rngOk_of h
  have e : Builtin.Range.rangeSize i j 2 = (((j - i + 1) / 2).toNat : Int) := by
    unfold Builtin.Range.rangeSize
    rw [if_pos (by decide)]
    split <;> omega
  refine ⟨by decide, by decide, ?_, e⟩
  unfold Builtin.Range.small
  rw [e]
  simp only [Builtin.Range.rangeFitsLong, Bool.and_eq_true, Bool.or_eq_true, decide_eq_true_eq, beq_iff_eq, show ((2 : Int) > 0) by decide, if_true]
  omega
theorem paired3 {α β : Type} {R : α → β → Prop} {a a' a'' : α} {ys : List β} (h : Paired R [a, a', a''] ys) : ∃ b b' b'', ys = [b, b', b''] ∧ R a b ∧ R a' b' ∧ R a'' b'' := by
  cases h with
  | cons q t => obtain ⟨b', b'', rfl, q', q''⟩ := paired2 t; exact ⟨_, b', b'', rfl, q, q', q''⟩
theorem s_rng3 {tg : Expr} {p : Pos} (hg : Gl X "range") (hm : X.mg "range" = none) (h : PA X [e, e1, e2] (tEs X.K cs g)) (hs : nStar e = true) (hs2 : nStar e1 = true) (hs3 : nStar e2 = true) (hl : ∀ env st vs st', g env st = some (vs, st') → vs.length = 3) : PI X tg (.Call (.Name "range" p) [e, e1, e2] [] pos) (tI X.K cs (fRng g)) :=
  (pi_range3 hg hm h (by rw [noStar hs, noStar hs2, noStar hs3]) (by rw [noStar hs2, noStar hs3]; rfl)).weak fun σ H R ⟨F, B, as, env, st, ds, st', r, ev, k⟩ => by
    obtain ⟨⟨vs, s1⟩, e1, ev1⟩ := obnd ev
    obtain ⟨ds', hd, ev2⟩ := omap ev1
    clear ev ev1
    cases ev2
    have hl' := hl _ _ _ _ e1
    dsimp only at hd k
    refine ⟨F, B, as, env, st, vs, s1, r, e1, fun F' as' H' us r' x' v1 => ?_⟩
    unfold rngV at hd
    split at hd
    · simp at hl'
    · simp at hl'
    · rename_i i j c
      split at hd
      · rename_i hj
        cases hd
        simp only [Bool.and_eq_true, decide_eq_true_eq] at hj
        obtain ⟨⟨hj, hc⟩, h6⟩ := hj
        subst hc
        obtain ⟨u, w, z, rfl, q, q', q''⟩ := paired3 v1
        exact ⟨i, j, 2, _, by rw [int_of q, int_of q', int_of q''], rgC_two hj, k F' as' H' _ r' x' yields_s2 (by simpa [rngS] using h6)⟩
      · cases hd
    · cases hd
end
end NK
set_option Elab.async false
set_option linter.all false
set_option autoImplicit false
set_option maxRecDepth 100000
namespace NK
open PySem PySem.Spec PyProof.Rows L2
section
variable {X : Cx} {cs : Nat → Option Addr} {e e1 e2 e3 : Expr} {es : List Expr} {f f1 f2 f3 : Env → Sto → Option (Val × Sto)} {g : Env → Sto → Option (List Val × Sto)} {pos : Pos}
section
variable {K : PySem.W.Frag} {F B H : Hp} {as : List Addr} {env : Env} {st : Sto} {σ : L2.St}
theorem Rel.set' (r : Rel K cs F B as env st σ H) {i : Nat} {v : Val} {u : V} (h : VOk K F B as v u) : Rel K cs F B as (env.set i (some v)) st (σ.set i (some u)) H := by
  by_cases hi : i < σ.length
  · exact r.set h hi
  · rw [List.set_eq_of_length_le (by rw [r.elen]; omega), List.set_eq_of_length_le (by omega)]
    exact r
theorem Rel.wiped (r : Rel K cs F B as env st σ H) (vs : List Nat) : Rel K cs F B as (wipeE env vs) st (wipe σ vs) H := by
  induction vs with
  | nil => exact r
  | cons v vs ih =>
    refine { ih.toRSt with slot := fun i w e => ?_, elen := by unfold wipeE wipe; rw [List.length_set, List.length_set]; exact ih.elen }
    unfold wipeE at e
    unfold L2.wipe
    by_cases hi : i = v
    · subst hi
      by_cases hl : i < (wipeE env vs).length
      · rw [List.getElem?_set_self hl] at e; cases e
      · rw [List.getElem?_eq_none (by simp; omega)] at e; cases e
    · rw [List.getElem?_set_ne (Ne.symm hi)] at e
      rw [List.getElem?_set_ne (Ne.symm hi)]
      exact ih.slot i w e
theorem wipe_set {i : Nat} {x : Option V} : ∀ {vs : List Nat} {σ : L2.St}, i ∈ vs → wipe (σ.set i x) vs = wipe σ vs
  | [], σ, h => by simp at h
  | v :: vs, σ, h => by
    unfold L2.wipe
    have out : ∀ {vs : List Nat} {σ : L2.St}, i ∉ vs → wipe (σ.set i x) vs = (wipe σ vs).set i x := fun {vs} => by
      induction vs with
      | nil => intro σ _; rfl
      | cons w ws ih =>
        intro σ hn
        unfold L2.wipe
        rw [ih (fun z => hn (List.mem_cons_of_mem _ z)), List.set_comm _ _ (fun e : i = w => hn (by rw [e]; exact List.mem_cons_self))]
    by_cases hi : i ∈ vs
    · rw [wipe_set hi]
    · have e : i = v := by rcases List.mem_cons.mp h with e | e; exact e; exact absurd e hi
      subst e
      rw [out hi, List.set_set]
end
theorem wipe_same {τ : L2.St} : ∀ {vs : List Nat}, (∀ v ∈ vs, τ.set v none = τ) → wipe τ vs = τ
  | [], _ => rfl
  | v :: vs, h => by
    show (wipe τ vs).set v none = τ
    rw [wipe_same fun w hw => h w (List.mem_cons_of_mem _ hw)]
    exact h v List.mem_cons_self
theorem wipe_none {σ : L2.St} {own : List Nat} {v : Nat} (hv : v ∈ own) : (wipe σ own).set v none = wipe σ own := by
  by_cases hl : v < (wipe σ own).length
  · have e2 := List.getElem?_eq_getElem hl
    cases z : (wipe σ own)[v] with
    | none =>
      have := List.set_getElem_self hl
      rw [z] at this
      exact this
    | some y =>
      rw [z] at e2
      exact absurd hv (wipe_some e2).2
  · exact List.set_eq_of_length_le (by omega)
theorem wipe_twice {σ : L2.St} {own : List Nat} : wipe (wipe σ own) own = wipe σ own := wipe_same fun _ h => wipe_none h
def TgOk (K : PySem.W.Frag) (cs : Nat → Option Addr) (t : TG) (bind : D → Env → Option Env) (tg : List Nat) : Prop := ∀ {F B H : Hp} {as : List Addr} {env : Env} {st : Sto} {σ : L2.St} {d : D} {u : V} {env' : Env} {Q : L2.St → Hp → Prop}, Rel K cs F B as env st σ H → Den K F d u → bind d env = some env' →
  (∀ σ', Rel K cs F B as env' st σ' H → (∀ vs : List Nat, (∀ i ∈ tg, i ∈ vs) → wipe σ' vs = wipe σ vs) → Q σ' H) → t u σ H Q
theorem tg_name {i : Nat} : TgOk X.K cs (gName i) (fun d e => bindT [i] false d e) [i] := fun {F B H as env st σ d u env' Q} r q h k => by
  simp only [bindT] at h
  cases h
  exact k _ (r.set' q) fun vs hv => wipe_set (hv i (by simp))
def gNames : List Nat → TGs
  | [] => gNil
  | i :: is => gCons (gName i) (gNames is)
theorem tg_names : ∀ {is : List Nat} {F B H : Hp} {as : List Addr} {env : Env} {st : Sto} {σ : L2.St} {ds : List D} {us : List V} {env' : Env} {Q : L2.St → Hp → Prop}, Rel X.K cs F B as env st σ H → Dens X.K F ds us → bindT.go is ds env = some env' →
    (∀ σ', Rel X.K cs F B as env' st σ' H → (∀ vs : List Nat, (∀ i ∈ is, i ∈ vs) → wipe σ' vs = wipe σ vs) → Q σ' H) → gNames is us σ H Q
  | [], F, B, H, as, env, st, σ, [], us, env', Q, r, q, h, k => by
    simp only [bindT.go] at h; cases h
    exact ⟨Dens.nil.mp q, k σ r fun _ _ => rfl⟩
  | [], F, B, H, as, env, st, σ, _ :: _, us, env', Q, r, q, h, k => by simp [bindT.go] at h
  | _ :: _, F, B, H, as, env, st, σ, [], us, env', Q, r, q, h, k => by simp [bindT.go] at h
  | i :: is, F, B, H, as, env, st, σ, d :: ds, us, env', Q, r, q, h, k => by
    simp only [bindT.go] at h
    obtain ⟨u, us', rfl, a, b⟩ := Dens.cons.mp q
    refine ⟨u, us', rfl, ?_⟩
    show gNames is us' (σ.set i (some u)) H Q
    refine tg_names (r.set' (v := .dat d) a) b h fun σ' r' w => k σ' r' fun vs hv => ?_
    rw [w vs fun j hj => hv j (List.mem_cons_of_mem _ hj), wipe_set (hv i List.mem_cons_self)]
theorem go_len : ∀ {is : List Nat} {ds : List D} {env env' : Env}, bindT.go is ds env = some env' → ds.length = is.length
  | [], [], _, _, _ => rfl
  | [], _ :: _, _, _, h => by simp [bindT.go] at h
  | _ :: _, [], _, _, h => by simp [bindT.go] at h
  | i :: is, d :: ds, _, _, h => by simp only [bindT.go] at h; simp [go_len h]
def gTL (K : PySem.W.Frag) (is : List Nat) : TG := fun v σ H Q => gTup K is.length (gNames is) v σ H Q ∨ gLst K is.length (gNames is) v σ H Q
theorem pg_tl {is : List Nat} {es : List Expr} {k : Nat} (hc : X.calm = true) (h : PGs X es (gNames is)) (hn : (assignEach es X.env).length = is.length) (hst : (assignEach es X.env).findIdx? (·.1) = none) : PG X (.Tuple es k pos) (gTL X.K is) :=
  ⟨fun pins s σ H v u Q I r hw => by
    rcases hw with hw | hw
    · exact (pg_tup (pos := pos) (k := k) hc h hn hst).run pins s σ H v u Q I r hw
    · exact (pg_lst (pos := pos) (k := k) hc h hn hst).run pins s σ H v u Q I r hw⟩
theorem tg_tup {is : List Nat} : TgOk X.K cs (gTL X.K is) (fun d e => bindT is true d e) is := fun {F B H as env st σ d u env' Q} r q h k => by
  simp only [bindT] at h
  split at h
  · obtain ⟨p, us, rfl, hp, hq⟩ := Den.tup_iff.mp q
    exact .inl ⟨p, us, rfl, .inl (rd_mono r.fh hp.rd), by rw [hq.length]; exact go_len h, tg_names r hq h k⟩
  · obtain ⟨p, us, rfl, hp, hq⟩ := Den.lst_iff.mp q
    exact .inr ⟨p, us, rfl, .of (r.fh _ _ hp), by rw [hq.length]; exact go_len h, tg_names r hq h k⟩
  · cases h
def fComp (fi : Env → Sto → Option (List D × Sto)) (own : List Nat) (bind : D → Env → Option Env) (cond : Env → Sto → Option (Bool × Sto)) (elt : Env → Sto → Option (Val × Sto)) : Env → Sto → Option (Obj × Sto) := fun env st =>
  (fi env st).bind fun r => (compV own (wipeE env own) bind cond elt r.1 r.2).map fun q => (.lst q.1, q.2)
noncomputable def fCompG (fi : Env → Sto → Option (List D × Sto)) (G : Env → Sto → Sto → Prop) (own : List Nat) (bind : D → Env → Option Env) (cond : Env → Sto → Option (Bool × Sto)) (elt : Env → Sto → Option (Val × Sto)) : Env → Sto → Option (Obj × Sto) := fun env st =>
  (fi env st).bind fun r => (compG (G env r.2) own (wipeE env own) bind cond elt r.1 r.2).map fun q => (.lst q.1, q.2)
theorem fCompG_any {fi : Env → Sto → Option (List D × Sto)} {own : List Nat} {bind : D → Env → Option Env} {cond : Env → Sto → Option (Bool × Sto)} {elt : Env → Sto → Option (Val × Sto)} : fCompG fi anyG own bind cond elt = fComp fi own bind cond elt := by
  funext env st
  simp only [fCompG, fComp, anyG, compG_any]
theorem comp_ofGZ {Z : L2.St → Hp → Prop} {fi : Env → Sto → Option (List D × Sto)} {G : Env → Sto → Sto → Prop} {own tg : List Nat} {bind : D → Env → Option Env} {cond : Env → Sto → Option (Bool × Sto)} {elt : Env → Sto → Option (Val × Sto)} {t : TG} (ht : TgOk X.K cs t bind tg) (hs : ∀ i ∈ tg, i ∈ own) (hG0 : ∀ env st ds st', fi env st = some (ds, st') → G env st' st') :
    ∀ σ H Q, Z σ H ∧ tO X.K cs (fCompG fi G own bind cond elt) σ H Q → tLc (fun σ H R => Z σ H ∧ tIG X.K cs fi G σ H R) t (tB X.K cs cond) (tE X.K cs elt) own σ H Q := fun σ H Q ⟨hZ, F, B, as, env, st, o, st', r, ev, k⟩ => by
  obtain ⟨⟨ds, s1⟩, hfi, ev1⟩ := obnd ev
  obtain ⟨⟨acc, s2⟩, hc, ev2⟩ := omap ev1
  clear ev ev1
  cases ev2
  dsimp only at hc k
  refine ⟨hZ, F, B, as, env, st, ds, s1, r, hfi, fun F1 as1 H1 J r1 x1 Y hlen => fun D hD => ?_⟩
  refine ⟨fun i m H2 => m = ds.length - i ∧ i ≤ ds.length ∧ ∃ F2 as2 st2 accd accu rest, RSt X.K cs F2 B as2 st2 H2 ∧ Ext F1 as1 H1 F2 as2 H2 ∧ H2 D = some (.lst accu) ∧ Dens X.K F2 accd accu ∧ F2 D = none ∧ D ∉ as2 ∧ accu.length ≤ i ∧
    compG (G env s1) own (wipeE env own) bind cond elt (ds.drop i) st2 = some (rest, s2) ∧ accd ++ rest = acc ∧ G env s1 st2, ⟨ds.length, by omega, Nat.zero_le _, ?_⟩, ?_⟩
  · obtain ⟨r2, x2⟩ := r1.toRSt.extra (o := .lst []) hD
    obtain ⟨q1, q2, q3⟩ := r1.toRSt.free hD
    exact ⟨F1, as1, s1, [], [], acc, r2, x2, upd_same, Dens.nil.mpr rfl, q1, q3, Nat.le_refl _, hc, rfl, hG0 _ _ _ _ hfi⟩
  · rintro i m H2 ⟨rfl, hi, F2, as2, st2, accd, accu, rest, r2, x2, hDl, hdn, hF, hna, hal, hcv, hacc, hGs⟩
    have BD : B D = none := (r1.toRSt.free hD).2.1
    by_cases hlt : i < ds.length
    · have hd : ds[i]? = some ds[i] := List.getElem?_eq_getElem hlt
      generalize hdd : ds[i] = d at hd
      rw [List.drop_eq_getElem_cons hlt, hdd] at hcv
      refine .inr ⟨Y.go i d x2.ff x2.pre hGs r2 hd, _, fun H' p => ⟨ds.length - (i + 1), by omega, rfl, hlt, p⟩, fun x H3 y => ?_⟩
      obtain ⟨F3, r3, x3, qx⟩ := Y.yld i d x H3 x2.ff x2.pre hGs r2 hd y
      simp only [compG] at hcv
      obtain ⟨e1, hb, hcv⟩ := obnd hcv
      obtain ⟨⟨b, st3⟩, hcnd, hcv⟩ := obnd hcv
      dsimp only at hcv
      have rel3 := (r1.slots (x2.trans x3) r3).wiped own
      refine ht rel3 qx hb fun σ' r4 w4 => ⟨by
        rw [w4 own hs, wipe_twice], ?_⟩
      have hD3 : H3 D = some (.lst accu) := x3.fr _ _ hDl hna
      have hF3 : F3 D = none := by
        cases z : F3 D with
        | none => rfl
        | some y =>
          rcases x3.nf D (by rw [z]; simp) hF with w | w
          · rw [hDl] at w; cases w
          · exact absurd w hna
      refine ⟨F3, B, as2, e1, st2, b, st3, r4, hcnd, fun F4 as4 H4 r5 x4 => ?_⟩
      have keep : ∀ {F' H' : Hp} {as' : List Addr}, Ext F3 as2 H3 F' as' H' → H' D = some (.lst accu) ∧ F' D = none ∧ D ∉ as' := fun {F' H' as'} x => by
        refine ⟨x.fr _ _ hD3 hna, ?_, fun hm => ?_⟩
        · cases z : F' D with
          | none => rfl
          | some y =>
            rcases x.nf D (by rw [z]; simp) hF3 with w | w
            · rw [hD3] at w; cases w
            · exact absurd w hna
        · have := x.na D hm hna
          rw [hD3] at this; cases this
      cases b with
      | false =>
        dsimp only
        rw [if_neg Bool.false_ne_true] at hcv ⊢
        split at hcv
        case isFalse => cases hcv
        rename_i hGn
        obtain ⟨k1, k2, k3⟩ := keep x4
        exact ⟨F4, as4, st3, accd, accu, rest, r5.toRSt, (x2.trans x3).trans x4, k1, Dens.mono (fun a o h => x4.ff _ _ (x3.ff _ _ h)) _ _ hdn, k2, k3, by omega, hcv, hacc, hGn⟩
      | true =>
        dsimp only
        rw [if_pos rfl] at hcv ⊢
        obtain ⟨⟨v, st4⟩, helt, hcv⟩ := obnd hcv
        obtain ⟨⟨d', st5⟩, htd, hcv⟩ := obnd hcv
        dsimp only at hcv
        split at hcv
        case isFalse => cases hcv
        rename_i hGn
        obtain ⟨⟨rest', s2'⟩, hrec, e'⟩ := omap hcv
        cases e'
        dsimp only at hrec htd
        refine ⟨F4, B, as4, e1, st3, v, st4, r5, helt, fun F5 as5 H5 u r6 x5 v5 => ?_⟩
        obtain ⟨F6, r7, x6, qd⟩ := toD_ok r6 htd v5
        have x36 := (x4.trans x5).trans x6
        obtain ⟨k1, k2, k3⟩ := keep x36
        refine ⟨accu, k1, by rw [← line_eq]; omega, ?_⟩
        have xx := (x2.trans x3).trans x36
        refine ⟨F6, as5, st5, accd ++ [d'], accu ++ [u], rest', ⟨fun a o h => ?_, fun a o h => ?_, r7.nd, r7.len, r7.nb, fun l a o h1 h2 => ?_⟩, ⟨xx.ff, xx.pre, fun a o h hn => ?_, fun a ha => ?_, xx.nf, xx.na⟩, upd_same, ?_, k2, k3, ?_, hrec, ?_, hGn⟩
        · rw [upd_ne (by intro z; rw [z, k2] at h; cases h)]; exact r7.fh _ _ h
        · rw [upd_ne (by intro z; rw [z, BD] at h; cases h)]; exact r7.bh _ _ h
        · obtain ⟨z, ho, e3, e4⟩ := r7.obj l a o h1 h2
          exact ⟨z, ho, by rw [upd_ne (by intro z; exact k3 (z ▸ List.mem_of_getElem? h1))]; exact e3, e4⟩
        · rw [upd_ne (by intro z; rw [z, hD] at h; cases h)]; exact xx.fr _ _ h hn
        · rw [upd_ne (by intro z; exact r1.toRSt.there a ha (z ▸ hD))]; exact xx.frA a ha
        · exact (Dens.mono (fun a o h => x36.ff _ _ (x3.ff _ _ h)) _ _ hdn).append (Dens.one qd)
        · simp; omega
        · rw [← hacc]; simp
    · have hie : i = ds.length := by omega
      subst hie
      rw [List.drop_length] at hcv
      simp only [compG] at hcv
      cases hcv
      rw [List.append_nil] at hacc
      subst hacc
      refine .inl ⟨Y.stop _ x2.ff x2.pre hGs r2 rfl, ?_⟩
      exact k F2 as2 H2 D (.lst accu) (r.slots (x1.trans x2) r2) (x1.trans x2) (x1.back hD) hF hna hDl ⟨accu, rfl, hdn⟩
theorem comp_ofG {fi : Env → Sto → Option (List D × Sto)} {G : Env → Sto → Sto → Prop} {own tg : List Nat} {bind : D → Env → Option Env} {cond : Env → Sto → Option (Bool × Sto)} {elt : Env → Sto → Option (Val × Sto)} {t : TG} (ht : TgOk X.K cs t bind tg) (hs : ∀ i ∈ tg, i ∈ own) (hG0 : ∀ env st ds st', fi env st = some (ds, st') → G env st' st') :
    ∀ σ H Q, tO X.K cs (fCompG fi G own bind cond elt) σ H Q → tLc (tIG X.K cs fi G) t (tB X.K cs cond) (tE X.K cs elt) own σ H Q := fun σ H Q h =>
  (comp_ofGZ (Z := fun _ _ => True) ht hs hG0 σ H Q ⟨trivial, h⟩).2
theorem comp_of {fi : Env → Sto → Option (List D × Sto)} {own tg : List Nat} {bind : D → Env → Option Env} {cond : Env → Sto → Option (Bool × Sto)} {elt : Env → Sto → Option (Val × Sto)} {t : TG} (ht : TgOk X.K cs t bind tg) (hs : ∀ i ∈ tg, i ∈ own) :
    ∀ σ H Q, tO X.K cs (fComp fi own bind cond elt) σ H Q → tLc (tI X.K cs fi) t (tB X.K cs cond) (tE X.K cs elt) own σ H Q := by
  rw [← fCompG_any]
  exact comp_ofG ht hs fun _ _ _ _ _ => trivial
def tS (K : PySem.W.Frag) (cs : Nat → Option Addr) (f : Env → Sto → Option Out) : TS := fun D σ H => ∃ F B as env st o, Rel K cs F B as env st σ H ∧ f env st = some o ∧
  (∀ e' s', o = .nx e' s' → ∀ F' as' H' σ', Rel K cs F' B as' e' s' σ' H' → Ext F as H F' as' H' → D.nx σ' H') ∧
  (∀ v s', o = .rt v s' → ∀ F' as' H' u, RSt K cs F' B as' s' H' → Ext F as H F' as' H' → VOk K F' B as' v u → D.rt u H')
theorem _root_.L2.PS.weak {st : Stmt} {t t' : TS} (h : PS X st t) (w : ∀ D σ H, t' D σ H → t D σ H) : PS X st t' := ⟨fun pins s σ H D I q => h.run pins s σ H D I (w D σ H q)⟩
theorem _root_.L2.PSs.weak {st : List Stmt} {t t' : TS} (h : PSs X st t) (w : ∀ D σ H, t' D σ H → t D σ H) : PSs X st t' := ⟨fun pins s σ H D I q => h.run pins s σ H D I (w D σ H q)⟩
variable {ff : Env → Sto → Option Out} {gg : Env → Sto → Option Out}
theorem ss_nil : PSs X [] (tS X.K cs fun env st => some (.nx env st)) := pss_nil.weak fun D σ H ⟨F, B, as, env, st, o, r, ev, k1, k2⟩ => by
  cases ev
  exact k1 env st rfl F as H σ r r.refl
def fSeq (ff gg : Env → Sto → Option Out) : Env → Sto → Option Out := fun env st => (ff env st).bind fun o => match o with
    | .nx e s => gg e s
    | .rt v s => some (.rt v s)
theorem ss_cons {s : Stmt} {rest : List Stmt} (h1 : PS X s (tS X.K cs ff)) (h2 : PSs X rest (tS X.K cs gg)) : PSs X (s :: rest) (tS X.K cs (fSeq ff gg)) := (pss_cons h1 h2).weak fun D σ H ⟨F, B, as, env, st, o, r, ev, k1, k2⟩ => by
  obtain ⟨o1, e1, ev1⟩ := obnd ev
  refine ⟨F, B, as, env, st, o1, r, e1, fun e' s' eo F1 as1 H1 σ1 r1 x1 => ?_, fun v s' eo F1 as1 H1 u r1 x1 v1 => ?_⟩
  · subst eo
    exact ⟨F1, B, as1, e', s', o, r1, ev1, fun e2 s2 eo F2 as2 H2 σ2 r2 x2 => k1 e2 s2 eo F2 as2 H2 σ2 r2 (x1.trans x2), fun v s2 eo F2 as2 H2 u r2 x2 v2 => k2 v s2 eo F2 as2 H2 u r2 (x1.trans x2) v2⟩
  · subst eo
    cases ev1
    exact k2 v s' rfl F1 as1 H1 u r1 x1 v1
def fFrz (i : Nat) : Env → Sto → Option Out := fun env st => match env[i]? with
    | some (some v) => (toD v st).map fun q => .nx (env.set i (some (.dat q.1))) q.2
    | _ => none
theorem ss_frz {i : Nat} {rest : List Stmt} (h2 : PSs X rest (tS X.K cs gg)) : PSs X rest (tS X.K cs (fSeq (fFrz i) gg)) := h2.weak fun D σ H ⟨F, B, as, env, st, o, r, ev, k1, k2⟩ => by
  obtain ⟨o1, e1, ev1⟩ := obnd ev
  unfold fFrz at e1
  split at e1
  · rename_i v hv
    obtain ⟨⟨d, s1⟩, hd, eo⟩ := omap e1
    subst eo
    obtain ⟨u, hu, qv⟩ := r.slot i v hv
    obtain ⟨F1, r1, x1, q1⟩ := toD_ok r hd qv
    have r2 := r1.set' (i := i) (v := .dat d) (u := u) q1
    have e2 : σ.set i (some u) = σ := by
      obtain ⟨hl, e⟩ := List.getElem?_eq_some_iff.mp hu
      rw [← e]
      exact List.set_getElem_self hl
    rw [e2] at r2
    exact ⟨F1, B, as, _, s1, o, r2, ev1, fun e2 s2 eo F2 as2 H2 σ2 r2 x2 => k1 e2 s2 eo F2 as2 H2 σ2 r2 (x1.trans x2), fun v s2 eo F2 as2 H2 u r2 x2 v2 => k2 v s2 eo F2 as2 H2 u r2 (x1.trans x2) v2⟩
  · cases e1
def fSet (i : Nat) (f : Env → Sto → Option (Val × Sto)) : Env → Sto → Option Out := fun env st => (f env st).map fun r => .nx (env.set i (some r.1)) r.2
theorem set_of {i : Nat} : ∀ D σ H, tS X.K cs (fSet i f) D σ H → tAsg (tE X.K cs f) (gName i) D σ H := fun D σ H ⟨F, B, as, env, st, o, r, ev, k1, k2⟩ => by
  obtain ⟨⟨v, s1⟩, e1, ev1⟩ := omap ev
  exact ⟨F, B, as, env, st, v, s1, r, e1, fun F' as' H' u r' x' v1 => k1 _ _ ev1.symm F' as' H' _ (r'.set' v1) x'⟩
theorem s_set {i : Nat} {x : Str} {pos' : Pos} (hN : X.N.Nodup) (hi : X.N[i]? = some x) (hx : Loc X.env.scope x) (he : PE X e (tE X.K cs f)) (hs : swapsWith e (some (.Name x pos')) pos.line X.env = pure false) (hf : X.fn x = true ∨ X.env.scope.names.lookup x = some .local) :
    PS X (.Assign [.Name x pos'] e pos) (tS X.K cs (fSet i f)) := (ps_set hN hi hx he hs hf).weak set_of
def fPar (i j : Nat) (f1 f2 : Env → Sto → Option (Val × Sto)) : Env → Sto → Option Out := fun env st => (f1 env st).bind fun r => (f2 env r.2).map fun q => .nx ((env.set i (some r.1)).set j (some q.1)) q.2
theorem s_par {i j : Nat} {x y : Str} {px py pt : Pos} {kt k2 pt2} (hc : X.calm = true) (hN : X.N.Nodup) (hi : X.N[i]? = some x) (hj : X.N[j]? = some y) (hij : i ≠ j) (hx : X.env.scope.names.lookup x = some .local) (hy : X.env.scope.names.lookup y = some .local)
    (h1 : PE X e1 (tE X.K cs f1)) (h2 : PE X e2 (tE X.K cs f2)) (s1 : nStar e1 = true) (s2 : nStar e2 = true) (hsw : swappedStores [.Tuple [.Name x px, .Name y py] kt pt] (.Tuple [e1, e2] k2 pt2) X.env = pure (some [x, y])) :
    PS X (.Assign [.Tuple [.Name x px, .Name y py] kt pt] (.Tuple [e1, e2] k2 pt2) pos) (tS X.K cs (fPar i j f1 f2)) :=
  (ps_par hc hN hi hj hij hx hy (s_cons h1 (s_cons h2 s_nil s2) s1) hsw rfl).weak fun D σ H ⟨F, B, as, env, st, o, r, ev, k1, k2⟩ => by
    obtain ⟨⟨v, q1⟩, e1, ev1⟩ := obnd ev
    obtain ⟨⟨w, q2⟩, e2, ev2⟩ := omap ev1
    refine ⟨F, B, as, env, st, [v, w], q2, r, by simp [e1, e2], fun F' as' H' us r' x' v1 => ?_⟩
    obtain ⟨u, t, rfl, a, b⟩ := paired2 v1
    exact ⟨u, t, rfl, k1 _ _ ev2.symm F' as' H' _ ((r'.set' a).set' b) x'⟩
def fUnp (is : List Nat) (f : Env → Sto → Option (Val × Sto)) : Env → Sto → Option Out := fun env st => (f env st).bind fun r => (asU r.1).bind fun ds => (bindT.go is ds env).map fun e1 => .nx e1 r.2
theorem s_unp {is : List Nat} {ts : List Expr} {kt : Nat} {pt : Pos} (he : PE X e (tE X.K cs f)) (hg : PG X (.Tuple ts kt pt) (gTL X.K is)) (hs : swapsWithSole [.Tuple ts kt pt] e pos.line X.env = pure false) (hw : swappedStores [.Tuple ts kt pt] e X.env = pure none) : PS X (.Assign [.Tuple ts kt pt] e pos) (tS X.K cs (fUnp is f)) :=
  (ps_asg he hg hs hw).weak fun D σ H ⟨F, B, as, env, st, o, r, ev, k1, k2⟩ => by
    obtain ⟨⟨v, q1⟩, e1, ev1⟩ := obnd ev
    obtain ⟨ds, hd, ev2⟩ := obnd ev1
    obtain ⟨en, hb, ev3⟩ := omap ev2
    refine ⟨F, B, as, env, st, v, q1, r, e1, fun F' as' H' u r' x' v1 => ?_⟩
    unfold asU at hd
    split at hd
    · cases hd
      rename_i hv
      dsimp only at hv
      subst hv
      obtain ⟨p, us, rfl, hp, hq⟩ := Den.tup_iff.mp v1
      exact .inl ⟨p, us, rfl, .inl (rd_mono r'.fh hp.rd), by rw [hq.length]; exact go_len hb, tg_names r' hq hb fun σ' r2 _ => k1 _ _ ev3.symm F' as' H' σ' r2 x'⟩
    · cases hd
      rename_i hv
      dsimp only at hv
      subst hv
      obtain ⟨p, us, rfl, hp, hq⟩ := Den.lst_iff.mp v1
      exact .inr ⟨p, us, rfl, .of (r'.fh _ _ hp), by rw [hq.length]; exact go_len hb, tg_names r' hq hb fun σ' r2 _ => k1 _ _ ev3.symm F' as' H' σ' r2 x'⟩
    · cases hd
def VsOk (K : PySem.W.Frag) (F B : Hp) (as : List Addr) : List Val → List V → Prop
  | [], us => us = []
  | v :: vs, us => ∃ u us', us = u :: us' ∧ VOk K F B as v u ∧ VsOk K F B as vs us'
theorem VsOk.of {K : PySem.W.Frag} {F B : Hp} {as : List Addr} : ∀ {ds : List D} {us : List V}, Dens K F ds us → VsOk K F B as (ds.map .dat) us
  | [], us, q => Dens.nil.mp q
  | d :: ds, us, q => by
    obtain ⟨u, us', rfl, a, b⟩ := Dens.cons.mp q
    exact ⟨u, us', rfl, a, VsOk.of b⟩
theorem VsOk.app {K : PySem.W.Frag} {F B : Hp} {as : List Addr} {ws : List Val} {us2 : List V} (h2 : VsOk K F B as ws us2) : ∀ {vs : List Val} {us : List V}, VsOk K F B as vs us → VsOk K F B as (vs ++ ws) (us ++ us2)
  | [], us, q => by
    have : us = [] := q
    subst this
    exact h2
  | v :: vs, us, q => by
    obtain ⟨u, us', rfl, a, b⟩ := q
    exact ⟨u, us' ++ us2, rfl, a, VsOk.app h2 b⟩
theorem VsOk.length {K : PySem.W.Frag} {F B : Hp} {as : List Addr} : ∀ {vs : List Val} {us : List V}, VsOk K F B as vs us → us.length = vs.length
  | [], us, q => by
    have : us = [] := q
    subst this
    rfl
  | v :: vs, us, q => by
    obtain ⟨u, us', rfl, _, b⟩ := q
    simp [VsOk.length b]
theorem tgV_names : ∀ {is : List Nat} {F B H : Hp} {as : List Addr} {env : Env} {st : Sto} {σ : L2.St} {vs : List Val} {us : List V} {env' : Env} {Q : L2.St → Hp → Prop}, Rel X.K cs F B as env st σ H → VsOk X.K F B as vs us → goV is vs env = some env' →
    (∀ σ', Rel X.K cs F B as env' st σ' H → Q σ' H) → gNames is us σ H Q
  | [], F, B, H, as, env, st, σ, [], us, env', Q, r, q, h, k => by
    simp only [goV] at h; cases h
    exact ⟨q, k σ r⟩
  | [], F, B, H, as, env, st, σ, _ :: _, us, env', Q, r, q, h, k => by simp [goV] at h
  | _ :: _, F, B, H, as, env, st, σ, [], us, env', Q, r, q, h, k => by simp [goV] at h
  | i :: is, F, B, H, as, env, st, σ, v :: vs, us, env', Q, r, q, h, k => by
    simp only [goV] at h
    obtain ⟨u, us', rfl, a, b⟩ := q
    refine ⟨u, us', rfl, ?_⟩
    show gNames is us' (σ.set i (some u)) H Q
    exact tgV_names (r.set' (v := v) a) b h fun σ' r' => k σ' r'
theorem goV_len : ∀ {is : List Nat} {vs : List Val} {env env' : Env}, goV is vs env = some env' → vs.length = is.length
  | [], [], _, _, _ => rfl
  | [], _ :: _, _, _, h => by simp [goV] at h
  | _ :: _, [], _, _, h => by simp [goV] at h
  | i :: is, d :: ds, _, _, h => by simp only [goV] at h; simp [goV_len h]
def fUnV (is : List Nat) (f : Env → Sto → Option (Val × Sto)) : Env → Sto → Option Out := fun env st => (f env st).bind fun r => (unpV r.1).bind fun vs => (goV is vs env).map fun e1 => .nx e1 r.2
theorem s_unV {is : List Nat} {ts : List Expr} {kt : Nat} {pt : Pos} (he : PE X e (tE X.K cs f)) (hg : PG X (.Tuple ts kt pt) (gTL X.K is)) (hs : swapsWithSole [.Tuple ts kt pt] e pos.line X.env = pure false) (hw : swappedStores [.Tuple ts kt pt] e X.env = pure none) : PS X (.Assign [.Tuple ts kt pt] e pos) (tS X.K cs (fUnV is f)) :=
  (ps_asg he hg hs hw).weak fun D σ H ⟨F, B, as, env, st, o, r, ev, k1, k2⟩ => by
    obtain ⟨⟨v, q1⟩, e1, ev1⟩ := obnd ev
    obtain ⟨vs, hd, ev2⟩ := obnd ev1
    obtain ⟨en, hb, ev3⟩ := omap ev2
    refine ⟨F, B, as, env, st, v, q1, r, e1, fun F' as' H' u r' x' v1 => ?_⟩
    unfold unpV at hd
    split at hd
    · cases hd
      rename_i hv
      dsimp only at hv
      subst hv
      obtain ⟨p, us, rfl, hp, hq⟩ := Den.tup_iff.mp v1
      have hl := goV_len hb
      rw [List.length_map] at hl
      exact .inl ⟨p, us, rfl, .inl (rd_mono r'.fh hp.rd), by rw [hq.length]; exact hl, tgV_names r' (VsOk.of hq) hb fun σ' r2 => k1 _ _ ev3.symm F' as' H' σ' r2 x'⟩
    · cases hd
      rename_i pre l post hv
      dsimp only at hv
      subst hv
      obtain ⟨p, ps, ws, a, rfl, hp, h1, h2, h3⟩ := v1
      have hw : VsOk X.K F' B as' (Val.ref l :: post.map Val.dat) (V.ref a :: ws) := ⟨V.ref a, ws, rfl, ⟨a, h3, rfl⟩, VsOk.of h2⟩
      have hvs : VsOk X.K F' B as' (pre.map Val.dat ++ Val.ref l :: post.map Val.dat) (ps ++ V.ref a :: ws) := VsOk.app hw (VsOk.of h1)
      exact .inl ⟨p, _, rfl, .inl (.of (r'.fh _ _ hp)), by rw [hvs.length]; exact goV_len hb, tgV_names r' hvs hb fun σ' r2 => k1 _ _ ev3.symm F' as' H' σ' r2 x'⟩
    · cases hd
def fExpr (f : Env → Sto → Option (Val × Sto)) : Env → Sto → Option Out := fun env st => (f env st).map fun r => .nx env r.2
theorem s_expr (he : PE X e (tE X.K cs f)) (hs : swapsWith e none pos.line X.env = pure false) : PS X (.Expr e pos) (tS X.K cs (fExpr f)) := (ps_expr he hs).weak fun D σ H ⟨F, B, as, env, st, o, r, ev, k1, k2⟩ => by
  obtain ⟨⟨v, s1⟩, e1, ev1⟩ := omap ev
  exact ⟨F, B, as, env, st, v, s1, r, e1, fun F' as' H' u r' x' v1 => k1 _ _ ev1.symm F' as' H' _ r' x'⟩
def fRet (f : Env → Sto → Option (Val × Sto)) : Env → Sto → Option Out := fun env st => (f env st).map fun r => .rt r.1 r.2
theorem s_ret (he : PE X e (tE X.K cs f)) : PS X (.Return (some e) pos) (tS X.K cs (fRet f)) := (ps_ret he).weak fun D σ H ⟨F, B, as, env, st, o, r, ev, k1, k2⟩ => by
  obtain ⟨⟨v, s1⟩, e1, ev1⟩ := omap ev
  exact ⟨F, B, as, env, st, v, s1, r, e1, fun F' as' H' u r' x' v1 => k2 _ _ ev1.symm F' as' H' u r'.toRSt x' v1⟩
theorem s_retN : PS X (.Return none pos) (tS X.K cs fun _ st => some (.rt (.dat .non) st)) := ps_retN.weak fun D σ H ⟨F, B, as, env, st, o, r, ev, k1, k2⟩ => by
  cases ev
  exact k2 _ _ rfl F as H _ r.toRSt r.refl vnon
theorem s_pass : PS X (.Pass pos) (tS X.K cs fun env st => some (.nx env st)) := ps_pass.weak fun D σ H ⟨F, B, as, env, st, o, r, ev, k1, k2⟩ => by
  cases ev
  exact k1 _ _ rfl F as H σ r r.refl
theorem s_nev {s : Stmt} : PS X s (tS X.K cs fun _ _ => none) := ps_never.weak fun D σ H ⟨F, B, as, env, st, o, r, ev, k1, k2⟩ => by cases ev
def fIf (c : Env → Sto → Option (Bool × Sto)) (ff gg : Env → Sto → Option Out) : Env → Sto → Option Out := fun env st => (c env st).bind fun r => if r.1 then ff env r.2 else gg env r.2
theorem s_if {c : Env → Sto → Option (Bool × Sto)} {a b : List Stmt} (hc : PT X e (tB X.K cs c)) (ha : PSs X a (tS X.K cs ff)) (hb : PSs X b (tS X.K cs gg)) : PS X (.If e a b pos) (tS X.K cs (fIf c ff gg)) := (ps_if hc ha hb).weak fun D σ H ⟨F, B, as, env, st, o, r, ev, k1, k2⟩ => by
  obtain ⟨⟨b, s1⟩, e1, ev1⟩ := obnd ev
  refine ⟨F, B, as, env, st, b, s1, r, e1, fun F1 as1 H1 r1 x1 => ?_⟩
  dsimp only at ev1
  cases b
  · rw [if_neg Bool.false_ne_true] at ev1 ⊢
    exact ⟨F1, B, as1, env, s1, o, r1, ev1, fun e2 s2 eo F2 as2 H2 σ2 r2 x2 => k1 e2 s2 eo F2 as2 H2 σ2 r2 (x1.trans x2), fun v s2 eo F2 as2 H2 u r2 x2 v2 => k2 v s2 eo F2 as2 H2 u r2 (x1.trans x2) v2⟩
  · rw [if_pos rfl] at ev1 ⊢
    exact ⟨F1, B, as1, env, s1, o, r1, ev1, fun e2 s2 eo F2 as2 H2 σ2 r2 x2 => k1 e2 s2 eo F2 as2 H2 σ2 r2 (x1.trans x2), fun v s2 eo F2 as2 H2 u r2 x2 v2 => k2 v s2 eo F2 as2 H2 u r2 (x1.trans x2) v2⟩
theorem s_while {c : Env → Sto → Option (Bool × Sto)} {b : List Stmt} (hp : PassesOwn (model X.prog X.w) X.A X.env X.xe) (hc : PT X e (tB X.K cs c)) (hb : PSs X b (tS X.K cs ff)) : PS X (.While e b [] pos) (tS X.K cs fun env st => whV c ff env st) := (ps_while hp hc hb).weak fun D σ H ⟨F, B, as, env, st, o, r, ev, k1, k2⟩ => by
  obtain ⟨n, hn⟩ := whV_some c ff ev
  refine ⟨fun m σ2 H2 => ∃ F2 as2 env2 st2, Rel X.K cs F2 B as2 env2 st2 σ2 H2 ∧ Ext F as H F2 as2 H2 ∧ whI c ff m env2 st2 = some o, ⟨n, F, as, env, st, r, r.refl, hn⟩, fun m σ2 H2 ⟨F2, as2, env2, st2, r2, x2, hm⟩ => ?_⟩
  cases m with
  | zero => simp [whI] at hm
  | succ m =>
    simp only [whI] at hm
    obtain ⟨⟨b, s1⟩, e1, hm⟩ := obnd hm
    refine ⟨F2, B, as2, env2, st2, b, s1, r2, e1, fun F3 as3 H3 r3 x3 => ?_⟩
    dsimp only at hm
    cases b
    · rw [if_neg Bool.false_ne_true] at hm
      cases hm
      show D.nx σ2 H3
      exact k1 _ _ rfl F3 as3 H3 σ2 r3 (x2.trans x3)
    · rw [if_pos rfl] at hm
      obtain ⟨o2, e2, hm⟩ := obnd hm
      refine ⟨_, fun σ4 H4 h => h, ?_⟩
      refine ⟨F3, B, as3, env2, s1, o2, r3, e2, fun e4 s4 eo F4 as4 H4 σ4 r4 x4 => ?_, fun v s4 eo F4 as4 H4 u r4 x4 v4 => ?_⟩
      · subst eo
        exact ⟨m, Nat.lt_succ_self _, F4, as4, e4, s4, r4, (x2.trans x3).trans x4, hm⟩
      · subst eo
        cases hm
        exact k2 v s4 rfl F4 as4 H4 u r4 ((x2.trans x3).trans x4) v4
def fFor (fi : Env → Sto → Option (List D × Sto)) (bind : D → Env → Option Env) (ff : Env → Sto → Option Out) : Env → Sto → Option Out := fun env st => (fi env st).bind fun r => forV bind ff r.1 env r.2
noncomputable def fForG (fi : Env → Sto → Option (List D × Sto)) (G : Env → Sto → Sto → Prop) (bind : D → Env → Option Env) (ff : Env → Sto → Option Out) : Env → Sto → Option Out := fun env st => (fi env st).bind fun r => forG (G env r.2) bind ff r.1 env r.2
theorem s_forGZ {Z : L2.St → Hp → Prop} {fi : Env → Sto → Option (List D × Sto)} {G : Env → Sto → Sto → Prop} {bind : D → Env → Option Env} {t : TG} {tgl : List Nat} {tg it : Expr} {b : List Stmt} (hp : PassesOwn (model X.prog X.w) X.A X.env X.xe) (hc : X.calm = true) (hi : PI X tg it fun σ H R => Z σ H ∧ tIG X.K cs fi G σ H R) (hg : PG X tg t) (ht : TgOk X.K cs t bind tgl) (hb : PSs X b (tS X.K cs ff))
    (hs : ∀ x, foldedSetIterable it X.env x = pure x) (hG0 : ∀ env st ds st', fi env st = some (ds, st') → G env st' st') : PS X (.For tg it b [] pos) (fun D σ H => Z σ H ∧ tS X.K cs (fForG fi G bind ff) D σ H) := (ps_for hp hc hi hg hb hs).weak fun D σ H ⟨hZ, F, B, as, env, st, o, r, ev, k1, k2⟩ => by
  obtain ⟨⟨ds, s1⟩, hfi, ev1⟩ := obnd ev
  refine ⟨hZ, F, B, as, env, st, ds, s1, r, hfi, fun F1 as1 H1 J r1 x1 Y hlen => ?_⟩
  refine ⟨fun i m σ2 H2 => m = ds.length - i ∧ i ≤ ds.length ∧ ∃ F2 as2 env2 st2, Rel X.K cs F2 B as2 env2 st2 σ2 H2 ∧ Ext F1 as1 H1 F2 as2 H2 ∧ forG (G env s1) bind ff (ds.drop i) env2 st2 = some o ∧ G env s1 st2, ⟨ds.length, by omega, Nat.zero_le _, F1, as1, env, s1, r1, r1.refl, ev1, hG0 _ _ _ _ hfi⟩, ?_⟩
  rintro i m σ2 H2 ⟨rfl, hi, F2, as2, env2, st2, r2, x2, hf, hGs⟩
  by_cases hlt : i < ds.length
  · have hd : ds[i]? = some ds[i] := List.getElem?_eq_getElem hlt
    generalize hdd : ds[i] = d at hd
    rw [List.drop_eq_getElem_cons hlt, hdd] at hf
    simp only [forG] at hf
    obtain ⟨e1, hb1, hf⟩ := obnd hf
    obtain ⟨o2, hb2, hf⟩ := obnd hf
    refine .inr ⟨Y.go i d x2.ff x2.pre hGs r2.toRSt hd, _, fun σ' H' p => ⟨ds.length - (i + 1), by omega, rfl, hlt, p⟩, fun x H3 y => ?_⟩
    obtain ⟨F3, r3, x3, qx⟩ := Y.yld i d x H3 x2.ff x2.pre hGs r2.toRSt hd y
    refine ht (r2.slots x3 r3) qx hb1 fun σ' r4 _ => ?_
    refine ⟨F3, B, as2, e1, st2, o2, r4, hb2, fun e4 s4 eo F4 as4 H4 σ4 r5 x4 => ?_, fun v s4 eo F4 as4 H4 u r5 x4 v4 => ?_⟩
    · subst eo
      dsimp only at hf
      split at hf
      case isFalse => cases hf
      rename_i hGn
      exact ⟨F4, as4, e4, s4, r5, (x2.trans x3).trans x4, hf, hGn⟩
    · subst eo
      cases hf
      exact k2 v s4 rfl F4 as4 H4 u r5 (((x1.trans x2).trans x3).trans x4) v4
  · have hie : i = ds.length := by omega
    subst hie
    rw [List.drop_length] at hf
    simp only [forG] at hf
    cases hf
    exact .inl ⟨Y.stop _ x2.ff x2.pre hGs r2.toRSt rfl, k1 _ _ rfl F2 as2 H2 σ2 r2 (x1.trans x2)⟩
theorem s_forG {fi : Env → Sto → Option (List D × Sto)} {G : Env → Sto → Sto → Prop} {bind : D → Env → Option Env} {t : TG} {tgl : List Nat} {tg it : Expr} {b : List Stmt} (hp : PassesOwn (model X.prog X.w) X.A X.env X.xe) (hc : X.calm = true) (hi : PI X tg it (tIG X.K cs fi G)) (hg : PG X tg t) (ht : TgOk X.K cs t bind tgl) (hb : PSs X b (tS X.K cs ff))
    (hs : ∀ x, foldedSetIterable it X.env x = pure x) (hG0 : ∀ env st ds st', fi env st = some (ds, st') → G env st' st') : PS X (.For tg it b [] pos) (tS X.K cs (fForG fi G bind ff)) :=
  (s_forGZ (Z := fun _ _ => True) hp hc (hi.weak fun σ H R h => h.2) hg ht hb hs hG0).weak fun D σ H h => ⟨trivial, h⟩
theorem fForG_any {fi : Env → Sto → Option (List D × Sto)} {bind : D → Env → Option Env} {ff : Env → Sto → Option Out} : fForG fi anyG bind ff = fFor fi bind ff := by
  funext env st
  simp only [fForG, fFor, anyG, forG_any]
theorem s_for {fi : Env → Sto → Option (List D × Sto)} {bind : D → Env → Option Env} {t : TG} {tgl : List Nat} {tg it : Expr} {b : List Stmt} (hp : PassesOwn (model X.prog X.w) X.A X.env X.xe) (hc : X.calm = true) (hi : PI X tg it (tI X.K cs fi)) (hg : PG X tg t) (ht : TgOk X.K cs t bind tgl) (hb : PSs X b (tS X.K cs ff))
    (hs : ∀ x, foldedSetIterable it X.env x = pure x) : PS X (.For tg it b [] pos) (tS X.K cs (fFor fi bind ff)) := by
  rw [← fForG_any]
  exact s_forG hp hc hi hg ht hb hs fun _ _ _ _ _ => trivial
end
end NK
set_option Elab.async false
set_option linter.all false
set_option autoImplicit false
set_option maxRecDepth 100000
namespace NK
open PySem PySem.Spec PyProof.Rows L2
theorem zip_any {κ κ' : Type} [DecidableEq κ] [DecidableEq κ'] {g : κ → κ'} (hg : ∀ a b, g a = g b → a = b) : ∀ {ks : List κ} {us : List V} (k : κ), ks.length = us.length → ((((ks.map g).zip us)).any fun kv => decide (kv.1 = g k)) = decide (k ∈ ks)
  | [], _, k, _ => by simp
  | j :: ks, [], k, h => by simp at h
  | j :: ks, u :: us, k, h => by
    rw [List.map_cons, List.zip_cons_cons, List.any_cons, zip_any hg k (by simpa using h)]
    rw [Bool.eq_iff_iff]
    simp only [Bool.or_eq_true, decide_eq_true_eq, List.mem_cons]
    constructor
    · rintro (e | e)
      · exact .inl (hg _ _ e).symm
      · exact .inr e
    · rintro (e | e)
      · exact .inl (by rw [e])
      · exact .inr e
theorem dset_zip {κ κ' : Type} [DecidableEq κ] [DecidableEq κ'] {g : κ → κ'} (hg : ∀ a b, g a = g b → a = b) {K : PySem.W.Frag} {F : Hp} {d : D} {u : V} (q : Den K F d u) : ∀ {ks : List κ} {ds : List D} {us : List V} (k : κ), ks.length = ds.length → Dens K F ds us →
    ∃ us', ((ks.map g).zip us).map (fun kv => if kv.1 = g k then (kv.1, u) else kv) = (ks.map g).zip us' ∧ Dens K F (dsetK ks ds k d) us' ∧ (dsetK ks ds k d).length = ks.length
  | [], [], us, k, _, h => ⟨[], by simp, by simp [dsetK, Dens], rfl⟩
  | [], _ :: _, _, _, h, _ => by simp at h
  | _ :: _, [], _, _, h, _ => by simp at h
  | j :: ks, x :: ds, us, k, h, q2 => by
    obtain ⟨w, us', rfl, a, b⟩ := Dens.cons.mp q2
    obtain ⟨us2, h1, h2, h3⟩ := dset_zip hg q (ks := ks) (ds := ds) (us := us') k (by simpa using h) b
    rw [List.map_cons, List.zip_cons_cons, List.map_cons, h1]
    by_cases e : j = k
    · subst e
      refine ⟨u :: us2, by simp, ?_, by simp [dsetK, h3]⟩
      simp only [dsetK, if_pos]
      exact Dens.cons.mpr ⟨u, us2, rfl, q, h2⟩
    · have e2 : ¬ g j = g k := fun z => e (hg _ _ z)
      refine ⟨w :: us2, by simp [e2], ?_, by simp [dsetK, h3]⟩
      simp only [dsetK, if_neg e]
      exact Dens.cons.mpr ⟨w, us2, rfl, a, h2⟩
theorem dput_zip {κ κ' : Type} [DecidableEq κ] [DecidableEq κ'] {g : κ → κ'} (hg : ∀ a b, g a = g b → a = b) {K : PySem.W.Frag} {F : Hp} {d : D} {u : V} (q : Den K F d u) {ks : List κ} {ds : List D} {us : List V} (k : κ) (h : ks.length = ds.length) (b : Dens K F ds us) :
    ∃ us', putK ((ks.map g).zip us) (g k) u = ((dputK ks ds k d).1.map g).zip us' ∧ (dputK ks ds k d).1.length = (dputK ks ds k d).2.length ∧ Dens K F (dputK ks ds k d).2 us' := by
  unfold putK dputK
  rw [zip_any hg k (by rw [h, b.length])]
  by_cases e : k ∈ ks
  · rw [if_pos (by simpa using e), if_pos e]
    obtain ⟨us', h1, h2, h3⟩ := dset_zip hg q k h b
    exact ⟨us', h1, h3.symm, h2⟩
  · rw [if_neg (by simpa using e), if_neg e]
    refine ⟨us ++ [u], ?_, by simp [h], b.append (Dens.one q)⟩
    rw [List.map_append, List.zip_append (by rw [List.length_map, h, b.length])]
    rfl
section
variable {X : Cx} {cs : Nat → Option Addr} {e e1 e2 e3 : Expr} {es : List Expr} {f f1 f2 f3 : Env → Sto → Option (Val × Sto)} {g : Env → Sto → Option (List Val × Sto)} {pos : Pos}
theorem asgSub {o i : Expr} {p : Pos} (h : nSlice i = true) : ∀ v, assign (.Subscript o i p) X.env v = (do
      let ov ← holding [v] (eval o X.env)
      let iv ← holding [v, ov] (eval i X.env)
      standAt p
      holding [v, ov, iv] (setItem ov iv v)
      release [v, ov, iv] []) := fun v => by cases i <;> first | rfl | simp [nSlice] at h
def fSub (fo fk fv : Env → Sto → Option (Val × Sto)) : Env → Sto → Option Out := fun env st => (fv env st).bind fun r => (toD r.1 r.2).bind fun d => (fo env d.2).bind fun p => (fk env p.2).bind fun q => (storeV p.1 q.1 d.1 q.2).map fun s => .nx env s
theorem s_sub {pos' : Pos} (hu : X.A.units + 200 < cLine) (ho : PE X e1 (tE X.K cs f1)) (hk : PE X e2 (tE X.K cs f2)) (hv : PE X e3 (tE X.K cs f3)) (hn : nSlice e2 = true) (hs : swapsWith e3 (some (.Subscript e1 e2 pos')) pos.line X.env = pure false) (hw : swappedStores [.Subscript e1 e2 pos'] e3 X.env = pure none) :
    PS X (.Assign [.Subscript e1 e2 pos'] e3 pos) (tS X.K cs (fSub f1 f2 f3)) := by
  refine ⟨fun pins s σ H D I h => ?_⟩
  obtain ⟨F, B, as, env, st, o, r, ev, k1, k2⟩ := h
  obtain ⟨⟨v, s1⟩, hv1, ev1⟩ := obnd ev
  obtain ⟨⟨d, s2⟩, hd, ev2⟩ := obnd ev1
  obtain ⟨⟨p, s3⟩, ho1, ev3⟩ := obnd ev2
  obtain ⟨⟨q, s4⟩, hk1, ev4⟩ := obnd ev3
  obtain ⟨s5, hst, ev5⟩ := omap ev4
  clear ev ev1 ev2 ev3 ev4
  dsimp only at hv1 hd ho1 hk1 hst
  have three : ∀ (R : V → V → V → Hp → Prop), (∀ F' as' H' u w x, Rel X.K cs F' B as' env s4 σ H' → Ext F as H F' as' H' → Den X.K F' d u → VOk X.K F' B as' p w → VOk X.K F' B as' q x → R u w x H') →
      tE X.K cs f3 σ H fun u H1 => tE X.K cs f1 σ H1 fun w H2 => tE X.K cs f2 σ H2 fun x H3 => R u w x H3 := fun R hR =>
    ⟨F, B, as, env, st, v, s1, r, hv1, fun F1 as1 H1 u r1 x1 v1 => by
      obtain ⟨F2, r2, x2, q2⟩ := toD_ok r1 hd v1
      exact ⟨F2, B, as1, env, s2, p, s3, r2, ho1, fun F3 as3 H3 w r3 x3 v3 => ⟨F3, B, as3, env, s3, q, s4, r3, hk1, fun F4 as4 H4 x r4 x4 v4 =>
        hR F4 as4 H4 u w x r4 (((x1.trans x2).trans x3).trans x4) (Den.mono (fun a o h => x4.ff _ _ (x3.ff _ _ h)) _ _ q2) (v3.ext x4) v4⟩⟩⟩
  unfold storeV at hst
  split at hst
  case h_2 => cases hst
  rename_i l kd
  split at hst
  · rename_i ds hl
    split at hst
    case h_2 => cases hst
    rename_i i
    obtain ⟨j, hj, e⟩ := omap hst
    subst e
    refine (ps_asg hv (pg_sub ho hk set_list (asgSub hn)) hs hw).run pins s σ H D I ?_
    refine three (fun u w x H3 => rSetL w x u H3 fun H4 => D.nx σ H4) fun F' as' H' u w x r' x' qd vw vx => ?_
    obtain ⟨a, ea, rfl⟩ := vw
    obtain ⟨_, ho', e1, us, rfl, hq⟩ := r'.obj l a _ ea hl
    refine ⟨a, us, i, j, rfl, int_of vx, e1, by rw [hq.length]; exact hj, ?_⟩
    obtain ⟨r2, x2⟩ := r'.toRSt.write (o' := .lst (ds.set j d)) (ho := .lst (us.set j u)) ea hl (by simp) ⟨_, rfl, hq.set j qd⟩
    exact k1 _ _ ev5.symm F' as' _ σ (r'.slots x2 r2) (x'.trans x2)
  · rename_i ks ds hl
    obtain ⟨k0, hk0, hst⟩ := obnd hst
    split at hst
    case isFalse => cases hst
    rename_i hlen
    cases hst
    refine (ps_dput (by omega) ho hk hv hs).run pins s σ H D I ?_
    refine three (fun u w x H3 => ∃ a H4, w = .ref a ∧ DPut H3 a x u H4 ∧ D.nx σ H4) fun F' as' H' u w x r' x' qd vw vx => ?_
    obtain ⟨a, ea, rfl⟩ := vw
    obtain ⟨_, ho', e1, us, rfl, hle, hq⟩ := r'.obj l a _ ea hl
    obtain ⟨us', h1, h2, h3⟩ := dput_zip (g := kk) (fun _ _ => kk_inj) qd k0 hle hq
    refine ⟨a, _, rfl, .inl ⟨_, kk k0, e1, toK_ok hk0 vx, ?_, rfl⟩, ?_⟩
    · rw [List.length_zip, List.length_map, hq.length, ← hle, Nat.min_self, ← line_eq]; exact hlen
    · rw [h1]
      obtain ⟨r2, x2⟩ := r'.toRSt.write (o' := .dK (dputK ks ds k0 d).1 (dputK ks ds k0 d).2) (ho := .dK (((dputK ks ds k0 d).1.map kk).zip us')) ea hl (by simp) ⟨us', rfl, h2, h3⟩
      exact k1 _ _ ev5.symm F' as' _ σ (r'.slots x2 r2) (x'.trans x2)
  · rename_i ks ds hl
    obtain ⟨k0, hk0, hst⟩ := obnd hst
    split at hst
    case isFalse => cases hst
    rename_i hlen
    cases hst
    refine (ps_dput (by omega) ho hk hv hs).run pins s σ H D I ?_
    refine three (fun u w x H3 => ∃ a H4, w = .ref a ∧ DPut H3 a x u H4 ∧ D.nx σ H4) fun F' as' H' u w x r' x' qd vw vx => ?_
    obtain ⟨a, ea, rfl⟩ := vw
    obtain ⟨_, ho', e1, us, rfl, hle, hq⟩ := r'.obj l a _ ea hl
    obtain ⟨us', h1, h2, h3⟩ := dput_zip (g := fun l : List K1 => l.map kk) (fun _ _ => kk_map_inj) qd k0 hle hq
    obtain ⟨c, rfl, hc⟩ := toTK_ok hk0 vx
    refine ⟨a, _, rfl, .inr ⟨_, k0.map kk, c, e1, rfl, r'.fh _ _ hc, ?_, rfl⟩, ?_⟩
    · rw [List.length_zip, List.length_map, hq.length, ← hle, Nat.min_self, ← line_eq]; exact hlen
    · rw [h1]
      obtain ⟨r2, x2⟩ := r'.toRSt.write (o' := .dT (dputK ks ds k0 d).1 (dputK ks ds k0 d).2) (ho := .dT (((dputK ks ds k0 d).1.map (·.map kk)).zip us')) ea hl (by simp) ⟨us', rfl, h2, h3⟩
      exact k1 _ _ ev5.symm F' as' _ σ (r'.slots x2 r2) (x'.trans x2)
  · cases hst
def fAug (i : Nat) (o : BOp) (f : Env → Sto → Option (Val × Sto)) : Env → Sto → Option Out := fun env st => match env[i]? with
    | some (some (.dat (.int x))) => (f env st).bind fun r => (intOf r.1).bind fun y => match o with
      | .add => some (.nx (env.set i (some (.dat (.int (x + y))))) r.2)
      | .sub => some (.nx (env.set i (some (.dat (.int (x - y))))) r.2)
      | _ => none
    | _ => none
theorem s_aug {i : Nat} {x : Str} {pos' : Pos} {o : BOp} (hN : X.N.Nodup) (hi : X.N[i]? = some x) (hx : Loc X.env.scope x) (he : PE X e (tE X.K cs f)) (hf : X.fn x = true ∨ X.env.scope.names.lookup x = some .local) :
    PS X (.AugAssign (.Name x pos') (opB o) e pos) (tS X.K cs (fAug i o f)) := by
  refine ⟨fun pins s σ H D I h => ?_⟩
  obtain ⟨F, B, as, env, st, ou, r, ev, k1, k2⟩ := h
  unfold fAug at ev
  split at ev
  case h_2 => cases ev
  rename_i x0 hx0
  obtain ⟨⟨v, s1⟩, e1, ev1⟩ := obnd ev
  obtain ⟨y, hy, ev2⟩ := obnd ev1
  clear ev ev1
  have hy := intOf_eq hy
  dsimp only at hy
  subst hy
  obtain ⟨u, hu, qu⟩ := r.slot i _ hx0
  split at ev2
  · cases ev2
    exact (ps_aug hN hi hx he ip_add hf).run pins s σ H D I ⟨u, hu, F, B, as, env, st, _, s1, r, e1, fun F' as' H' w r' x' v1 => ⟨x0, y, int_of qu, int_of v1, k1 _ _ rfl F' as' H' _ (r'.set' vint) x'⟩⟩
  · cases ev2
    exact (ps_aug hN hi hx he ip_sub hf).run pins s σ H D I ⟨u, hu, F, B, as, env, st, _, s1, r, e1, fun F' as' H' w r' x' v1 => ⟨x0, y, int_of qu, int_of v1, k1 _ _ rfl F' as' H' _ (r'.set' vint) x'⟩⟩
  · cases ev2
theorem ip_ext : PIp X .Add (fun x y H Q => rExt2 x y H Q) := fun pins s σ H x y v u Q I rx ry q => iop_ext pins s σ H x y v u Q I rx ry q
def fExt (i : Nat) (f : Env → Sto → Option (Val × Sto)) : Env → Sto → Option Out := fun env st => match env[i]? with
    | some (some (.ref l)) => (f env st).bind fun r => (extV l r.1 r.2).map fun s => .nx env s
    | _ => none
theorem s_ext {i : Nat} {x : Str} {pos' : Pos} (hN : X.N.Nodup) (hi : X.N[i]? = some x) (hx : Loc X.env.scope x) (he : PE X e (tE X.K cs f)) (hf : X.fn x = true ∨ X.env.scope.names.lookup x = some .local) :
    PS X (.AugAssign (.Name x pos') .Add e pos) (tS X.K cs (fExt i f)) := (ps_aug hN hi hx he ip_ext hf).weak fun D σ H ⟨F, B, as, env, st, ou, r, ev, k1, k2⟩ => by
  unfold fExt at ev
  split at ev
  case h_2 => cases ev
  rename_i l hl
  obtain ⟨⟨v, s1⟩, e1, ev1⟩ := obnd ev
  obtain ⟨s2, hs, ev2⟩ := omap ev1
  clear ev ev1
  obtain ⟨u, hu, a, ea, rfl⟩ := r.slot i _ hl
  refine ⟨.ref a, hu, F, B, as, env, st, v, s1, r, e1, fun F' as' H' w r' x' v1 => ?_⟩
  unfold extV at hs
  split at hs
  case h_2 => cases hs
  rename_i ds hd
  obtain ⟨es, hes, hs⟩ := obnd hs
  split at hs
  case isFalse => cases hs
  rename_i hlen
  cases hs
  obtain ⟨b, zs, rfl, hb, hz⟩ := asX_ok r'.toRSt hes v1
  have ea' := pre_get x'.pre ea
  obtain ⟨_, ho', e3, us, rfl, hq⟩ := r'.obj l a _ ea' hd
  refine ⟨a, b, us, zs, rfl, rfl, e3, hb, by rw [hq.length, hz.length, ← line_eq]; exact hlen, ?_⟩
  obtain ⟨r2, x2⟩ := r'.toRSt.write (o' := .lst (ds ++ es)) (ho := .lst (us ++ zs)) ea' hd (by simp) ⟨_, rfl, hq.append hz⟩
  have r3 := (r'.slots x2 r2).set' (i := i) (v := .ref l) (u := .ref a) ⟨a, ea', rfl⟩
  have e4 : env.set i (some (.ref l)) = env := by
    obtain ⟨hl', e⟩ := List.getElem?_eq_some_iff.mp hl
    rw [← e]
    exact List.set_getElem_self hl'
  rw [e4] at r3
  exact k1 _ _ ev2.symm F' as' _ _ r3 (x'.trans x2)
theorem intsD_ok {K : PySem.W.Frag} {F : Hp} : ∀ {ds : List D} {ns : List Int} {us : List V}, intsD ds = some ns → Dens K F ds us → us = ns.map V.int
  | [], ns, us, h, q => by simp only [intsD] at h; cases h; rw [Dens.nil.mp q]; rfl
  | .int i :: ds, ns, us, h, q => by
    simp only [intsD] at h
    obtain ⟨ms, hm, e⟩ := omap h
    subst e
    obtain ⟨u, us', rfl, a, b⟩ := Dens.cons.mp q
    rw [Den.int_iff.mp a, intsD_ok hm b]; rfl
  | .non :: _, _, _, h, _ => by simp [intsD] at h
  | .bl _ :: _, _, _, h, _ => by simp [intsD] at h
  | .str _ :: _, _, _, h, _ => by simp [intsD] at h
  | .tup _ :: _, _, _, h, _ => by simp [intsD] at h
  | .lst _ :: _, _, _, h, _ => by simp [intsD] at h
  | .dK _ _ :: _, _, _, h, _ => by simp [intsD] at h
  | .dT _ _ :: _, _, _, h, _ => by simp [intsD] at h
  | .scr _ :: _, _, _, h, _ => by simp [intsD] at h
  | .exc _ _ _ :: _, _, _, h, _ => by simp [intsD] at h
theorem boolsD_ok {K : PySem.W.Frag} {F : Hp} : ∀ {ds : List D} {ns : List Bool} {us : List V}, boolsD ds = some ns → Dens K F ds us → us = ns.map V.bl
  | [], ns, us, h, q => by simp only [boolsD] at h; cases h; rw [Dens.nil.mp q]; rfl
  | .bl i :: ds, ns, us, h, q => by
    simp only [boolsD] at h
    obtain ⟨ms, hm, e⟩ := omap h
    subst e
    obtain ⟨u, us', rfl, a, b⟩ := Dens.cons.mp q
    rw [Den.bl_iff.mp a, boolsD_ok hm b]; rfl
  | .non :: _, _, _, h, _ => by simp [boolsD] at h
  | .int _ :: _, _, _, h, _ => by simp [boolsD] at h
  | .str _ :: _, _, _, h, _ => by simp [boolsD] at h
  | .tup _ :: _, _, _, h, _ => by simp [boolsD] at h
  | .lst _ :: _, _, _, h, _ => by simp [boolsD] at h
  | .dK _ _ :: _, _, _, h, _ => by simp [boolsD] at h
  | .dT _ _ :: _, _, _, h, _ => by simp [boolsD] at h
  | .scr _ :: _, _, _, h, _ => by simp [boolsD] at h
  | .exc _ _ _ :: _, _, _, h, _ => by simp [boolsD] at h
theorem textsD_ok {K : PySem.W.Frag} {F : Hp} : ∀ {ds : List D} {ns : List W} {us : List V}, textsD ds = some ns → Dens K F ds us → us = (ns.map S).map V.str
  | [], ns, us, h, q => by simp only [textsD] at h; cases h; rw [Dens.nil.mp q]; rfl
  | .str i :: ds, ns, us, h, q => by
    simp only [textsD] at h
    obtain ⟨ms, hm, e⟩ := omap h
    subst e
    obtain ⟨u, us', rfl, a, b⟩ := Dens.cons.mp q
    rw [Den.str_iff.mp a, textsD_ok hm b]; rfl
  | .non :: _, _, _, h, _ => by simp [textsD] at h
  | .int _ :: _, _, _, h, _ => by simp [textsD] at h
  | .bl _ :: _, _, _, h, _ => by simp [textsD] at h
  | .tup _ :: _, _, _, h, _ => by simp [textsD] at h
  | .lst _ :: _, _, _, h, _ => by simp [textsD] at h
  | .dK _ _ :: _, _, _, h, _ => by simp [textsD] at h
  | .dT _ _ :: _, _, _, h, _ => by simp [textsD] at h
  | .scr _ :: _, _, _, h, _ => by simp [textsD] at h
  | .exc _ _ _ :: _, _, _, h, _ => by simp [textsD] at h
theorem dens_texts {K : PySem.W.Frag} {F : Hp} (ws : List W) : Dens K F (ws.map .str) ((ws.map S).map V.str) := by
  induction ws with
  | nil => exact Dens.nil.mpr rfl
  | cons w ws ih => exact Dens.cons.mpr ⟨_, _, rfl, Den.str_iff.mpr rfl, ih⟩
theorem ltW_cpsT : ∀ a b : W, ltCps a b = ltW a b
  | [], [] => rfl
  | [], _ :: _ => rfl
  | _ :: _, [] => rfl
  | a :: r, b :: t => by simp only [ltCps, ltW, ltW_cpsT r t]
theorem ltW_irrefl : ∀ a : W, ltW a a = false
  | [] => rfl
  | a :: r => by simp [ltW, ltW_irrefl r]
theorem ltW_trans : ∀ {a b c : W}, ltW a b = true → ltW b c = true → ltW a c = true
  | [], [], _, h, _ => by simp [ltW] at h
  | [], _ :: _, [], _, h => by simp [ltW] at h
  | [], _ :: _, _ :: _, _, _ => rfl
  | _ :: _, [], _, h, _ => by simp [ltW] at h
  | _ :: _, _ :: _, [], _, h => by simp [ltW] at h
  | a :: r, b :: t, c :: u, h1, h2 => by
    simp only [ltW, Bool.or_eq_true, decide_eq_true_eq, Bool.and_eq_true, beq_iff_eq] at h1 h2 ⊢
    rcases h1 with h1 | ⟨e1, h1⟩
    · rcases h2 with h2 | ⟨e2, h2⟩
      · exact .inl (by omega)
      · exact .inl (by omega)
    · rcases h2 with h2 | ⟨e2, h2⟩
      · exact .inl (by omega)
      · exact .inr ⟨by omega, ltW_trans h1 h2⟩
theorem ltW_total : ∀ a b : W, ltW a b = true ∨ a = b ∨ ltW b a = true
  | [], [] => .inr (.inl rfl)
  | [], _ :: _ => .inl rfl
  | _ :: _, [] => .inr (.inr rfl)
  | a :: r, b :: t => by
    simp only [ltW, Bool.or_eq_true, decide_eq_true_eq, Bool.and_eq_true, beq_iff_eq, List.cons.injEq]
    rcases Nat.lt_trichotomy a b with h | h | h
    · exact .inl (.inl h)
    · subst h
      rcases ltW_total r t with h | h | h
      · exact .inl (.inr ⟨rfl, h⟩)
      · exact .inr (.inl ⟨rfl, h⟩)
      · exact .inr (.inr (.inr ⟨rfl, h⟩))
    · exact .inr (.inr (.inl h))
theorem ltW_le_trans {a b c : W} (h1 : ltW b a = false) (h2 : ltW c b = false) : ltW c a = false := by
  cases h : ltW c a with
  | false => rfl
  | true =>
    rcases ltW_total a b with q | q | q
    · rw [ltW_trans h q] at h2; cases h2
    · subst q; rw [h] at h2; cases h2
    · rw [q] at h1; cases h1
def RisW (ws : List W) : Prop := ws.Pairwise fun a b => ltW b a = false
theorem insW_perm (x : W) : ∀ ws : List W, (insW x ws).Perm (x :: ws)
  | [] => .refl _
  | y :: ys => by
    unfold insW
    split
    · exact ((insW_perm x ys).cons y).trans (.swap x y ys)
    · exact .refl _
theorem sortW_perm : ∀ ws : List W, (sortW ws).Perm ws
  | [] => .refl _
  | x :: xs => by
    show (insW x (sortW xs)).Perm (x :: xs)
    exact (insW_perm x _).trans ((sortW_perm xs).cons x)
theorem insW_ris {x : W} : ∀ {ws : List W}, RisW ws → RisW (insW x ws)
  | [], _ => List.pairwise_singleton _ _
  | y :: ys, h => by
    obtain ⟨h1, h2⟩ := List.pairwise_cons.mp h
    unfold insW
    split
    · rename_i hy
      refine List.pairwise_cons.mpr ⟨fun z hz => ?_, insW_ris h2⟩
      rcases List.mem_cons.mp ((insW_perm x ys).mem_iff.mp hz) with e | hz
      · subst e
        cases q : ltW z y with
        | false => rfl
        | true => have := ltW_trans q hy; rw [ltW_irrefl] at this; cases this
      · exact h1 z hz
    · rename_i hy
      have hy : ltW y x = false := by simpa using hy
      refine List.pairwise_cons.mpr ⟨fun z hz => ?_, h⟩
      rcases List.mem_cons.mp hz with e | hz
      · subst e; exact hy
      · exact ltW_le_trans hy (h1 z hz)
theorem sortW_ris : ∀ ws : List W, RisW (sortW ws)
  | [] => .nil
  | x :: xs => insW_ris (sortW_ris xs)
theorem ris_unique : ∀ {as bs : List W}, as.Perm bs → RisW as → RisW bs → as = bs
  | [], bs, p, _, _ => by rw [List.nil_perm.mp p]
  | a :: as, [], p, _, _ => absurd p.length_eq (by simp)
  | a :: as, b :: bs, p, ha, hb => by
    obtain ⟨h1, h2⟩ := List.pairwise_cons.mp ha
    obtain ⟨h3, h4⟩ := List.pairwise_cons.mp hb
    have e : a = b := by
      rcases List.mem_cons.mp (p.mem_iff.mp List.mem_cons_self) with e | m
      · exact e
      · rcases List.mem_cons.mp (p.mem_iff.mpr List.mem_cons_self) with e | m2
        · exact e.symm
        · have q1 := h3 a m
          have q2 := h1 b m2
          rcases ltW_total a b with h | h | h
          · rw [h] at q1; cases q1
          · exact h
          · rw [h] at q2; cases q2
    subst e
    rw [ris_unique (p.cons_inv) h2 h4]
theorem risingS_ris : ∀ {xs : List Str} {p : Str}, risingS p xs = true → RisW ((p :: xs).map fun s => s.cps.toList)
  | [], p, _ => List.pairwise_singleton _ _
  | x :: r, p, h => by
    simp only [risingS, Bool.and_eq_true, Bool.not_eq_true'] at h
    rw [ltW_cpsT] at h
    have ih := risingS_ris h.2
    refine List.pairwise_cons.mpr ⟨fun z hz => ?_, ih⟩
    rw [List.map_cons] at hz
    rcases List.mem_cons.mp hz with e | hz
    · subst e; exact h.1
    · exact ltW_le_trans h.1 ((List.pairwise_cons.mp ih).1 z hz)
theorem sortedS_ris : ∀ {xs : List Str}, sortedS xs = true → RisW (xs.map fun s => s.cps.toList)
  | [], _ => .nil
  | x :: r, h => risingS_ris h
theorem sorted_is {ws : List W} {ys : List Str} (p : ys.Perm (ws.map S)) (h : sortedS ys = true) : ys = (sortW ws).map S := by
  have h1 := sortedS_ris h
  have p1 : (ys.map fun s => s.cps.toList).Perm ws := by
    have := p.map (fun s : Str => s.cps.toList)
    rw [List.map_map] at this
    have e : (ws.map ((fun s : Str => s.cps.toList) ∘ S)) = ws := by
      have : ((fun s : Str => s.cps.toList) ∘ S) = id := by funext w; simp [S_cps]
      rw [this, List.map_id]
    rw [e] at this; exact this
  have e := ris_unique (p1.trans (sortW_perm ws).symm) h1 (sortW_ris ws)
  rw [← e, List.map_map]
  have : (S ∘ fun s : Str => s.cps.toList) = id := by funext s; simp [S_of]
  rw [this, List.map_id]
theorem maxOf_ok : ∀ {ns : List Int} {m : Int}, maxOf ns = some m → m ∈ ns ∧ ∀ y ∈ ns, y ≤ m
  | [], m, h => by simp [maxOf] at h
  | [x], m, h => by simp only [maxOf] at h; cases h; simp
  | x :: y :: r, m, h => by
    simp only [maxOf] at h
    obtain ⟨z, hz, e⟩ := omap h
    obtain ⟨h1, h2⟩ := maxOf_ok hz
    subst e
    split
    · exact ⟨List.mem_cons_of_mem _ h1, fun w hw => by rcases List.mem_cons.mp hw with e | hw; omega; exact h2 w hw⟩
    · exact ⟨List.mem_cons_self, fun w hw => by rcases List.mem_cons.mp hw with e | hw; omega; have := h2 w hw; omega⟩
theorem minOf_ok : ∀ {ns : List Int} {m : Int}, minOf ns = some m → m ∈ ns ∧ ∀ y ∈ ns, m ≤ y
  | [], m, h => by simp [minOf] at h
  | [x], m, h => by simp only [minOf] at h; cases h; simp
  | x :: y :: r, m, h => by
    simp only [minOf] at h
    obtain ⟨z, hz, e⟩ := omap h
    obtain ⟨h1, h2⟩ := minOf_ok hz
    subst e
    split
    · exact ⟨List.mem_cons_of_mem _ h1, fun w hw => by rcases List.mem_cons.mp hw with e | hw; omega; exact h2 w hw⟩
    · exact ⟨List.mem_cons_self, fun w hw => by rcases List.mem_cons.mp hw with e | hw; omega; have := h2 w hw; omega⟩
theorem digs_ok (i : Int) : (toString i : Str) = S (intW i) := by
  have e : ∀ s : Str, ∀ w : W, s.cps.toList = w → s = S w := fun s w h => by rw [← S_of s, h]
  apply e
  show (PySem.Str.ofString (toString i)).cps.toList = _
  by_cases h : i < 0
  · obtain ⟨n, rfl⟩ : ∃ n : Nat, i = Int.negSucc n := by
      cases i with
      | ofNat n => exact absurd h (by simp)
      | negSucc n => exact ⟨n, rfl⟩
    have h1 : toString (Int.negSucc n) = "-" ++ toString (n + 1) := rfl
    have h2 : toString (n + 1) = toString (((n + 1 : Nat) : Int)) := rfl
    have h3 := PySem.W.KIN.signs_num (n + 1)
    unfold intW digs
    rw [if_pos h, h1, h2]
    rw [Str.ofString_eq_toList] at h3 ⊢
    rw [String.toList_append, List.map_append]
    simp only at h3 ⊢
    rw [h3]
    rfl
  · obtain ⟨n, rfl⟩ : ∃ n : Nat, i = (n : Int) := ⟨i.toNat, by omega⟩
    rw [PySem.W.KIN.signs_num]
    unfold intW digs
    rw [if_neg h]
    rfl
def biF : Bi → Value
  | .len => .builtin "len" | .abs => .builtin "abs" | .int => .type "int" | .str => .type "str" | .list => .type "list" | .tuple => .type "tuple" | .dict => .type "dict" | .sorted => .builtin "sorted"
  | .sum => .builtin "sum" | .max => .builtin "max" | .min => .builtin "min" | .all => .builtin "all" | .any => .builtin "any" | .max2 => .builtin "max" | .min2 => .builtin "min" | .maxD => .builtin "max" | .sset => .builtin "sorted"
def biN : Bi → Str
  | .len => "len" | .abs => "abs" | .int => "int" | .str => "str" | .list => "list" | .tuple => "tuple" | .dict => "dict" | .sorted => "sorted"
  | .sum => "sum" | .max => "max" | .min => "min" | .all => "all" | .any => "any" | .max2 => "max" | .min2 => "min" | .maxD => "max" | .sset => "sorted"
end
end NK
set_option Elab.async false
set_option linter.all false
set_option autoImplicit false
set_option maxRecDepth 100000
namespace NK
open PySem PySem.Spec PyProof.Rows L2
section
variable {X : Cx} {cs : Nat → Option Addr} {e e1 e2 : Expr} {es : List Expr} {f f1 f2 : Env → Sto → Option (Val × Sto)} {g : Env → Sto → Option (List Val × Sto)} {pos : Pos} {F B H : Hp} {as : List Addr} {env : Env} {st : Sto} {σ : L2.St}
theorem PE.none {e : Expr} {f : Env → Sto → Option (Val × Sto)} (h : ∀ env st, f env st = none) : PE X e (tE X.K cs f) := ⟨fun pins s σ H Q I ⟨F, B, as, env, st, v, st', r, ev, k⟩ => by rw [h] at ev; cases ev⟩
theorem ins_at {K : PySem.W.Frag} (r : RSt K cs F B as st H) {c : Nat} {v : Val} {u : V} {fs : List (W × Val)} (h : insV c v st = some fs) (q : VOk K F B as v u) :
    ∃ l a C dx gs, v = .ref l ∧ st[l]? = some (.ins c fs) ∧ as[l]? = some a ∧ u = .ref a ∧ cs c = some C ∧ H a = some (.ins C dx gs) ∧ FsOk K F B as fs gs := by
  cases v with
  | ref l =>
    simp only [insV] at h
    split at h
    · rename_i c' fs' hs
      split at h
      · rename_i e
        cases h
        subst e
        obtain ⟨a, ea, rfl⟩ := q
        obtain ⟨_, ho, e3, C, dx, gs, e4, rfl, e5⟩ := r.obj l a _ ea hs
        exact ⟨l, a, C, dx, gs, rfl, hs, ea, rfl, e4, e3, e5⟩
      · cases h
    · cases h
  | _ => simp [insV] at h
theorem S_beq {x y : W} : (S x == S y) = (x == y) := by
  by_cases h : x = y
  · subst h; simp
  · rw [beq_eq_false_iff_ne.mpr h, beq_eq_false_iff_ne.mpr (fun e => h (S_inj e))]
theorem fs_look {K : PySem.W.Frag} {fs : List (W × Val)} {gs : List (Str × V)} (h : FsOk K F B as fs gs) (x : W) : (∀ v, fs.lookup x = some v → ∃ u, gs.lookup (S x) = some u ∧ VOk K F B as v u) ∧ (fs.lookup x = none → gs.lookup (S x) = none) := by
  unfold FsOk at h
  induction h with
  | nil => exact ⟨fun v e => (by simp at e), fun _ => rfl⟩
  | @cons p q ps qs hpq t ih =>
    obtain ⟨y, v⟩ := p
    obtain ⟨z, u⟩ := q
    obtain ⟨rfl, hv⟩ := hpq
    simp only [List.lookup_cons, S_beq]
    cases (x == y) with
    | true => exact ⟨fun w e => (by cases e; exact ⟨u, rfl, hv⟩), fun e => (by cases e)⟩
    | false => exact ih
theorem fs_put {K : PySem.W.Frag} {fs : List (W × Val)} {gs : List (Str × V)} (h : FsOk K F B as fs gs) (x : W) {v : Val} {u : V} (hv : VOk K F B as v u) : FsOk K F B as (putA x v fs) (putF (S x) u gs) := by
  unfold FsOk at *
  induction h with
  | nil => exact .cons ⟨rfl, hv⟩ .nil
  | @cons p q ps qs hpq t ih =>
    obtain ⟨y, w⟩ := p
    obtain ⟨z, z'⟩ := q
    obtain ⟨rfl, hw⟩ := hpq
    simp only [putA, putF]
    by_cases hy : y = x
    · subst hy
      simp only [if_true]
      exact .cons ⟨rfl, hv⟩ t
    · rw [if_neg hy, if_neg (fun e => hy (S_inj e))]
      exact .cons ⟨rfl, hw⟩ ih
theorem Paired.lenP {α β : Type} {R : α → β → Prop} {xs : List α} {ys : List β} (h : Paired R xs ys) : xs.length = ys.length := by
  induction h with
  | nil => rfl
  | cons _ _ ih => simp [ih]
def fAttr (c : Nat) (f : Env → Sto → Option (Val × Sto)) (x : W) : Env → Sto → Option (Val × Sto) := fun env st => (f env st).bind fun r => ((insV c r.1 r.2).bind fun fs => fs.lookup x).map fun v => (v, r.2)
theorem s_attr {c : Nat} {x : W} {C : Addr} (hc : cs c = some C) (hC : Cls X.K C) (hn : NoAttr X.K C (S x)) (h : PE X e (tE X.K cs f)) (hb : attributeBase e (S x) X.env (eval e X.env) = eval e X.env) : PE X (.Attribute e (S x) pos) (tE X.K cs (fAttr c f x)) :=
  (pe_fld h hb).weak fun σ H Q ⟨F, B, as, env, st, v, st', r, ev, k⟩ => by
  obtain ⟨⟨v0, s0⟩, e0, ev1⟩ := obnd ev
  obtain ⟨v1, e1, ev2⟩ := omap ev1
  obtain ⟨fs, e2, e3⟩ := obnd e1
  cases ev2
  refine ⟨F, B, as, env, st, v0, s0, r, e0, fun F' as' H' u r' x' w => ?_⟩
  obtain ⟨l, a, C', dx, gs, rfl, hs, ea, rfl, ec, eh, ef⟩ := ins_at r'.toRSt e2 w
  rw [hc] at ec
  cases ec
  obtain ⟨u, hu, hv⟩ := (fs_look ef x).1 _ e3
  exact ⟨a, C, dx, gs, u, rfl, eh, hC, hn, hu, k F' as' H' u r' x' hv⟩
def spM (K : PySem.W.Frag) (cs : Nat → Option Addr) (n : Nat) (fn : List Val → Sto → Option (Ret × Sto)) : Sp := fun vs H Q _ => ∃ F B as args st v st', RSt K cs F B as st H ∧ Paired (VOk K F B as) args vs ∧ args.length = n ∧ fn args st = some (.val v, st') ∧
  ∀ F' as' H' u, RSt K cs F' B as' st' H' → Ext F as H F' as' H' → VOk K F' B as' v u → Q u H'
theorem spM_len {K : PySem.W.Frag} {n : Nat} {fn : List Val → Sto → Option (Ret × Sto)} {vs : List V} {H : Hp} {Q : VK} {E : XK} (h : spM K cs n fn vs H Q E) : vs.length = n := by
  obtain ⟨F, B, as, args, st, v, st', r, p, hl, _⟩ := h
  rw [← Paired.lenP p, hl]
structure MeAt (X : Cx) (cs : Nat → Option Addr) (d n : Nat) (c : Nat) (x : W) (fn : List Val → Sto → Option (Ret × Sto)) : Prop where
  ex : ∃ (C fa : Addr), cs c = some C ∧ Cls X.K C ∧ Meth X.K C (S x) fa ∧ FnR X.prog X.w X.K X.mg X.base CX0 d fa (spM X.K cs n fn)
def fMeth (c : Nat) (x : W) (fn : List Val → Sto → Option (Ret × Sto)) (f : Env → Sto → Option (Val × Sto)) (g : Env → Sto → Option (List Val × Sto)) : Env → Sto → Option (Val × Sto) := fun env st => (f env st).bind fun r => (insV c r.1 r.2).bind fun fs => if (fs.lookup x).isSome then none else
  (g env r.2).bind fun q => (fn (r.1 :: q.1) q.2).bind valR
theorem valR_eq {q : Ret × Sto} {v : Val} {s : Sto} (h : valR q = some (v, s)) : q = (.val v, s) := by
  obtain ⟨r, s'⟩ := q
  cases r with
  | val w => simp only [valR, Option.some.injEq, Prod.mk.injEq] at h; rw [h.1, h.2]
  | _ => simp [valR] at h
theorem meth_of {c : Nat} {x : W} {fn : List Val → Sto → Option (Ret × Sto)} {n : Nat} {C : Addr} {E : XK} (hc : cs c = some C) (hn : ∀ a s q, fn a s = some q → a.length = n) : ∀ σ H Q, tE X.K cs (fMeth c x fn f g) σ H Q → tMethR C (S x) (spM X.K cs n fn) E (tE X.K cs f) (tEs X.K cs g) σ H Q := fun σ H Q ⟨F, B, as, env, st, v, st', r, ev, k⟩ => by
  obtain ⟨⟨v0, s0⟩, e0, ev1⟩ := obnd ev
  obtain ⟨fs, e1, ev2⟩ := obnd ev1
  dsimp only at ev2
  split at ev2
  · cases ev2
  rename_i hno
  obtain ⟨⟨vs, s1⟩, e2, ev3⟩ := obnd ev2
  obtain ⟨q, e3, ev4⟩ := obnd ev3
  have ev5 := valR_eq ev4
  subst ev5
  refine ⟨F, B, as, env, st, v0, s0, r, e0, fun F1 as1 H1 u r1 x1 w1 => ?_⟩
  obtain ⟨l, a, C', dx, gs, rfl, hs, ea, rfl, ec, eh, ef⟩ := ins_at r1.toRSt e1 w1
  rw [hc] at ec
  cases ec
  refine ⟨a, dx, gs, rfl, eh, (fs_look ef x).2 (Option.not_isSome_iff_eq_none.mp hno), F1, B, as1, env, s0, vs, s1, r1, e2, fun F2 as2 H2 us r2 x2 w2 => ?_⟩
  refine ⟨F2, B, as2, .ref l :: vs, s1, v, st', r2.toRSt, .cons (w1.ext x2) w2, hn _ _ _ e3, e3, fun F3 as3 H3 u3 r3 x3 w3 => ?_⟩
  exact k F3 as3 H3 u3 (r2.slots x3 r3) ((x1.trans x2).trans x3) w3
theorem meth_tree {o : Expr} {m : Str} {apos pos : Pos} {args : List Expr} {env : PySem.Env} (hb : attributeBase o m env (eval o env) = eval o env) (hl : (apos.endLine == pos.line) = true) (hs : (backTo pos (starEach args env)).all (!·.1) = true) (hn : args.length < 30) :
    eval (.Call (.Attribute o m apos) args [] pos) env = (do
      let ov ← eval o env
      standAt apos.atName
      let (f, first) ← holding [ov] (getMethod ov m (do return (← importBound o env).getD true))
      callWith pos f first (backTo pos (starEach args env)) (backToKw pos (keywordEach [] env))) := by
  refine mcall_of hb fun ov => ?_
  have hform : methodCallForm (args.length + ([] : List Keyword).length) (backTo pos (starEach args env)) (backToKw pos (keywordEach [] env)) = true := by
    unfold methodCallForm
    rw [hs]
    show (true && true && decide (args.length + 0 + 0 < 30)) = true
    simp [hn]
  have hpos : methodCallPos true o env apos pos = pure pos := by unfold methodCallPos; simp [hl]
  unfold methodCall
  rw [hform, hpos]
  unfold calleeOf
  simp only [if_true, pure_bind]
theorem s_meth {c d n : Nat} {x : W} {fn : List Val → Sto → Option (Ret × Sto)} {apos : Pos} {o : Expr} (hx : MeAt X cs d n c x fn) (hn : ∀ a s q, fn a s = some q → a.length = n) (hr : Room d X.A) (ho : PE X o (tE X.K cs f)) (ha : PA X (e :: es) (tEs X.K cs g))
    (hst : starEach (e :: es) X.env = (false, eval e X.env) :: starEach es X.env) (hpl : (backTo pos (starEach es X.env)).any (·.1) = false)
    (hb : attributeBase o (S x) X.env (eval o X.env) = eval o X.env) (hl : (apos.endLine == pos.line) = true) (hs : (backTo pos (starEach (e :: es) X.env)).all (!·.1) = true) (hn30 : (e :: es).length < 30) :
    PE X (.Call (.Attribute o (S x) apos) (e :: es) [] pos) (tE X.K cs (fMeth c x fn f g)) := by
  obtain ⟨C, fa, hc, hC, hm, hF⟩ := hx.ex
  exact (pe_methR (E := fun _ _ _ => False) ho hC hm hF hr pass0 ha hst hpl (meth_tree hb hl hs hn30)).weak (meth_of hc hn)
theorem s_meth0 {c d n : Nat} {x : W} {fn : List Val → Sto → Option (Ret × Sto)} {apos : Pos} {o : Expr} (hx : MeAt X cs d n c x fn) (hn : ∀ a s q, fn a s = some q → a.length = n) (hr : Room d X.A) (ho : PE X o (tE X.K cs f))
    (hb : attributeBase o (S x) X.env (eval o X.env) = eval o X.env) (hl : (apos.endLine == pos.line) = true) :
    PE X (.Call (.Attribute o (S x) apos) [] [] pos) (tE X.K cs (fMeth c x fn f fun _ st => some ([], st))) := by
  obtain ⟨C, fa, hc, hC, hm, hF⟩ := hx.ex
  refine ⟨fun pins s σ H Q I h => ?_⟩
  have h2 := meth_of (E := fun _ _ _ => False) hc hn σ H Q h
  refine PySem.W.methodCall_KW (thn (ho.run pins s σ H _ I h2) fun u s1 ⟨x, H1, I1, rx, a, dx, fs, ex, ea, l, q⟩ => ?_) (meth_tree hb hl rfl (by simp))
  subst ex
  obtain rfl : u = Value.ref a := rx
  refine getmeth_ok I1 ea hC hm l ?_
  have q' : spM X.K cs n fn [.ref a] H1 Q fun _ _ _ => False := by
    obtain ⟨F, B, as, env, st, vs, st', r, ev, k⟩ := q
    cases ev
    exact k F as H1 [] r r.refl .nil
  exact PySem.W.callWith_K0 (first := [.ref a]) I1.kIn hm.kp (wpAny_call (run_fnR (us := [.ref a]) (vs := [.ref a]) hF hr pass0 I1 (.cons rfl .nil) q'))
def MkAt (X : Cx) (cs : Nat → Option Addr) (d n : Nat) (x : Str) (fn : List Val → Sto → Option (Ret × Sto)) : Prop := (∀ a s, fn a s = none) ∨ ∃ k c g fa C, d = k + 1 ∧ cs c = some C ∧ Mk X.K C fa ∧ X.mg x = some (.ref C) ∧ FnR X.prog X.w X.K X.mg X.base CX0 k fa (spM X.K cs (n + 1) g) ∧
  ∀ a s q, fn a s = some q → a.length = n ∧ ∃ st', g (.ref s.length :: a) (s ++ [.ins c []]) = some (.val (.dat .non), st') ∧ q = (.val (.ref s.length), st')
def fMake (fn : List Val → Sto → Option (Ret × Sto)) (g : Env → Sto → Option (List Val × Sto)) : Env → Sto → Option (Val × Sto) := fun env st => (g env st).bind fun q => (fn q.1 q.2).bind valR
theorem make_of {fn g' : List Val → Sto → Option (Ret × Sto)} {c n : Nat} {C : Addr} {E : XK} (hc : cs c = some C) (hf : ∀ a s q, fn a s = some q → a.length = n ∧ ∃ st', g' (.ref s.length :: a) (s ++ [.ins c []]) = some (.val (.dat .non), st') ∧ q = (.val (.ref s.length), st')) :
    ∀ σ H Q, tE X.K cs (fMake fn g) σ H Q → StX.tMakeR C (spM X.K cs (n + 1) g') E (tEs X.K cs g) σ H Q := fun σ H Q ⟨F, B, as, env, st, v, st', r, ev, k⟩ => by
  obtain ⟨⟨vs, s1⟩, e1, ev1⟩ := obnd ev
  obtain ⟨q, e3, ev4⟩ := obnd ev1
  have ev5 := valR_eq ev4
  subst ev5
  obtain ⟨hl, s2, hg, hq⟩ := hf _ _ _ e3
  simp only [Prod.mk.injEq, Ret.val.injEq] at hq
  obtain ⟨rfl, rfl⟩ := hq
  refine ⟨F, B, as, env, st, vs, s1, r, e1, fun F1 as1 H1 us r1 x1 w1 => ?_⟩
  intro x dx hx hdx hne
  obtain ⟨ra, xa⟩ := r1.toRSt.extra (o := .own x) hdx
  have hx2 : (upd H1 dx (.own x)) x = none := by rw [upd_ne (Ne.symm hne)]; exact hx
  obtain ⟨rb, xb⟩ := ra.own (o := .ins c []) (ho := .ins C dx []) hx2 ⟨C, dx, [], hc, rfl, .nil⟩
  have xab := xa.trans xb
  have hlen : as1.length = s1.length := r1.toRSt.len
  have hself : (as1 ++ [x])[s1.length]? = some x := by
    rw [List.getElem?_append_right (by omega), hlen, Nat.sub_self]; rfl
  refine ⟨F1, B, as1 ++ [x], .ref s1.length :: vs, s1 ++ [.ins c []], .dat .non, st', rb, .cons ⟨x, hself, rfl⟩ ?_, by simp [hl], hg, fun F3 as3 H3 u3 r3 x3 w3 => ⟨non_of w3, ?_⟩⟩
  · exact Paired.mapP w1 fun p q h => h.ext xab
  · exact k F3 as3 H3 _ (r1.slots (xab.trans x3) r3) ((x1.trans xab).trans x3) ⟨x, pre_get x3.pre hself, rfl⟩
theorem s_make {d n : Nat} {x : Str} {fn : List Val → Sto → Option (Ret × Sto)} {p : Pos} (hx : MkAt X cs d n x fn) (hr : Room d X.A) (hg : Gl X x) (ha : PA X (e :: es) (tEs X.K cs g)) (hd : (x == ("__debug__" : Str)) = false)
    (hst : starEach (e :: es) X.env = (false, eval e X.env) :: starEach es X.env) (hpl : (backTo pos (starEach es X.env)).any (·.1) = false) :
    PE X (.Call (.Name x p) (e :: es) [] pos) (tE X.K cs (fMake fn g)) := by
  rcases hx with hx | ⟨k, c, g', fa, C, rfl, hc, hM, hm, hF, hf⟩
  · refine PE.none fun env st => ?_
    unfold fMake
    cases h : g env st with
    | none => rfl
    | some q => simp [hx]
  · exact (StX.pe_makeR (E := fun _ _ _ => False) hM hF hr hg hm pass0 ha hd hst hpl).weak (make_of hc hf)
def fSetA (c : Nat) (fo : Env → Sto → Option (Val × Sto)) (x : W) (fv : Env → Sto → Option (Val × Sto)) : Env → Sto → Option Out := fun env st => (fv env st).bind fun r => (fo env r.2).bind fun q => (setAV c x q.1 r.1 q.2).map fun s => .nx env s
theorem set_at {K : PySem.W.Frag} {c : Nat} {x : W} {o v : Val} {st' : Sto} {u w : V} (r : RSt K cs F B as st H) (h : setAV c x o v st = some st') (q : VOk K F B as o u) (qv : VOk K F B as v w) :
    ∃ a C dx gs, u = .ref a ∧ cs c = some C ∧ H a = some (.ins C dx gs) ∧ gs.length < 1000 ∧ RSt K cs F B as st' (upd H a (.ins C dx (putF (S x) w gs))) ∧ Ext F as H F as (upd H a (.ins C dx (putF (S x) w gs))) := by
  cases o with
  | ref l =>
    simp only [setAV] at h
    split at h
    · rename_i c' fs hs
      split at h
      · rename_i e
        obtain ⟨e, hl⟩ := e
        cases h
        subst e
        obtain ⟨l', a, C, dx, gs, el, hs', ea, rfl, e4, e3, e5⟩ := ins_at r (c := c') (v := .ref l) (fs := fs) (by simp [insV, hs]) q
        cases el
        have e6 := Paired.lenP e5
        obtain ⟨r2, x2⟩ := r.write (o' := .ins c' (putA x v fs)) (ho := .ins C dx (putF (S x) w gs)) ea hs (by simp) ⟨C, dx, _, e4, rfl, fs_put e5 x qv⟩
        exact ⟨a, C, dx, gs, rfl, e4, e3, by omega, r2, x2⟩
      · cases h
    · cases h
  | _ => simp [setAV] at h
theorem s_setA {c : Nat} {x : W} {C : Addr} {pos' : Pos} {o value : Expr} (hc : cs c = some C) (hC : Cls X.K C) (hn : NoAttr X.K C (S x)) (ho : PE X o (tE X.K cs f1)) (hv : PE X value (tE X.K cs f2)) (hs : swapsWith value (some (.Attribute o (S x) pos')) pos.line X.env = pure false) :
    PS X (.Assign [.Attribute o (S x) pos'] value pos) (tS X.K cs (fSetA c f1 x f2)) := (ps_fld ho hv hs).weak fun D σ H ⟨F, B, as, env, st, o, r, ev, k1, k2⟩ => by
  obtain ⟨⟨v0, s0⟩, e0, ev1⟩ := obnd ev
  obtain ⟨⟨o0, s1⟩, e1, ev2⟩ := obnd ev1
  obtain ⟨s2, e2, ev3⟩ := omap ev2
  refine ⟨F, B, as, env, st, v0, s0, r, e0, fun F1 as1 H1 w r1 x1 w1 => ⟨F1, B, as1, env, s0, o0, s1, r1, e1, fun F2 as2 H2 u r2 x2 w2 => ?_⟩⟩
  obtain ⟨a, C', dx, gs, rfl, ec, eh, hl, r3, x3⟩ := set_at r2.toRSt e2 w2 (w1.ext x2)
  rw [hc] at ec
  cases ec
  exact ⟨a, C, dx, gs, rfl, eh, hC, hn, hl, k1 _ _ ev3.symm F2 as2 _ _ (r2.slots x3 r3) ((x1.trans x2).trans x3)⟩
def fAugA (c : Nat) (fo : Env → Sto → Option (Val × Sto)) (x : W) (op : BOp) (fv : Env → Sto → Option (Val × Sto)) : Env → Sto → Option Out := fun env st => (fo env st).bind fun r => ((insV c r.1 r.2).bind fun fs => (fs.lookup x).bind intOf).bind fun i => (fv env r.2).bind fun q => (intOf q.1).bind fun j => (augV op i j).bind fun k => (setAV c x r.1 (.dat (.int k)) q.2).map fun s => .nx env s
theorem aug_of {c : Nat} {x : W} {C : Addr} {op : BOp} {rd : V → V → Hp → VK → Prop} (hc : cs c = some C) (hC : Cls X.K C) (hn : NoAttr X.K C (S x))
    (hr : ∀ i j k, augV op i j = some k → ∀ H (Q : VK), Q (.int k) H → rd (.int i) (.int j) H Q) :
    ∀ D σ H, tS X.K cs (fAugA c f1 x op f2) D σ H → sFldAug X.K (tE X.K cs f1) (tE X.K cs f2) rd (S x) D σ H := fun D σ H ⟨F, B, as, env, st, o, r, ev, k1, k2⟩ => by
  obtain ⟨⟨o0, s0⟩, e0, ev1⟩ := obnd ev
  obtain ⟨i, e1, ev2⟩ := obnd ev1
  obtain ⟨fs, e2, e3⟩ := obnd e1
  obtain ⟨iv, e4, e5⟩ := obnd e3
  obtain ⟨⟨v0, s1⟩, e6, ev3⟩ := obnd ev2
  obtain ⟨j, e7, ev4⟩ := obnd ev3
  obtain ⟨k, e8, ev5⟩ := obnd ev4
  obtain ⟨s2, e9, ev6⟩ := omap ev5
  have hiv := intOf_eq e5
  have hv0 := intOf_eq e7
  clear ev ev1 ev2 ev3 ev4 ev5 e1 e3 e5 e7
  dsimp only at hv0 e2 e6 e9
  subst hiv
  subst hv0
  refine ⟨F, B, as, env, st, o0, s0, r, e0, fun F1 as1 H1 w r1 x1 w1 => ?_⟩
  obtain ⟨l, a, C', dx, gs, rfl, hs, ea, rfl, ec, eh, ef⟩ := ins_at r1.toRSt e2 w1
  rw [hc] at ec
  cases ec
  obtain ⟨u, hu, hv⟩ := (fs_look ef x).1 _ e4
  cases int_of hv
  refine ⟨a, C, dx, gs, _, rfl, eh, hC, hn, hu, F1, B, as1, env, s0, _, s1, r1, e6, fun F2 as2 H2 w2 r2 x2 w3 => ?_⟩
  cases int_of w3
  refine hr _ _ _ e8 H2 _ ?_
  obtain ⟨a', C', dx', gs', ea', ec', eh', hl, r3, x3⟩ := set_at (w := .int k) r2.toRSt e9 (w1.ext x2) vint
  rw [hc] at ec'
  cases ec'
  cases ea'
  exact ⟨dx', gs', eh', hl, k1 _ _ ev6.symm F2 as2 _ _ (r2.slots x3 r3) ((x1.trans x2).trans x3)⟩
theorem s_augA {c : Nat} {x : W} {C : Addr} {op : BOp} {tpos : Pos} {o value : Expr} (hc : cs c = some C) (hC : Cls X.K C) (hn : NoAttr X.K C (S x)) (ho : PE X o (tE X.K cs f1)) (hv : PE X value (tE X.K cs f2)) :
    PS X (.AugAssign (.Attribute o (S x) tpos) (opB op) value pos) (tS X.K cs (fAugA c f1 x op f2)) := by
  have no : ∀ op : BOp, (∀ i j, augV op i j = none) → ∀ {s : Stmt}, PS X s (tS X.K cs (fAugA c f1 x op f2)) := fun op h s => ps_never.weak fun D σ H ⟨F, B, as, env, st, o, r, ev, k1, k2⟩ => by
    exfalso
    obtain ⟨_, _, ev1⟩ := obnd ev
    obtain ⟨_, _, ev2⟩ := obnd ev1
    obtain ⟨_, _, ev3⟩ := obnd ev2
    obtain ⟨_, _, ev4⟩ := obnd ev3
    rw [h] at ev4
    cases ev4
  cases op with
  | add => exact (ps_fldaug ho hv in_add).weak (aug_of hc hC hn fun i j k h H Q q => ⟨i, j, rfl, rfl, by cases h; exact q⟩)
  | sub => exact (ps_fldaug ho hv in_sub).weak (aug_of hc hC hn fun i j k h H Q q => ⟨i, j, rfl, rfl, by cases h; exact q⟩)
  | mul => exact no _ fun _ _ => rfl
  | fdiv => exact no _ fun _ _ => rfl
  | mod => exact no _ fun _ _ => rfl
  | pow => exact no _ fun _ _ => rfl
  | shl => exact no _ fun _ _ => rfl
end
end NK
set_option Elab.async false
set_option linter.all false
set_option autoImplicit false
set_option maxRecDepth 100000
set_option maxHeartbeats 1000000
namespace NK
open PySem PySem.Spec PyProof.Rows L2
def cdI (B : Int) : Nat → List Int → Int
  | 0, _ => 0
  | _ + 1, [] => 0
  | m + 1, d :: r => (d + 1) * B ^ m + cdI B m r
def BdI (B : Int) (ns : List Int) : Prop := ∀ m, m ∈ ns → 0 ≤ m ∧ m + 1 < B
theorem cd_bd {B : Int} (hB : 1 ≤ B) : ∀ (m : Nat) (ns : List Int), ns.length ≤ m → BdI B ns → 0 ≤ cdI B m ns ∧ cdI B m ns < B ^ m
  | 0, ns, _, _ => ⟨Int.le_refl _, by show (0 : Int) < B ^ 0; rw [Int.pow_zero]; decide⟩
  | m + 1, [], _, _ => ⟨Int.le_refl _, Int.pow_pos (by omega)⟩
  | m + 1, d :: r, hl, h => by
    obtain ⟨c0, c1⟩ := cd_bd hB m r (by simpa using hl) fun x hx => h x (List.mem_cons_of_mem _ hx)
    obtain ⟨d0, d1⟩ := h d List.mem_cons_self
    show 0 ≤ (d + 1) * B ^ m + cdI B m r ∧ (d + 1) * B ^ m + cdI B m r < B ^ (m + 1)
    rw [Int.pow_succ]
    exact TS.num1 c0 c1 (by omega) d1
theorem cd_lex {B : Int} (hB : 1 ≤ B) : ∀ (m : Nat) (ns ms : List Int), ns.length ≤ m → ms.length ≤ m → BdI B ns → BdI B ms → decide (cdI B m ns < cdI B m ms) = ltI ns ms
  | 0, ns, ms, h1, h2, _, _ => by
    have e1 : ns = [] := List.eq_nil_of_length_eq_zero (by omega)
    have e2 : ms = [] := List.eq_nil_of_length_eq_zero (by omega)
    subst e1 e2
    simp [cdI, ltI]
  | m + 1, [], [], _, _, _, _ => by simp [cdI, ltI]
  | m + 1, d :: r, [], h1, _, b1, _ => by
    have := (cd_bd hB (m + 1) (d :: r) h1 b1).1
    have e : cdI B (m + 1) [] = 0 := rfl
    simp only [ltI, e, decide_eq_false_iff_not]
    omega
  | m + 1, [], e :: q, _, h2, _, b2 => by
    obtain ⟨c0, c1⟩ := cd_bd hB m q (by simpa using h2) fun x hx => b2 x (List.mem_cons_of_mem _ hx)
    have d0 := (b2 e List.mem_cons_self).1
    have p : 0 < B ^ m := Int.pow_pos (by omega)
    have : 0 < (e + 1) * B ^ m := Int.mul_pos (by omega) p
    have h : cdI B (m + 1) [] < cdI B (m + 1) (e :: q) := by
      show (0 : Int) < (e + 1) * B ^ m + cdI B m q
      omega
    simp only [ltI, decide_eq_true_eq]
    exact h
  | m + 1, d :: r, e :: q, h1, h2, b1, b2 => by
    have hr : r.length ≤ m := by simpa using h1
    have hq : q.length ≤ m := by simpa using h2
    have br : BdI B r := fun x hx => b1 x (List.mem_cons_of_mem _ hx)
    have bq : BdI B q := fun x hx => b2 x (List.mem_cons_of_mem _ hx)
    have ih := cd_lex hB m r q hr hq br bq
    obtain ⟨c0, c1⟩ := cd_bd hB m r hr br
    obtain ⟨g0, g1⟩ := cd_bd hB m q hq bq
    have e1 : cdI B (m + 1) (d :: r) = (d + 1) * B ^ m + cdI B m r := rfl
    have e2 : cdI B (m + 1) (e :: q) = (e + 1) * B ^ m + cdI B m q := rfl
    rw [e1, e2]
    unfold ltI
    rcases Int.lt_trichotomy d e with h | h | h
    · have := TS.num2 (P := B ^ m) (d := d + 1) (e := e + 1) c0 c1 g0 (by omega)
      simp [h, this]
    · subst h
      simp only [Int.lt_irrefl, decide_false, Bool.false_or, beq_self_eq_true, Bool.true_and]
      rw [← ih]
      exact decide_eq_decide.mpr ⟨fun z => by omega, fun z => by omega⟩
    · have := TS.num2 (P := B ^ m) (d := e + 1) (e := d + 1) g0 g1 c0 (by omega)
      have n1 : ¬ d < e := by omega
      have n2 : ¬ d = e := by omega
      have n0 : ¬ ((d + 1) * B ^ m + cdI B m r < (e + 1) * B ^ m + cdI B m q) := by omega
      rw [decide_eq_false n0, decide_eq_false n1, beq_eq_false_iff_ne.mpr n2]
      rfl
section
variable {prog : Program} {w : World} {A : Around} {E : Value → Shared → Prop} {s : Shared} {Q : Bool → Shared → Prop}
theorem lex_any {b fin : Bool} {xs ys : List Value} {ns ms : List Int} (i : Nat) (hx : IntsAre xs ns) (hy : IntsAre ys ms) (hf : fin = decide (ns.length < ms.length)) (h : Q (ltI ns ms) s) : PySem.W.KatLex prog w A b fin Q (xs.zip ys) i s := by
  induction hx generalizing ys ms i with
  | nil =>
    cases hy with
    | nil =>
      refine PySem.W.kat_nil ?_
      rw [hf]
      exact h
    | cons q u hy =>
      refine PySem.W.kat_nil ?_
      rw [hf]
      simp only [ltI] at h
      simpa using h
  | @cons p t xs ns hx ih =>
    cases hy with
    | nil =>
      refine PySem.W.kat_nil ?_
      rw [hf]
      simp only [ltI] at h
      simpa using h
    | @cons q u ys ms hy =>
      show PySem.W.KatLex prog w A b fin Q ((Value.int p t, Value.int q u) :: xs.zip ys) i s
      refine PySem.W.kat_cons (wpAny_eqBool_int ?_)
      by_cases e : p = q
      · subst e
        rw [beq_self_eq_true]
        refine PySem.W.kat_yes (ih (i + 1) hy (by simpa using hf) ?_)
        simpa [ltI] using h
      · rw [show (p == q) = false from beq_eq_false_iff_ne.mpr e]
        refine PySem.W.kat_no (TS.oneLt_ints _ ?_)
        have : ltI (p :: ns) (q :: ms) = decide (p < q) := by simp [ltI, e]
        rw [← this]
        exact h
def TupsI (h : Heap) (B : Int) (vs : List Value) : Prop := ∀ v, v ∈ vs → ∃ ns, TS.TupInts h v ns ∧ 1 ≤ ns.length ∧ ns.length ≤ 400 ∧ BdI B ns
theorem TupsI.keeps {h h' : Heap} {B : Int} {vs : List Value} (x : TupsI h B vs) (k : ∀ b o, h.get? b = some o → o.cls = .type "tuple" → h'.get? b = some o) : TupsI h' B vs := fun v hv =>
  let ⟨ns, t, r⟩ := x v hv; ⟨ns, t.keeps k, r⟩
theorem heads_of {h : Heap} {B : Int} : ∀ vs : List Value, TupsI h B vs → ∃ fs, PySem.W.KatTups h vs fs ∧ fs.length = vs.length ∧ ∀ f, f ∈ fs → ∃ n t, f = Value.int n t
  | [], _ => ⟨[], PySem.W.KatTups.nil, rfl, fun f hf => by simp at hf⟩
  | v :: vs, x => by
    obtain ⟨fs, k, hl, hi⟩ := heads_of vs fun u hu => x u (List.mem_cons_of_mem _ hu)
    obtain ⟨ns, ⟨a, xs, rfl, ⟨o, ho, hc, n, hdt⟩, i⟩, hn, _⟩ := x v List.mem_cons_self
    obtain ⟨y, ys, e⟩ : ∃ y ys, xs.toList = y :: ys := by
      cases q : xs.toList with
      | nil =>
        rw [q] at i
        have l := i.length
        simp at l
        omega
      | cons y ys => exact ⟨y, ys, rfl⟩
    obtain ⟨m, t, hy⟩ := i.all y (by rw [e]; exact List.mem_cons_self)
    refine ⟨y :: fs, PySem.W.KatTups.cons ho hc hdt ?_ k, by simp [hl], fun f hf => ?_⟩
    · have z := congrArg (fun l : List Value => l[0]?) e
      simpa using z
    · rcases List.mem_cons.mp hf with rfl | hf
      · exact ⟨m, t, hy⟩
      · exact hi f hf
theorem kind_any {B : Int} (hB : 1 ≤ B) {vs : List Value} (h2 : 2 ≤ vs.length) (x : TupsI s.heap B vs) (r : Value → Int) (hr : ∀ v, v ∈ vs → ∀ ns, TS.TupInts s.heap v ns → r v = cdI B 400 ns) (Q : SortKind → Shared → Prop)
    (h : ∀ κ, TS.Cmp prog w A s κ (pairsOf vs) r → Q κ s) : wpAny (model prog w) A (keyKind' vs.toArray) Q E s := by
  obtain ⟨fs, k, hl, hi⟩ := heads_of vs x
  refine PySem.W.kat_kind (T := Value.type "int") k (by omega) (fun f hf => ?_) rfl (h _ ?_)
  · obtain ⟨n, t, rfl⟩ := hi f hf
    exact PySem.W.Looks.of_pure rfl
  · intro p q hp hq Q' E' hQ
    rw [pairsOf_toList] at hp hq
    have mp := (mem_zip_self hp).2
    have mq := (mem_zip_self hq).2
    obtain ⟨ns, tp, _, lp, bp⟩ := x _ mp
    obtain ⟨ms, tq, _, lq, bq⟩ := x _ mq
    have hQ' : Q' (ltI ns ms) s := by
      rw [← cd_lex hB 400 ns ms lp lq bp bq, ← hr _ mp _ tp, ← hr _ mq _ tq]
      exact hQ
    obtain ⟨a, xs, e1, ⟨o, ho, hc, n, hdt⟩, i⟩ := tp
    obtain ⟨a', ys, e2, ⟨o', ho', hc', n', hdt'⟩, i'⟩ := tq
    rw [e1, e2]
    refine PySem.W.kat_lt ho hdt ho' hdt' (lex_any 0 i i' ?_ hQ')
    have l1 := i.length
    have l2 := i'.length
    rw [Array.length_toList] at l1 l2
    rw [l1, l2]
theorem sort_any {a : Addr} {vs : List Value} {n : Nat} {B : Int} (hB : 1 ≤ B) {P : PySem.Fin → Shared → Prop} (ho : s.heap.get? a = some (seqObj "list" vs.toArray n)) (h64 : vs.length < 64) (x : TupsI s.heap B vs)
    (r : Value → Int) (hr : ∀ v, v ∈ vs → ∀ ns, TS.TupInts s.heap v ns → r v = cdI B 400 ns)
    (h : ∀ out : Array Value, out.toList.Perm vs → out.toList.Pairwise (fun u v => r u ≤ r v) → P (.done (.ret .none)) { s with heap := sortedHeap s.heap a vs out }) :
    wpAny (model prog w) A (Builtin.«list.sort» ⟨[.ref a], []⟩) P E s := by
  have keep : ∀ b o, s.heap.get? b = some o → o.cls = .type "tuple" → (TS.midHeap s.heap a vs).get? b = some o := fun b o e hc => by
    refine TS.midHeap_old ?_ e
    rintro rfl
    rw [ho] at e
    have c' : Value.type "list" = Value.type "tuple" := (congrArg Obj.cls (Option.some.inj e)).trans hc
    injection c' with c''
    exact absurd c'' (by decide)
  refine SK.plain_sort (r := r) ho h64 (fun h2 Q hQ => ?_) fun ps out h1 h2 h3 => ?_
  · refine kind_any hB (s := { s with heap := TS.midHeap s.heap a vs }) h2 (x.keeps keep) r (fun v hv ns t => ?_) Q hQ
    obtain ⟨ns0, t0, _⟩ := x v hv
    have e : ns = ns0 := t.ints.symm.trans (t0.keeps keep).ints
    rw [e]
    exact hr v hv ns0 t0
  · obtain ⟨p, o⟩ := TS.out_rank h1 h2 h3
    exact h out p o
theorem sorted_asc {l : Addr} {vs : List Value} {B : Int} (hB : 1 ≤ B) {Q : Value → Shared → Prop} (hl : s.heap.IsList l vs.toArray) (h64 : vs.length < 64) (x : TupsI s.heap B vs)
    (asc : vs.Pairwise fun u v => cdI B 400 (TS.intsOf s.heap u) < cdI B 400 (TS.intsOf s.heap v))
    (h : Q (.ref (s.heap.objs.size + 1)) { s with heap := sortedAll s.heap vs vs.toArray }) :
    wpAny (model prog w) A (PySem.call (.builtin "sorted") [.ref l]) Q E s := by
  have uniq : ∀ out : Array Value, out.toList.Perm vs → out.toList.Pairwise (fun u v => cdI B 400 (TS.intsOf s.heap u) ≤ cdI B 400 (TS.intsOf s.heap v)) → out = vs.toArray := fun out p1 p2 => by
    have p3 : vs.Pairwise fun u v => cdI B 400 (TS.intsOf s.heap u) ≤ cdI B 400 (TS.intsOf s.heap v) := asc.imp fun z => Int.le_of_lt z
    have nd : ∀ u ∈ vs, ∀ v ∈ vs, cdI B 400 (TS.intsOf s.heap u) = cdI B 400 (TS.intsOf s.heap v) → u = v := fun u hu v hv e => by
      obtain ⟨i, hi, rfl⟩ := List.mem_iff_getElem.mp hu
      obtain ⟨j, hj, rfl⟩ := List.mem_iff_getElem.mp hv
      rcases Nat.lt_trichotomy i j with z | z | z
      · have := List.pairwise_iff_getElem.mp asc i j hi hj z
        omega
      · subst z; rfl
      · have := List.pairwise_iff_getElem.mp asc j i hj hi z
        omega
    have e : out.toList = vs := List.Perm.eq_of_pairwise (fun a b ha hb h1 h2 => nd a (p1.mem_iff.mp ha) b hb (Int.le_antisymm h1 h2)) p2 p3 p1
    rw [← e, Array.toArray_toList]
  refine Calls.call_function_entry kind_sorted plain_sorted entry_sorted (args_sorted1 _) ?_
  unfold Builtin.«sorted»
  refine wpAny_bind (m := checkCount "sorted" 1 1 _) (wpAny_pure (wpAny_bind (collect_list hl ?_ (by rw [sizeLine_eq]; omega))))
  refine wpAny_bind (wpAny_newList ?_ (by rw [sizeLine_eq]; omega))
  have hsz : ((s.heap.push (seqObj "list" #[] 0)).update s.heap.objs.size (Obj.mapSeq (· ++ vs.toArray))).objs.size = s.heap.objs.size + 1 := by
    rw [Heap.size_update, size_push']
  have hoL : (((s.heap.push (seqObj "list" #[] 0)).update s.heap.objs.size (Obj.mapSeq (· ++ vs.toArray))).push (seqObj "list" vs.toArray 0)).get? (s.heap.objs.size + 1) = some (seqObj "list" vs.toArray 0) := by
    rw [← hsz]; exact Heap.get?_push_size _ rfl
  have keep : ∀ b o, s.heap.get? b = some o → o.cls = .type "tuple" → (((s.heap.push (seqObj "list" #[] 0)).update s.heap.objs.size (Obj.mapSeq (· ++ vs.toArray))).push (seqObj "list" vs.toArray 0)).get? b = some o := fun b o q _ => by
    have hlt : b < s.heap.objs.size := Heap.lt_size q
    rw [Heap.get?_push_ne _ _ _ (by rw [hsz]; exact Nat.ne_of_lt (Nat.lt_succ_of_lt hlt)), Heap.get?_update_ne _ _ _ _ (Nat.ne_of_lt hlt), Heap.get?_push_ne _ _ _ (Nat.ne_of_lt hlt)]
    exact q
  show wpAny _ _ _ _ _ { s with heap := ((s.heap.push (seqObj "list" #[] 0)).update s.heap.objs.size (Obj.mapSeq (· ++ vs.toArray))).push (seqObj "list" vs.toArray 0) }
  rw [hsz]
  refine wpAny_bind (wpAny_holding (wpAny_call_entry slot_list_sort ⟨_, hoL, rfl⟩ entry_list_sort (sort_any hB hoL h64 (x.keeps keep) (fun v => cdI B 400 (TS.intsOf s.heap v)) (fun v hv ns t => ?_) fun out a1 a2 => ⟨_, rfl, ?_⟩) (args_list_sort _)))
  · obtain ⟨ns0, t0, _⟩ := x v hv
    have e : ns = ns0 := t.ints.symm.trans (t0.keeps keep).ints
    rw [e]
    show cdI B 400 (TS.intsOf s.heap v) = cdI B 400 ns0
    rw [t0.ints]
  · refine wpAny_pure ⟨_, rfl, ?_⟩
    rw [uniq out a1 a2]
    exact h
end
section
variable {X : Cx}
def rAsc (K : PySem.W.Frag) : List V → Hp → VK → Prop := fun vs H Q => ∃ (a : Addr) (xs : List V) (nss : List (List Int)), vs = [V.ref a] ∧ SqL K H a xs ∧ xs.length < 64 ∧ Paired (fun x ns => TupI K H x ns) xs nss ∧ (∀ ns ∈ nss, 1 ≤ ns.length ∧ ns.length ≤ 400 ∧ BdI 1073741824 ns) ∧ nss.Pairwise (fun a b => ltI a b = true) ∧
  ∀ p, H p = none → Q (.ref p) (upd H p (.lst xs))
theorem cr_sortAsc : CallR X (.builtin "sorted") (rAsc X.K) := by
  intro pins s σ H vs us Q I r h
  obtain ⟨a, xs, nss, rfl, hs, h64, hp, hb, asc, q⟩ := h
  obtain ⟨its, rv, hl, hz⟩ := I.list hs
  rw [Vals.ref1 r]
  have raw : ∀ {xs : List V} {nss : List (List Int)} {its : List Value}, Paired (fun x ns => TupI X.K H x ns) xs nss → Vals xs its → Paired (fun v ns => TS.TupInts s.heap v ns) its nss := by
    intro xs nss its p
    induction p generalizing its with
    | nil => intro rv; cases rv; exact .nil
    | cons h t ih =>
      intro rv
      cases rv with
      | cons r1 r2 =>
        obtain ⟨t', e, ht⟩ := h
        subst e
        cases r1
        exact .cons (tupI_raw I ht) (ih r2)
  have pr := raw hp rv
  have tups : TupsI s.heap 1073741824 its := fun v hv => by
    have : ∀ {its : List Value} {nss : List (List Int)}, Paired (fun v ns => TS.TupInts s.heap v ns) its nss → v ∈ its → ∃ ns ∈ nss, TS.TupInts s.heap v ns := by
      intro its nss p
      induction p with
      | nil => intro h; cases h
      | cons h t ih =>
        intro hm
        rcases List.mem_cons.mp hm with rfl | hm
        · exact ⟨_, List.mem_cons_self, h⟩
        · obtain ⟨ns, h1, h2⟩ := ih hm
          exact ⟨ns, List.mem_cons_of_mem _ h1, h2⟩
    obtain ⟨ns, h1, h2⟩ := this pr hv
    exact ⟨ns, h2, hb ns h1⟩
  have ascV : its.Pairwise fun u v => cdI 1073741824 400 (TS.intsOf s.heap u) < cdI 1073741824 400 (TS.intsOf s.heap v) := by
    have e : its.map (TS.intsOf s.heap) = nss := by
      have : ∀ {its : List Value} {nss : List (List Int)}, Paired (fun v ns => TS.TupInts s.heap v ns) its nss → its.map (TS.intsOf s.heap) = nss := by
        intro its nss p
        induction p with
        | nil => rfl
        | cons h t ih => rw [List.map_cons, ih, h.ints]
      exact this pr
    have : (its.map (TS.intsOf s.heap)).Pairwise fun a b => cdI 1073741824 400 a < cdI 1073741824 400 b := by
      rw [e]
      refine List.Pairwise.imp_of_mem (fun {a b} ha hb' h => ?_) asc
      have := cd_lex (B := 1073741824) (by decide) 400 a b (hb a ha).2.1 (hb b hb').2.1 (hb a ha).2.2 (hb b hb').2.2
      rw [h] at this
      exact of_decide_eq_true this
    rwa [List.pairwise_map] at this
  have h64' : its.length < 64 := by rw [← rv.length]; exact h64
  obtain ⟨ep, he'⟩ := PyProof.Rows.sortedAll_at s.heap its its.toArray
  exact sorted_asc (B := 1073741824) (by decide) hl.isList h64' tups ascV ⟨.ref _, upd H (s.heap.objs.size + 1) (.lst xs), I.laid (t' := s.toks) (fun _ _ => PyProof.Rows.sortedAll_old) (Nat.le_succ _) ⟨hz, its, ep, rv, he'⟩, rfl, q _ (I.hok.fresh (Nat.le_succ _))⟩
end
end NK
set_option Elab.async false
set_option linter.all false
set_option autoImplicit false
set_option maxRecDepth 100000
namespace NK
open PySem PySem.Spec PyProof.Rows L2
section
variable {X : Cx} {cs : Nat → Option Addr} {e e1 e2 e3 : Expr} {es : List Expr} {f f1 f2 f3 : Env → Sto → Option (Val × Sto)} {g : Env → Sto → Option (List Val × Sto)} {pos : Pos}
theorem top_len (hc : X.calm = true) {F B H : Hp} {as : List Addr} {st : Sto} (r : RSt X.K cs F B as st H) {v : Val} {u : V} {n : Nat} (h : lenV st v = some n) (q : VOk X.K F B as v u) {Q : VK} (k : Q (.int n) H) :
    (∃ x n, [u] = [x] ∧ LenV X.K x H n ∧ Q (.int n) H) ∨ ∃ a kvs, [u] = [V.ref a] ∧ Rd H a (.dK kvs) ∧ Q (.int kvs.length) H := by
  unfold lenV at h
  split at h
  · cases h
    obtain ⟨p, us, rfl, hp, hq⟩ := Den.tup_iff.mp q
    exact .inl ⟨_, _, rfl, .inr ⟨us, .inl (rd_mono r.fh hp.rd), hq.length.symm⟩, k⟩
  · cases h
    obtain ⟨p, vs, ws, a, rfl, f, d1, d2, ea⟩ := q
    exact .inl ⟨_, _, rfl, .inr ⟨_, .of (r.fh _ _ f), by rw [List.length_append, List.length_cons, d1.length, d2.length]; omega⟩, k⟩
  · split at h
    · rename_i hl
      cases h
      have e := str_of q
      subst e
      exact .inl ⟨_, _, rfl, ⟨by rw [S_len, ← line_eq]; exact hl, (S_len _).symm⟩, k⟩
    · cases h
  · split at h
    · rename_i ds hs
      cases h
      obtain ⟨p, us, rfl, hp, hq⟩ := top_lst r hs q
      exact .inl ⟨_, _, rfl, .inl ⟨us, .of hp, hq.length.symm⟩, k⟩
    · rename_i ns hs
      cases h
      obtain ⟨p, rfl, hp⟩ := top_scr r hs q
      exact .inl ⟨_, _, rfl, .inl ⟨_, hp, by rw [List.length_map]⟩, k⟩
    · rename_i ks ds hs
      cases h
      obtain ⟨p, us, rfl, hp, hl, hq⟩ := top_dK r hs q
      refine .inr ⟨p, _, rfl, hp, ?_⟩
      rw [List.length_zip, List.length_map, hq.length, ← hl, Nat.min_self]
      exact k
    · cases h
theorem call_lenR : CallR X (.builtin "len") (fun xs H Q => ∃ a kvs, xs = [V.ref a] ∧ Rd H a (.dK kvs) ∧ Q (.int kvs.length) H) := fun pins s σ H xs us Q I r ⟨a, kvs, ex, e, q⟩ => by
  subst ex
  rw [Vals.ref1 r]
  exact d_len I e fun t s' I' => ⟨.int _, H, I', ⟨t, rfl⟩, q⟩
theorem asDK_snap {st : Sto} {v : Val} {ks : List K1} {ds : List D} (h : asDK st v = some (ks, ds)) : snap st v = some (.dK ks ds) := by
  unfold asDK at h
  split at h
  · cases h; assumption
  · cases h
theorem texts_keys : ∀ {ks : List K1} {ws : List W}, textsD (ks.map k2D) = some ws → ks = ws.map Sum.inr
  | [], ws, h => by simp [textsD] at h; subst h; rfl
  | .inl i :: ks, ws, h => by simp [k2D, textsD] at h
  | .inr w :: ks, ws, h => by
    simp only [List.map_cons, k2D, textsD, Option.map_eq_some_iff] at h
    obtain ⟨r, hr, rfl⟩ := h
    rw [texts_keys hr]
    rfl
theorem intsD_dens {K : PySem.W.Frag} {F : Hp} : ∀ {ds : List D} {ns : List Int} {us : List V}, intsD ds = some ns → Dens K F ds us → us = ns.map V.int
  | [], ns, us, h, q => by
    cases h
    rw [Dens.nil.mp q]; rfl
  | d :: ds, ns, us, h, q => by
    cases d <;> simp only [intsD] at h <;> try contradiction
    obtain ⟨ms, hm, e⟩ := omap h
    subst e
    obtain ⟨u, us', rfl, a, b⟩ := Dens.cons.mp q
    rw [Den.int_iff.mp a, intsD_dens hm b]; rfl
theorem tupsI_ok {X : Cx} {F H : Hp} : ∀ {ds : List D} {nss : List (List Int)} {us : List V}, tupsI? ds = some nss → Dens X.K F ds us → (∀ a o, F a = some o → H a = some o) → Paired (fun x ns => TupI X.K H x ns) us nss ∧ ∀ ns ∈ nss, 1 ≤ ns.length ∧ ns.length ≤ 400 ∧ BdI 1073741824 ns
  | [], nss, us, h, q, _ => by
    cases h
    rw [Dens.nil.mp q]
    exact ⟨.nil, fun _ h => nomatch h⟩
  | d :: ds, nss, us, h, q, hf => by
    simp only [tupsI?] at h
    obtain ⟨n, hn, h⟩ := obnd h
    obtain ⟨ms, hm, e⟩ := omap h
    subst e
    obtain ⟨u, us', rfl, a, b⟩ := Dens.cons.mp q
    obtain ⟨i1, i2⟩ := tupsI_ok (X := X) (H := H) hm b hf
    cases d <;> simp only [tupI?] at hn <;> try contradiction
    obtain ⟨ns, hi, hn⟩ := obnd hn
    split at hn
    case isFalse => cases hn
    rename_i hc
    cases hn
    simp only [Bool.and_eq_true, Bool.not_eq_true', List.isEmpty_eq_false_iff, decide_eq_true_eq, List.all_eq_true] at hc
    obtain ⟨⟨c1, c2⟩, c3⟩ := hc
    obtain ⟨p, vs, rfl, hp, hd⟩ := Den.tup_iff.mp a
    rw [intsD_dens hi hd] at hp
    refine ⟨.cons ⟨p, rfl, .inl (rd_mono hf hp.rd)⟩ i1, fun x hx => ?_⟩
    rcases List.mem_cons.mp hx with rfl | hx
    · refine ⟨?_, c2, fun z hz => ?_⟩
      · rcases Nat.eq_zero_or_pos x.length with e | e
        · exact absurd (List.eq_nil_of_length_eq_zero e) c1
        · exact e
      · have := c3 z hz
        omega
    · exact i2 x hx
theorem asc_pw : ∀ {nss : List (List Int)}, ascB nss = true → nss.Pairwise fun a b => ltI a b = true
  | [], _ => .nil
  | n :: ns, h => by
    simp only [ascB, Bool.and_eq_true, List.all_eq_true] at h
    exact .cons h.1 (asc_pw h.2)
theorem bi_ok (hc : X.calm = true) {b : Bi} (hb : plainBi b = true) {vs : List Val} {st : Sto} {d : D} (h : biV b vs st = some d) : ∃ R : List V → Hp → VK → Prop, CallR X (biF b) R ∧ ∀ (F B : Hp) (as : List Addr) (env : Env) (σ : L2.St) (H : Hp) (us : List V) (Q : VK), Rel X.K cs F B as env st σ H →
    Paired (VOk X.K F B as) vs us → (∀ F' H' u, Rel X.K cs F' B as env st σ H' → Ext F as H F' as H' → Den X.K F' d u → Q u H') → R us H Q := by
  unfold biV at h
  split at h
  · obtain ⟨n, hn, e⟩ := omap h
    subst e
    refine ⟨_, call_len.or call_lenR, fun F B as env σ H us Q r p k => ?_⟩
    obtain ⟨u, rfl, q⟩ := paired1 p
    exact top_len hc r.toRSt hn q (k F H _ r r.refl (Den.int_iff.mpr rfl))
  · cases h
    refine ⟨_, call_abs, fun F B as env σ H us Q r p k => ?_⟩
    obtain ⟨u, rfl, q⟩ := paired1 p
    exact ⟨_, by rw [int_of q], k F H _ r r.refl (Den.int_iff.mpr rfl)⟩
  · cases h
    refine ⟨_, call_int1, fun F B as env σ H us Q r p k => ?_⟩
    obtain ⟨u, rfl, q⟩ := paired1 p
    exact .inl ⟨_, by rw [int_of q], k F H _ r r.refl (Den.int_iff.mpr rfl)⟩
  · cases h
    refine ⟨_, call_int1, fun F B as env σ H us Q r p k => ?_⟩
    obtain ⟨u, rfl, q⟩ := paired1 p
    exact .inr ⟨_, by rw [bl_of q], k F H _ r r.refl (Den.int_iff.mpr rfl)⟩
  · split at h
    · rename_i hl
      obtain ⟨n, hn, e⟩ := omap h
      subst e
      refine ⟨_, call_int_str, fun F B as env σ H us Q r p k => ?_⟩
      obtain ⟨u, rfl, q⟩ := paired1 p
      exact ⟨_, n, by rw [str_of q], hn, by rw [S_len]; exact hl, k F H _ r r.refl (Den.int_iff.mpr rfl)⟩
    · cases h
  · split at h
    · rename_i hl
      cases h
      refine ⟨_, call_str_int, fun F B as env σ H us Q r p k => ?_⟩
      obtain ⟨u, rfl, q⟩ := paired1 p
      exact ⟨_, by rw [int_of q], hl, k F H _ r r.refl (Den.str_iff.mpr (by rw [digs_ok]))⟩
    · cases h
  · rename_i v
    split at h
    · rename_i ds hs
      cases h
      refine ⟨_, call_tupleX, fun F B as env σ H us Q r p k => ?_⟩
      obtain ⟨u, rfl, q⟩ := paired1 p
      obtain ⟨a, us, rfl, ha, hq⟩ := asT_ok r.toRSt hs q
      refine ⟨a, us, rfl, .inr ⟨ha, k F H _ r r.refl ?_⟩⟩
      unfold asT at hs
      split at hs
      · cases hs; exact q
      · cases hs
    · obtain ⟨ds, hd, e⟩ := omap h
      subst e
      refine ⟨_, call_tupleX, fun F B as env σ H us Q r p k => ?_⟩
      obtain ⟨u, rfl, q⟩ := paired1 p
      obtain ⟨a, us, rfl, ha, hq⟩ := asL_ok r.toRSt hd q
      refine ⟨a, us, rfl, .inl ⟨ha, ds, fun t o ht h0 => ?_⟩⟩
      obtain ⟨r2, x2, v2⟩ := r.putT ht h0 hq
      exact k _ _ _ r2 x2 v2
  · obtain ⟨ds, hd, h⟩ := obnd h
    obtain ⟨ns, hn, e⟩ := omap h
    subst e
    refine ⟨_, cr_sum hc, fun F B as env σ H us Q r p k => ?_⟩
    obtain ⟨u, rfl, q⟩ := paired1 p
    obtain ⟨a, us, rfl, ha, hq⟩ := asL_ok r.toRSt hd q
    rw [intsD_ok hn hq] at ha
    exact ⟨a, ns, rfl, ha, k F H _ r r.refl (Den.int_iff.mpr rfl)⟩
  · obtain ⟨ds, hd, h⟩ := obnd h
    obtain ⟨ns, hn, h⟩ := obnd h
    obtain ⟨m, hm, e⟩ := omap h
    subst e
    refine ⟨_, cr_max hc, fun F B as env σ H us Q r p k => ?_⟩
    obtain ⟨u, rfl, q⟩ := paired1 p
    obtain ⟨a, us, rfl, ha, hq⟩ := asL_ok r.toRSt hd q
    rw [intsD_ok hn hq] at ha
    obtain ⟨m1, m2⟩ := maxOf_ok hm
    refine ⟨a, ns, rfl, ha, List.length_pos_of_mem m1, fun m' h1 h2 => ?_⟩
    have e : m' = m := Int.le_antisymm (m2 _ h1) (h2 _ m1)
    subst e
    exact k F H _ r r.refl (Den.int_iff.mpr rfl)
  · obtain ⟨ds, hd, h⟩ := obnd h
    obtain ⟨ns, hn, h⟩ := obnd h
    obtain ⟨m, hm, e⟩ := omap h
    subst e
    refine ⟨_, cr_min hc, fun F B as env σ H us Q r p k => ?_⟩
    obtain ⟨u, rfl, q⟩ := paired1 p
    obtain ⟨a, us, rfl, ha, hq⟩ := asL_ok r.toRSt hd q
    rw [intsD_ok hn hq] at ha
    obtain ⟨m1, m2⟩ := minOf_ok hm
    refine ⟨a, ns, rfl, ha, List.length_pos_of_mem m1, fun m' h1 h2 => ?_⟩
    have e : m' = m := Int.le_antisymm (h2 _ m1) (m2 _ h1)
    subst e
    exact k F H _ r r.refl (Den.int_iff.mpr rfl)
  · obtain ⟨ds, hd, h⟩ := obnd h
    obtain ⟨ns, hn, e⟩ := omap h
    subst e
    refine ⟨_, cr_all hc, fun F B as env σ H us Q r p k => ?_⟩
    obtain ⟨u, rfl, q⟩ := paired1 p
    obtain ⟨a, us, rfl, ha, hq⟩ := asL_ok r.toRSt hd q
    rw [boolsD_ok hn hq] at ha
    exact ⟨a, ns, rfl, ha, k F H _ r r.refl (Den.bl_iff.mpr rfl)⟩
  · obtain ⟨ds, hd, h⟩ := obnd h
    obtain ⟨ns, hn, e⟩ := omap h
    subst e
    refine ⟨_, cr_any hc, fun F B as env σ H us Q r p k => ?_⟩
    obtain ⟨u, rfl, q⟩ := paired1 p
    obtain ⟨a, us, rfl, ha, hq⟩ := asL_ok r.toRSt hd q
    rw [boolsD_ok hn hq] at ha
    exact ⟨a, ns, rfl, ha, k F H _ r r.refl (Den.bl_iff.mpr rfl)⟩
  · cases h
    refine ⟨_, call_max2 hc, fun F B as env σ H us Q r p k => ?_⟩
    obtain ⟨u, w, rfl, q, q'⟩ := paired2 p
    exact ⟨_, _, by rw [int_of q, int_of q'], k F H _ r r.refl (Den.int_iff.mpr rfl)⟩
  · cases h
    refine ⟨_, call_min2 hc, fun F B as env σ H us Q r p k => ?_⟩
    obtain ⟨u, w, rfl, q, q'⟩ := paired2 p
    exact ⟨_, _, by rw [int_of q, int_of q'], k F H _ r r.refl (Den.int_iff.mpr rfl)⟩
  · split at h
    case h_2 =>
      obtain ⟨ds, hd, h⟩ := obnd h
      split at h
      case isFalse => cases h
      rename_i hasc
      cases h
      unfold ascD at hasc
      rw [Bool.and_eq_true, decide_eq_true_eq] at hasc
      obtain ⟨h64, hasc⟩ := hasc
      split at hasc
      case h_2 => cases hasc
      rename_i nss hns
      refine ⟨_, cr_sortAsc, fun F B as env σ H us Q r p k => ?_⟩
      obtain ⟨u, rfl, q⟩ := paired1 p
      obtain ⟨a, us, rfl, ha, hq⟩ := asL_ok r.toRSt hd q
      obtain ⟨p1, p2⟩ := tupsI_ok (X := X) hns hq r.toRSt.fh
      refine ⟨a, us, nss, rfl, ha, by rw [hq.length]; exact h64, p1, p2, asc_pw hasc, fun t ht => ?_⟩
      obtain ⟨r2, x2, v2⟩ := r.put (d := .lst ds) (o := .lst us) ht fun F2 hf h2 => Den.lst_iff.mpr ⟨t, us, rfl, h2, Dens.mono hf _ _ hq⟩
      exact k _ _ _ r2 x2 v2
    rename_i d0 heq
    cases h
    obtain ⟨ds, hd, h⟩ := obnd heq
    obtain ⟨ws, hw, h⟩ := obnd h
    split at h
    case isFalse => cases h
    rename_i hl
    cases h
    unfold soL at hd
    split at hd
    · rename_i ds' hd'
      cases hd
      refine ⟨_, cr_sortedS, fun F B as env σ H us Q r p k => ?_⟩
      obtain ⟨u, rfl, q⟩ := paired1 p
      obtain ⟨a, us, rfl, ha, hq⟩ := asL_ok r.toRSt hd' q
      rw [textsD_ok hw hq] at ha
      refine ⟨a, _, rfl, ha, by rw [List.length_map]; exact hl, fun ys t hp hs ht => ?_⟩
      rw [sorted_is hp hs]
      obtain ⟨r2, x2, v2⟩ := r.put (d := .lst ((sortW ws).map .str)) (o := .lst (((sortW ws).map S).map V.str)) ht fun F2 hf h2 => Den.lst_iff.mpr ⟨t, _, rfl, h2, dens_texts _⟩
      exact k _ _ _ r2 x2 v2
    · obtain ⟨⟨ks, es⟩, hq, e⟩ := omap hd
      subst e
      refine ⟨_, call_sortedD hc, fun F B as env σ H us Q r p k => ?_⟩
      obtain ⟨u, rfl, q⟩ := paired1 p
      have hs' := asDK_snap hq
      obtain ⟨a, us, rfl, ha, hle, hqd⟩ := top_dK r.toRSt hs' q
      have hkw := texts_keys hw
      refine ⟨a, _, ws.map S, rfl, ha, ?_, by rw [List.length_map]; exact hl, fun ys t hp hs ht => ?_⟩
      · rw [List.map_fst_zip (by rw [List.length_map, hle, hqd.length]; exact Nat.le_refl _)]
        dsimp only at hkw
        rw [hkw, List.map_map, List.map_map]
        rfl
      · rw [sorted_is hp hs]
        obtain ⟨r2, x2, v2⟩ := r.put (d := .lst ((sortW ws).map .str)) (o := .lst (((sortW ws).map S).map V.str)) ht fun F2 hf h2 => Den.lst_iff.mpr ⟨t, _, rfl, h2, dens_texts _⟩
        exact k _ _ _ r2 x2 v2
  · cases hb
  · cases hb
  · cases h
def fBi (b : Bi) (g : Env → Sto → Option (List Val × Sto)) : Env → Sto → Option (Val × Sto) := fun env st => (g env st).bind fun r => (biV b r.1 r.2).map fun d => (.dat d, r.2)
theorem s_bi {b : Bi} {p : Pos} (hb : plainBi b = true) (hc : X.calm = true) (hg : Gl X (biN b)) (hm : X.mg (biN b) = none) (ha : PA X (e :: es) (tEs X.K cs g)) (hs : starEach (e :: es) X.env = (false, eval e X.env) :: starEach es X.env) (ht : ((backTo pos (starEach es X.env)).any (·.1)) = false) :
    PE X (.Call (.Name (biN b) p) (e :: es) [] pos) (tE X.K cs (fBi b g)) := by
  refine ⟨fun pins s σ H Q I h => ?_⟩
  obtain ⟨F, B, as, env, st, v, st', r, ev, k⟩ := h
  obtain ⟨⟨vs, s1⟩, e1, ev1⟩ := obnd ev
  obtain ⟨d, hd, ev2⟩ := omap ev1
  clear ev ev1
  cases ev2
  obtain ⟨R, hR, hk⟩ := bi_ok (cs := cs) hc hb hd
  have rd : tCB R (tEs X.K cs g) σ H Q := ⟨F, B, as, env, st, vs, s1, r, e1, fun F' as' H' us r' x' v1 => hk F' B as' env σ H' us Q r' v1 fun F2 H2 u r2 x2 q2 => k F2 as' H2 u r2 (x'.trans x2) q2⟩
  cases b with
  | len => exact (pe_callB (id := "len") hR hg hm PySem.boot_len ha (by decide) (by decide) hs ht).run pins s σ H Q I rd
  | abs => exact (pe_callB (id := "abs") hR hg hm (by decide +kernel) ha (by decide) (by decide) hs ht).run pins s σ H Q I rd
  | int => exact (pe_callTy (T := "int") hR hg hm (by decide +kernel) ha (by decide) (by decide) hs ht).run pins s σ H Q I rd
  | str => exact (pe_callTy (T := "str") hR hg hm (by decide +kernel) ha (by decide) (by decide) hs ht).run pins s σ H Q I rd
  | list => simp [biV] at hd
  | tuple => exact (pe_callTy (T := "tuple") hR hg hm (by decide +kernel) ha (by decide) (by decide) hs ht).run pins s σ H Q I rd
  | dict => simp [biV] at hd
  | sorted => exact (pe_callB (id := "sorted") hR hg hm (by decide +kernel) ha (by decide) (by decide) hs ht).run pins s σ H Q I rd
  | sum => exact (pe_callB (id := "sum") hR hg hm (by decide +kernel) ha (by decide) (by decide) hs ht).run pins s σ H Q I rd
  | max => exact (pe_callB (id := "max") hR hg hm (by decide +kernel) ha (by decide) (by decide) hs ht).run pins s σ H Q I rd
  | min => exact (pe_callB (id := "min") hR hg hm (by decide +kernel) ha (by decide) (by decide) hs ht).run pins s σ H Q I rd
  | all => exact (pe_callB (id := "all") hR hg hm (by decide +kernel) ha (by decide) (by decide) hs ht).run pins s σ H Q I rd
  | any => exact (pe_callB (id := "any") hR hg hm (by decide +kernel) ha (by decide) (by decide) hs ht).run pins s σ H Q I rd
  | max2 => exact (pe_callB (id := "max") hR hg hm (by decide +kernel) ha (by decide) (by decide) hs ht).run pins s σ H Q I rd
  | min2 => exact (pe_callB (id := "min") hR hg hm (by decide +kernel) ha (by decide) (by decide) hs ht).run pins s σ H Q I rd
  | maxD => cases hb
  | sset => cases hb
def tyS : Ty → String
  | .int => "int" | .bool => "bool" | .str => "str" | .tuple => "tuple" | .list => "list" | .dict => "dict"
def tyN (t : Ty) : Str := tyS t
theorem isTy_ok {F B H : Hp} {as : List Addr} {st : Sto} (r : RSt X.K cs F B as st H) {v : Val} {u : V} {d : D} {t : Ty} {b : Bool} (h : snap st v = some d) (q : VOk X.K F B as v u) (hb : isTy d t = some b) : ∃ ty, TyX X.K H u ty ∧ PySem.W.kitOne X.K ty (.type (tyS t)) = some b := by
  cases d with
  | non =>
    have e := Den.non_iff.mp (snap_dat r h q trivial)
    subst e
    refine ⟨_, .base .non, kit_ty ?_⟩
    cases t <;> simp [isTy] at hb <;> subst hb <;> decide +kernel
  | bl c =>
    have e := Den.bl_iff.mp (snap_dat r h q trivial)
    subst e
    refine ⟨_, .base (.bl c), kit_ty ?_⟩
    cases t <;> simp [isTy] at hb <;> subst hb <;> decide +kernel
  | int c =>
    have e := Den.int_iff.mp (snap_dat r h q trivial)
    subst e
    refine ⟨_, .base (.int c), kit_ty ?_⟩
    cases t <;> simp [isTy] at hb <;> subst hb <;> decide +kernel
  | exc _ _ _ => simp [isTy] at hb
  | str c =>
    have e := Den.str_iff.mp (snap_dat r h q trivial)
    subst e
    refine ⟨_, .base (.str _), kit_ty ?_⟩
    cases t <;> simp [isTy] at hb <;> subst hb <;> decide +kernel
  | tup ds =>
    obtain ⟨p, us, rfl, hp, hq⟩ := top_tup r h q
    rcases hp with hp | ⟨o, hp⟩
    · refine ⟨_, .base (.tup hp), kit_ty ?_⟩
      cases t <;> simp [isTy] at hb <;> subst hb <;> decide +kernel
    · refine ⟨_, .fTuple hp, kit_ty ?_⟩
      cases t <;> simp [isTy] at hb <;> subst hb <;> decide +kernel
  | lst ds =>
    obtain ⟨p, us, rfl, hp, hq⟩ := top_lst r h q
    refine ⟨_, .base (.lst hp), kit_ty ?_⟩
    cases t <;> simp [isTy] at hb <;> subst hb <;> decide +kernel
  | dK ks ds =>
    obtain ⟨p, us, rfl, hp, hl, hq⟩ := top_dK r h q
    rcases hp with hp | ⟨o, hp⟩
    · refine ⟨_, .base (.dK hp), kit_ty ?_⟩
      cases t <;> simp [isTy] at hb <;> subst hb <;> decide +kernel
    · refine ⟨_, .fDict hp, kit_ty ?_⟩
      cases t <;> simp [isTy] at hb <;> subst hb <;> decide +kernel
  | dT _ _ => simp [isTy] at hb
  | scr _ => simp [isTy] at hb
theorem isTyS_ok {F B H : Hp} {as : List Addr} {st : Sto} (r : RSt X.K cs F B as st H) {v : Val} {u : V} {d : D} {t : Ty} {b : Bool} (h : tySn st v = some d) (q : VOk X.K F B as v u) (hb : isTy d t = some b) : ∃ ty, TyX X.K H u ty ∧ PySem.W.kitOne X.K ty (.type (tyS t)) = some b := by
  unfold tySn at h
  split at h
  · cases h
    obtain ⟨p, vs, ws, a, rfl, f, d1, d2, ea⟩ := q
    refine ⟨_, .base (.tup (r.fh _ _ f)), kit_ty ?_⟩
    cases t <;> simp [isTy] at hb <;> subst hb <;> decide +kernel
  · exact isTy_ok r h q hb
def fIsi (t : Ty) (f : Env → Sto → Option (Val × Sto)) : Env → Sto → Option (Val × Sto) := fun env st => (f env st).bind fun r => (tySn r.2 r.1).bind fun d => (isTy d t).map fun b => (.dat (.bl b), r.2)
theorem s_isi {t : Ty} {p p' : Pos} (hg : Gl X "isinstance") (hm : X.mg "isinstance" = none) (hgt : Gl X (tyN t)) (hmt : X.mg (tyN t) = none) (h : PE X e (tE X.K cs f)) (hs : nStar e = true) : PE X (.Call (.Name "isinstance" p) [e, .Name (tyN t) p'] [] pos) (tE X.K cs (fIsi t f)) := by
  have ht : PE X (.Name (tyN t) p') (tC (.ty (tyS t))) := by
    cases t <;> exact pe_bltn hgt hmt (by decide +kernel) rfl (by decide) (by decide)
  refine (pe_callB call_isi hg hm (by decide +kernel) (pa_cons h (pa_cons ht pa_nil) (noStar hs)) (by decide) (by decide) (noStar hs) rfl).weak fun σ H Q ⟨F, B, as, env, st, v, st', r, ev, k⟩ => ?_
  obtain ⟨⟨x, s1⟩, e1, ev1⟩ := obnd ev
  obtain ⟨d, hd, ev2⟩ := obnd ev1
  obtain ⟨b, hb, ev3⟩ := omap ev2
  clear ev ev1 ev2
  cases ev3
  refine ⟨F, B, as, env, st, x, s1, r, e1, fun F' as' H' u r' x' v1 => ?_⟩
  obtain ⟨ty, h1, h2⟩ := isTyS_ok r'.toRSt hd v1 hb
  exact ⟨u, _, ty, _, b, rfl, .ty _, h1, h2, k F' as' H' _ r' x' vbl⟩
def fMt (m : Mt) (f : Env → Sto → Option (Val × Sto)) (g : Env → Sto → Option (List Val × Sto)) : Env → Sto → Option (Val × Sto) := fun env st => (f env st).bind fun r => (g env r.2).bind fun q => if kindV r.2 r.1 = kindV q.2 r.1 then mtV m r.1 q.1 q.2 else none
theorem list_mt {F B : Hp} {as : List Addr} {env : Env} {st : Sto} {σ : L2.St} {H : Hp} (r : Rel X.K cs F B as env st σ H) {l : Nat} {ds : List D} {u : V} (hl : st[l]? = some (.lst ds)) (q : VOk X.K F B as (.ref l) u) : ∃ a us, u = .ref a ∧ as[l]? = some a ∧ H a = some (.lst us) ∧ Dens X.K F ds us ∧
    ∀ ds' us', Dens X.K F ds' us' → Rel X.K cs F B as env (st.set l (.lst ds')) σ (upd H a (.lst us')) ∧ Ext F as H F as (upd H a (.lst us')) := by
  obtain ⟨a, ea, rfl⟩ := q
  obtain ⟨_, ho', e1, us, rfl, hq⟩ := r.obj l a _ ea hl
  refine ⟨a, us, rfl, ea, e1, hq, fun ds' us' h => ?_⟩
  obtain ⟨r2, x2⟩ := r.toRSt.write (o' := .lst ds') (ho := .lst us') ea hl (by simp) ⟨_, rfl, h⟩
  exact ⟨r.slots x2 r2, x2⟩
def nSuper : Expr → Bool
  | .Call (.Name _ _) [] [] _ => false
  | _ => true
theorem noSuper {o : Expr} {m : Str} {env : PySem.Env} (h : nSuper o = true) (w : Sem Value) : attributeBase o m env w = w := by
  unfold attributeBase
  split
  · simp [nSuper] at h
  · rfl
def mtS : Mt → Str
  | .append => "append" | .pop => "pop" | .popAt => "pop" | .clear => "clear" | .get => "get" | .pop2 => "pop" | .join => "join" | .split => "split" | .partition => "partition" | .rpartition => "rpartition" | .startswith => "startswith"
  | .strip => "strip" | .lstrip => "lstrip" | .count => "count" | .index => "index" | .update => "update"
def kT (n : Nat) : String := match n with | 1 => "list" | 2 => "dict" | 3 => "str" | _ => ""
theorem kind_ok {F B H : Hp} {as : List Addr} {st : Sto} (r : RSt X.K cs F B as st H) {v : Val} {u : V} (q : VOk X.K F B as v u) (h : kindV st v = 1 ∨ kindV st v = 3 ∨ (kindV st v = 2 ∧ ∃ l, v = .ref l)) : tyV X.K (kT (kindV st v)) u H := by
  unfold kindV at h ⊢
  split
  · rename_i ds hs
    obtain ⟨p, us, rfl, hp, hq⟩ := top_lst r hs q
    exact .inl ⟨rfl, us, .of hp⟩
  · rename_i ks ds hs
    rw [hs] at h
    rcases h with h | h | ⟨_, l, rfl⟩
    · cases h
    · cases h
    obtain ⟨a, ea, rfl⟩ := q
    simp only [snap] at hs
    obtain ⟨o, ho, hf⟩ := obnd hs
    obtain ⟨_, hb, e1, e2⟩ := r.obj l a o ea ho
    cases o <;> simp [fzO] at hf
    obtain ⟨us, rfl, _⟩ := e2
    exact .inr (.inr (.inl ⟨rfl, .inl ⟨_, e1⟩⟩))
  · rename_i ks ds hs
    rw [hs] at h
    rcases h with h | h | ⟨_, l, rfl⟩
    · cases h
    · cases h
    obtain ⟨a, ea, rfl⟩ := q
    simp only [snap] at hs
    obtain ⟨o, ho, hf⟩ := obnd hs
    obtain ⟨_, hb, e1, e2⟩ := r.obj l a o ea ho
    cases o <;> simp [fzO] at hf
    obtain ⟨us, rfl, _⟩ := e2
    exact .inr (.inr (.inl ⟨rfl, .inr ⟨_, e1⟩⟩))
  · rename_i w hs
    have e := Den.str_iff.mp (snap_dat r hs q trivial)
    subst e
    rfl
  · rename_i h1 h2 h3 h4
    split at h <;> simp_all
def MtFact (X : Cx) (cs : Nat → Option Addr) (m : Mt) (x : Val) (vs : List Val) (st st' : Sto) (v : Val) : Prop := ∃ id R, (kindV st x = 1 ∨ kindV st x = 3 ∨ (kindV st x = 2 ∧ ∃ l, x = .ref l)) ∧ MtR X id R ∧ PlainAttrs (kT (kindV st x)) ∧ Slot (kT (kindV st x)) (mtS m) id ∧ typeOf (.builtin id) = pure (.type "method_descriptor") ∧
  ∀ (F B : Hp) (as : List Addr) (env : Env) (σ : L2.St) (H : Hp) (u : V) (us : List V) (Q : VK), Rel X.K cs F B as env st σ H → VOk X.K F B as x u → Paired (VOk X.K F B as) vs us →
    (∀ F' H' w, Rel X.K cs F' B as env st' σ H' → Ext F as H F' as H' → VOk X.K F' B as v w → Q w H') → R u us H Q
theorem kind_lst {st : Sto} {l : Nat} {ds : List D} (h : st[l]? = some (.lst ds)) : kindV st (.ref l) = 1 := by simp [kindV, snap, h, fzO]
theorem mt_pop_ok {x : Val} {st st' : Sto} {v : Val} (h : mtV .pop x [] st = some (v, st')) : MtFact X cs .pop x [] st st' v := by
  unfold mtV at h
  split at h <;> try contradiction
  rename_i l _ _
  split at h
  case h_2 => cases h
  rename_i ds hl
  obtain ⟨d, hd, e⟩ := omap h
  cases e
  have kl := kind_lst hl
  refine ⟨_, _, .inl kl, mt_pop, by rw [kl]; exact F.plainAttrs_list, by rw [kl]; exact F.slot_list_pop, F.type_list_pop, fun F B as env σ H u us Q r q p k => ?_⟩
  obtain ⟨a, us', rfl, ea, hH, hq, hk⟩ := list_mt r hl q
  cases p
  obtain ⟨w, hw, qw⟩ := hq.get hd
  obtain ⟨r2, x2⟩ := hk _ _ hq.dropLast
  exact ⟨a, us', w, rfl, rfl, hH, by rw [hq.length]; exact hw, k F _ w r2 x2 qw⟩
theorem kind_dK {st : Sto} {l : Nat} {ks : List K1} {ds : List D} (h : st[l]? = some (.dK ks ds)) : kindV st (.ref l) = 2 := by simp [kindV, snap, h, fzO]
theorem mt_popAt_ok {x y : Val} {st st' : Sto} {v : Val} (h : mtV .popAt x [y] st = some (v, st')) : MtFact X cs .popAt x [y] st st' v := by
  unfold mtV at h
  split at h <;> try contradiction
  rename_i l i _ he
  cases he
  split at h
  case h_2 => cases h
  rename_i ds hl
  split at h
  case isFalse => cases h
  rename_i hi
  obtain ⟨j, hj, h⟩ := obnd h
  obtain ⟨d, hd, e⟩ := omap h
  cases e
  have kl := kind_lst hl
  refine ⟨_, _, .inl kl, mt_popAt, by rw [kl]; exact F.plainAttrs_list, by rw [kl]; exact F.slot_list_pop, F.type_list_pop, fun F B as env σ H u us Q r q p k => ?_⟩
  obtain ⟨a, us', rfl, ea, hH, hq, hk⟩ := list_mt r hl q
  obtain ⟨w', rfl, qy⟩ := paired1 p
  obtain ⟨w, hw, qw⟩ := hq.get hd
  obtain ⟨r2, x2⟩ := hk _ _ (hq.eraseIdx j)
  exact ⟨a, us', i, j, w, rfl, congrArg (fun z => [z]) (int_of qy), hH, hi.1, hi.2, by rw [hq.length]; exact (ixN_seq (show ixN ds.length i = some j from hj)).1, hw, k F _ w r2 x2 qw⟩
theorem mt_clear_ok {x : Val} {st st' : Sto} {v : Val} (h : mtV .clear x [] st = some (v, st')) : MtFact X cs .clear x [] st st' v := by
  unfold mtV at h
  split at h <;> try contradiction
  rename_i l _ _
  split at h
  · rename_i ds hl
    cases h
    have kl := kind_lst hl
    refine ⟨_, _, .inl kl, mt_clear, by rw [kl]; exact F.plainAttrs_list, by rw [kl]; exact F.slot_list_clear, F.type_list_clear, fun F B as env σ H u us Q r q p k => ?_⟩
    obtain ⟨a, us', rfl, ea, hH, hq, hk⟩ := list_mt r hl q
    cases p
    obtain ⟨r2, x2⟩ := hk [] [] (Dens.nil.mpr rfl)
    exact ⟨a, us', rfl, rfl, hH, k F _ _ r2 x2 vnon⟩
  · rename_i ks ds hl
    cases h
    have kl := kind_dK hl
    refine ⟨_, _, .inr (.inr ⟨kl, _, rfl⟩), mtd_clear, by rw [kl]; exact F.plainAttrs_dict, by rw [kl]; exact F.slot_dict_clear, F.type_dict_clear, fun F B as env σ H u us Q r q p k => ?_⟩
    obtain ⟨a, ea, rfl⟩ := q
    obtain ⟨_, ho', e1, us', rfl, hl', hq⟩ := r.obj l a _ ea hl
    cases p
    obtain ⟨r2, x2⟩ := r.toRSt.write (o' := .dK [] []) (ho := .dK []) ea hl (by simp) ⟨[], rfl, rfl, Dens.nil.mpr rfl⟩
    exact ⟨a, _, rfl, rfl, e1, k F _ _ (r.slots x2 r2) x2 vnon⟩
  · cases h
theorem set_dead_lst {st : Sto} {l m : Nat} {ds : List D} (hl : (st.set m .dead)[l]? = some (.lst ds)) : st[l]? = some (.lst ds) := by
  by_cases hm : m = l
  · subst hm
    rw [List.getElem?_set] at hl
    split at hl
    · split at hl <;> cases hl
    · rename_i hne; exact absurd rfl hne
  · rw [List.getElem?_set_ne hm] at hl
    exact hl
theorem mt_append_ok {x y : Val} {st st' : Sto} {v : Val} (h : mtV .append x [y] st = some (v, st')) : MtFact X cs .append x [y] st st' v := by
  unfold mtV at h
  split at h <;> try contradiction
  rename_i l y' _ he
  cases he
  obtain ⟨⟨d, s1⟩, hd, h⟩ := obnd h
  dsimp only at h
  split at h
  case h_2 => cases h
  rename_i ds hl
  split at h
  case isFalse => cases h
  rename_i hlen
  cases h
  have kl : kindV st (.ref l) = 1 := by
    cases y with
    | dat _ => simp only [toD] at hd; cases hd; exact kind_lst hl
    | bor _ => simp [toD] at hd
    | ref m =>
      simp only [toD] at hd
      obtain ⟨d', _, e⟩ := omap hd
      cases e
      exact kind_lst (set_dead_lst hl)
    | tup pre m post =>
      simp only [toD] at hd
      obtain ⟨d', _, e⟩ := obnd hd
      split at e
      · cases e
      · cases e; exact kind_lst (set_dead_lst hl)
  refine ⟨_, _, .inl kl, mt_append, by rw [kl]; exact F.plainAttrs_list, by rw [kl]; exact F.slot_list_append, F.type_list_append, fun F B as env σ H u us Q r q p k => ?_⟩
  obtain ⟨w', rfl, qy⟩ := paired1 p
  obtain ⟨F1, r1, x1, q1⟩ := toD_ok r hd qy
  obtain ⟨a, us', rfl, ea, hH, hq, hk⟩ := list_mt r1 hl (q.ext x1)
  obtain ⟨r2, x2⟩ := hk _ _ (hq.append (Dens.one q1))
  exact ⟨a, us', w', rfl, rfl, hH, by rw [hq.length, ← line_eq]; exact hlen, k F1 _ _ r2 (x1.trans x2) vnon⟩
theorem s_mt0 {m : Mt} {apos : Pos} (ho : PE X e (tE X.K cs f)) (h1 : nSuper e = true) (hl : (apos.endLine == pos.line) = true) (hm : ∀ x st v st', mtV m x [] st = some (v, st') → MtFact X cs m x [] st st' v) :
    PE X (.Call (.Attribute e (mtS m) apos) [] [] pos) (tE X.K cs (fMt m f fun _ st => some ([], st))) := by
  refine ⟨fun pins s σ H Q I ⟨F, B, as, env, st, v, st', r, ev, k⟩ => ?_⟩
  obtain ⟨⟨x, s1⟩, ex, ev1⟩ := obnd ev
  obtain ⟨⟨vs, s2⟩, ey, ev2⟩ := obnd ev1
  cases ey
  clear ev ev1
  split at ev2
  case isFalse => cases ev2
  obtain ⟨id, R, hk, hR, pa, sl, ty, go⟩ := hm _ _ _ _ ev2
  refine (pe_bm0 pa sl ty hR ho (noSuper h1 _) hl).run pins s σ H Q I ⟨F, B, as, env, st, x, s1, r, ex, fun F' as' H' u r' x' v1 => ⟨kind_ok r'.toRSt v1 hk, ?_⟩⟩
  exact go F' B as' env σ H' u [] Q r' v1 .nil fun F2 H2 w r2 x2 v2 => k F2 as' H2 w r2 (x'.trans x2) v2
theorem s_mt1 {m : Mt} {apos : Pos} (ho : PE X e (tE X.K cs f)) (he : PE X e1 (tE X.K cs f1)) (h1 : nSuper e = true) (h2 : nStar e1 = true) (hl : (apos.endLine == pos.line) = true) (hm : ∀ x y st v st', mtV m x [y] st = some (v, st') → MtFact X cs m x [y] st st' v) :
    PE X (.Call (.Attribute e (mtS m) apos) [e1] [] pos) (tE X.K cs (fMt m f fun env st => (f1 env st).bind fun r => (some ([], r.2)).map fun q => (r.1 :: q.1, q.2))) := by
  refine ⟨fun pins s σ H Q I ⟨F, B, as, env, st, v, st', r, ev, k⟩ => ?_⟩
  obtain ⟨⟨x, s1⟩, ex, ev1⟩ := obnd ev
  obtain ⟨⟨vs, s2⟩, ey, ev2⟩ := obnd ev1
  obtain ⟨⟨y, s3⟩, ez, e3⟩ := obnd ey
  cases e3
  clear ev ev1
  split at ev2
  case isFalse => cases ev2
  rename_i hkk
  dsimp only at hkk ev2
  obtain ⟨id, R, hk, hR, pa, sl, ty, go⟩ := hm _ _ _ _ _ ev2
  rw [← hkk] at hk pa sl
  refine (pe_bm pa sl ty hR ho (s_cons he s_nil h2) (noSuper h1 _) (by rw [noStar h2]; rfl) hl (noStar h2) rfl).run pins s σ H Q I ⟨F, B, as, env, st, x, s1, r, ex, fun F' as' H' u r' x' v1 => ⟨kind_ok r'.toRSt v1 hk, ?_⟩⟩
  refine ⟨F', B, as', env, s1, _, _, r', ey, fun F2 as2 H2 us r2 x2 v2 => ?_⟩
  exact go F2 B as2 env σ H2 u us Q r2 (v1.ext x2) v2 fun F3 H3 w r3 x3 v3 => k F3 as2 H3 w r3 ((x'.trans x2).trans x3) v3
theorem drop_zip {κ L : Type} [DecidableEq κ] [DecidableEq L] {g : κ → L} (inj : ∀ a b, g a = g b → a = b) {K : PySem.W.Frag} {F : Hp} (k : κ) : ∀ {ks : List κ} {ds : List D} {us : List V}, ks.length = ds.length → Dens K F ds us → ∃ us', dropK ((ks.map g).zip us) (g k) = (((ddrop ks ds k).1).map g).zip us' ∧ (ddrop ks ds k).1.length = (ddrop ks ds k).2.length ∧ Dens K F (ddrop ks ds k).2 us'
  | [], ds, us, hl, h => by
    cases ds with
    | nil => rw [Dens.nil.mp h]; exact ⟨[], rfl, rfl, Dens.nil.mpr rfl⟩
    | cons _ _ => simp at hl
  | a :: ks, [], us, hl, h => by simp at hl
  | a :: ks, d :: ds, us, hl, h => by
    obtain ⟨u, us', rfl, x, y⟩ := Dens.cons.mp h
    obtain ⟨us2, e1, e2, e3⟩ := drop_zip inj k (ks := ks) (ds := ds) (us := us') (by simpa using hl) y
    by_cases e : a = k
    · subst e
      refine ⟨us2, ?_, ?_, ?_⟩
      · rw [List.map_cons, List.zip_cons_cons]
        have z : dropK ((g a, u) :: (ks.map g).zip us') (g a) = dropK ((ks.map g).zip us') (g a) := List.filter_cons_of_neg (by simp)
        rw [z, e1]
        simp only [ddrop, if_true]
      · simp only [ddrop, if_true]; exact e2
      · simp only [ddrop, if_true]; exact e3
    · have en : ¬ g a = g k := fun z => e (inj _ _ z)
      refine ⟨u :: us2, ?_, ?_, ?_⟩
      · rw [List.map_cons, List.zip_cons_cons]
        have z : dropK ((g a, u) :: (ks.map g).zip us') (g k) = (g a, u) :: dropK ((ks.map g).zip us') (g k) := List.filter_cons_of_pos (by simp [en])
        rw [z, e1]
        simp only [ddrop, if_neg e, List.map_cons, List.zip_cons_cons]
      · simp only [ddrop, if_neg e, List.length_cons]; omega
      · simp only [ddrop, if_neg e]
        exact Dens.cons.mpr ⟨u, us2, rfl, x, e3⟩
theorem kind_dT {st : Sto} {l : Nat} {ks : List (List K1)} {ds : List D} (h : st[l]? = some (.dT ks ds)) : kindV st (.ref l) = 2 := by simp [kindV, snap, h, fzO]
theorem mt_pop2_ok (hu : X.A.units + 1 < cLine) {x y z : Val} {st st' : Sto} {v : Val} (h : mtV .pop2 x [y, z] st = some (v, st')) : MtFact X cs .pop2 x [y, z] st st' v := by
  unfold mtV at h
  split at h <;> try contradiction
  rename_i l kd dd _ he
  cases he
  split at h
  case h_2 => cases h
  rename_i ks ds hl
  obtain ⟨k, hk, e⟩ := omap h
  have kl := kind_dT hl
  refine ⟨_, _, .inr (.inr ⟨kl, _, rfl⟩), L2.DX.mt_popT hu, by rw [kl]; exact F.plainAttrs_dict, by rw [kl]; exact F.slot_dict_pop, F.type_dict_pop, fun F B as env σ H u us Q r q p kont => ?_⟩
  obtain ⟨a, ea, rfl⟩ := q
  obtain ⟨_, ho', e1, us', rfl, hl', hq⟩ := r.obj l a _ ea hl
  obtain ⟨wk, wd, rfl, qk, qd⟩ := paired2 p
  obtain ⟨c, rfl, hc⟩ := toTK_ok hk qk
  refine ⟨a, _, k.map kk, c, wd, rfl, rfl, e1, r.fh _ _ hc, fun v0 hv => ?_, fun hv => ?_⟩
  · rcases dlook_zip (g := fun l : List K1 => l.map kk) (fun _ _ => kk_map_inj) k hl' hq with ⟨d, x, h1, h2, h3⟩ | ⟨h1, h2⟩
    · rw [h1] at e
      cases e
      obtain ⟨us2, g1, g2, g3⟩ := drop_zip (g := fun l : List K1 => l.map kk) (fun _ _ => kk_map_inj) k hl' hq
      obtain ⟨r2, x2⟩ := r.toRSt.write (o' := .dT (ddrop ks ds k).1 (ddrop ks ds k).2) (ho := .dT (dropK ((ks.map fun l => l.map kk).zip us') (k.map kk))) ea hl (by simp) ⟨us2, by rw [g1], g2, g3⟩
      have ex : v0 = x := by
        have : some v0 = some x := hv.symm.trans h2
        injection this
      subst ex
      exact kont F _ v0 (r.slots x2 r2) x2 h3
    · have : some v0 = none := hv.symm.trans h2
      cases this
  · rcases dlook_zip (g := fun l : List K1 => l.map kk) (fun _ _ => kk_map_inj) k hl' hq with ⟨d, x, h1, h2, h3⟩ | ⟨h1, h2⟩
    · have : none = some x := hv.symm.trans h2
      cases this
    · rw [h1] at e
      cases e
      exact kont F H wd r r.refl qd
theorem s_mt2 {m : Mt} {apos : Pos} (ho : PE X e (tE X.K cs f)) (he : PE X e1 (tE X.K cs f1)) (hf : PE X e2 (tE X.K cs f2)) (h1 : nSuper e = true) (h2 : nStar e1 = true) (h3 : nStar e2 = true) (hl : (apos.endLine == pos.line) = true) (hm : ∀ x y z st v st', mtV m x [y, z] st = some (v, st') → MtFact X cs m x [y, z] st st' v) :
    PE X (.Call (.Attribute e (mtS m) apos) [e1, e2] [] pos) (tE X.K cs (fMt m f fun env st => (f1 env st).bind fun r => ((f2 env r.2).bind fun r => (some ([], r.2)).map fun q => (r.1 :: q.1, q.2)).map fun q => (r.1 :: q.1, q.2))) := by
  refine ⟨fun pins s σ H Q I ⟨F, B, as, env, st, v, st', r, ev, k⟩ => ?_⟩
  obtain ⟨⟨x, s1⟩, ex, ev1⟩ := obnd ev
  obtain ⟨⟨vs, s2⟩, ey, ev2⟩ := obnd ev1
  obtain ⟨⟨y, s3⟩, ez, e3⟩ := obnd ey
  obtain ⟨⟨ws, s4⟩, e4, e5⟩ := omap e3
  obtain ⟨⟨z, s5⟩, e6, e7⟩ := obnd e4
  cases e7
  cases e5
  clear ev ev1 e3 e4
  split at ev2
  case isFalse => cases ev2
  rename_i hkk
  dsimp only at hkk ev2
  obtain ⟨id, R, hk, hR, pa, sl, ty, go⟩ := hm _ _ _ _ _ _ ev2
  rw [← hkk] at hk pa sl
  refine (pe_bm pa sl ty hR ho (s_cons he (s_cons hf s_nil h3) h2) (noSuper h1 _) (by rw [noStar h2, noStar h3]; rfl) hl (noStar h2) (by rw [noStar h3]; rfl)).run pins s σ H Q I ⟨F, B, as, env, st, x, s1, r, ex, fun F' as' H' u r' x' v1 => ⟨kind_ok r'.toRSt v1 hk, ?_⟩⟩
  refine ⟨F', B, as', env, s1, _, _, r', ey, fun F2 as2 H2 us r2 x2 v2 => ?_⟩
  exact go F2 B as2 env σ H2 u us Q r2 (v1.ext x2) v2 fun F3 H3 w r3 x3 v3 => k F3 as2 H3 w r3 ((x'.trans x2).trans x3) v3
theorem s_get {apos : Pos} (hu : X.A.units + 200 < cLine) (ho : PE X e (tE X.K cs f)) (he : PE X e1 (tE X.K cs f1)) (hf : PE X e2 (tE X.K cs f2)) (h1 : nSuper e = true) (h2 : nStar e1 = true) (h3 : nStar e2 = true) (hl : (apos.endLine == pos.line) = true) :
    PE X (.Call (.Attribute e "get" apos) [e1, e2] [] pos) (tE X.K cs (fMt .get f fun env st => (f1 env st).bind fun r => ((f2 env r.2).bind fun r => (some ([], r.2)).map fun q => (r.1 :: q.1, q.2)).map fun q => (r.1 :: q.1, q.2))) := by
  refine (pe_dget2 (by omega) ho he hf ⟨noSuper h1 _, by rw [noStar h2, noStar h3]; rfl, hl, by rw [noStar h2, noStar h3]; rfl⟩).weak fun σ H Q ⟨F, B, as, env, st, v, st', r, ev, k⟩ => ?_
  obtain ⟨⟨x, s1⟩, ex, ev1⟩ := obnd ev
  obtain ⟨⟨vs, s2⟩, ey, ev2⟩ := obnd ev1
  obtain ⟨⟨y, s3⟩, ez, e3⟩ := obnd ey
  obtain ⟨⟨ws, s4⟩, e4, e5⟩ := omap e3
  obtain ⟨⟨z, s5⟩, e6, e7⟩ := obnd e4
  cases e7
  cases e5
  clear ev ev1 ey e3 e4
  dsimp only at ev2
  split at ev2
  case isFalse => cases ev2
  rename_i hkk
  unfold mtV at ev2
  split at ev2 <;> try contradiction
  rename_i x _ _ _ kd dd _ he
  cases he
  have isd : ∀ {F' H' : Hp} {as' : List Addr} {u : V}, Rel X.K cs F' B as' env s1 σ H' → VOk X.K F' B as' x u → kindV s1 x = 2 → ∃ a, u = .ref a ∧ IsD H' a := fun r' q hk => by
    unfold kindV at hk
    split at hk <;> try cases hk
    · rename_i ks ds hs
      obtain ⟨p, us, rfl, hp, _⟩ := top_dK r'.toRSt hs q
      exact ⟨p, rfl, .inl ⟨_, hp⟩⟩
    · rename_i ks ds hs
      obtain ⟨p, us, rfl, hp, _⟩ := top_dT r'.toRSt hs q
      exact ⟨p, rfl, .inr ⟨_, hp⟩⟩
  refine ⟨F, B, as, env, st, x, s1, r, ex, fun F1 as1 H1 u r1 x1 v1 => ?_⟩
  split at ev2
  · rename_i ks ds hs
    obtain ⟨kx, hkx, e⟩ := omap ev2
    cases e
    obtain ⟨a, rfl, hd⟩ := isd r1 v1 (by rw [hkk]; simp [kindV, hs])
    refine ⟨a, rfl, hd, F1, B, as1, env, s1, _, s3, r1, ez, fun F2 as2 H2 w2 r2 x2 v2 => ⟨F2, B, as2, env, s3, _, _, r2, e6, fun F3 as3 H3 w3 r3 x3 v3 => ?_⟩⟩
    obtain ⟨a', o, ea, g, hz⟩ := get_dK r3.toRSt hs ((v1.ext x2).ext x3) hkx (Den.mono x3.ff _ _ v2)
    cases ea
    refine ⟨o, g, ?_⟩
    rcases hz with ⟨d', x0, e1', e2', e3'⟩ | ⟨e1', e2'⟩
    · subst e2'
      exact k F3 as3 H3 x0 r3 ((x1.trans x2).trans x3) (by rw [e1']; exact e3')
    · subst e2'
      exact k F3 as3 H3 w3 r3 ((x1.trans x2).trans x3) (by rw [e1']; exact v3)
  · rename_i ks ds hs
    obtain ⟨kx, hkx, e⟩ := omap ev2
    cases e
    obtain ⟨a, rfl, hd⟩ := isd r1 v1 (by rw [hkk]; simp [kindV, hs])
    refine ⟨a, rfl, hd, F1, B, as1, env, s1, _, s3, r1, ez, fun F2 as2 H2 w2 r2 x2 v2 => ⟨F2, B, as2, env, s3, _, _, r2, e6, fun F3 as3 H3 w3 r3 x3 v3 => ?_⟩⟩
    obtain ⟨a', o, ea, g, hz⟩ := get_dT r3.toRSt hs ((v1.ext x2).ext x3) hkx (Den.mono x3.ff _ _ v2)
    cases ea
    refine ⟨o, g, ?_⟩
    rcases hz with ⟨d', x0, e1', e2', e3'⟩ | ⟨e1', e2'⟩
    · subst e2'
      exact k F3 as3 H3 x0 r3 ((x1.trans x2).trans x3) (by rw [e1']; exact e3')
    · subst e2'
      exact k F3 as3 H3 w3 r3 ((x1.trans x2).trans x3) (by rw [e1']; exact v3)
  · cases ev2
end
end NK
set_option Elab.async false
set_option linter.all false
set_option autoImplicit false
set_option maxRecDepth 100000
namespace NK
open PySem PySem.Spec PyProof.Rows L2
open AutoSeq1 (wpAny_loadPart')
theorem meets_enum_newT (l : Addr) (items : Array Value) :
    Meets (Builtin.«enumerate.__new__» ⟨[.type "enumerate", .ref l], []⟩) (fun _ R s => s.heap.IsTuple l items ∧
      R (.ok (.ret (.ref (s.heap.push { cls := .type "tuple_iterator", data := .fields #[.ref l, .int 0 0] }).objs.size)))
        { s with heap := (s.heap.push { cls := .type "tuple_iterator", data := .fields #[.ref l, .int 0 0] }).push { cls := .type "enumerate", data := .fields #[.none, .bool false, .ref s.heap.objs.size, rawInt 0, .none, .none] } }) :=
  .of_wp fun prog w A R s h => by
    obtain ⟨hp, g, d, tk, os⟩ := s; obtain ⟨hl, h⟩ := h
    have hsub := sub_enumerate
    have hL : Heap.IsTuple (Shared.heap ⟨hp, g, d, tk, os⟩) l items := hl
    wp_walk
    refine wpAny_stack_any fun st => wpAny_pure ?_
    split
    · rename_i c _ _ _ _ _
      cases (c == Value.type "enumerate")
      · wp_walk using wpAny_pyIter_tuple hL
        exact ⟨_, rfl, h⟩
      · wp_walk using wpAny_pyIter_tuple hL
        exact ⟨_, rfl, h⟩
    · wp_walk using wpAny_pyIter_tuple hL
      exact ⟨_, rfl, h⟩
theorem call_enumT {prog : Program} {w : World} {A : Around} {E : Value → Shared → Prop} {s : Shared} {l : Addr} {items : Array Value} {Q : Value → Shared → Prop} (hL : s.heap.IsTuple l items)
    (h : ∀ h', IsEnum h' (s.heap.objs.size + 1) s.heap.objs.size 0 .none → h'.IsTupleIter s.heap.objs.size l 0 → h'.objs.size = s.heap.objs.size + 2 →
      (∀ b o, s.heap.get? b = some o → h'.get? b = some o) → Q (.ref (s.heap.objs.size + 1)) { s with heap := h' }) :
    wpAny (model prog w) A (PySem.call (.type "enumerate") [.ref l]) Q E s := by
  refine callType_new F.called_enumerate (by decide) (F.typeCall_enumerate_1 _) (F.newCall_enumerate_1 _) (fun obj => F.args_object_init_2 obj _) F.entry_enumerate_new
    (meets_enum_newT l items) ⟨hL, ?_⟩
  have hz : (s.heap.push { cls := .type "tuple_iterator", data := .fields #[.ref l, .int 0 0] }).objs.size = s.heap.objs.size + 1 := Heap.size_push ..
  show _ ∧ _
  rw [hz]
  have he : IsEnum ((s.heap.push { cls := .type "tuple_iterator", data := .fields #[.ref l, .int 0 0] }).push
      { cls := .type "enumerate", data := .fields #[.none, .bool false, .ref s.heap.objs.size, rawInt 0, .none, .none] }) (s.heap.objs.size + 1) s.heap.objs.size 0 .none := by
    have := Heap.get?_push_size (s.heap.push { cls := .type "tuple_iterator", data := .fields #[.ref l, .int 0 0] })
      (o := { cls := .type "enumerate", data := .fields #[.none, .bool false, .ref s.heap.objs.size, rawInt 0, .none, .none] }) rfl
    rw [hz] at this; exact this
  refine ⟨⟨_, he, rfl⟩, h _ he ⟨_, Heap.get?_push_of_some _ (Heap.get?_push_size _ rfl), rfl, rfl⟩ (by rw [Heap.size_push, hz]) fun b o x => Heap.get?_push_of_some _ (Heap.get?_push_of_some _ x)⟩
def IteT (K : PySem.W.Frag) (a : Addr) : It :=
  ⟨fun i H => ∃ (xs : List V) (x : V), SqT K H a xs ∧ xs[i]? = some x, fun i H v H' => ∃ T x, v = .ref T ∧ H T = none ∧ H' = upd H T (.tup [.int (i : Nat), x]) ∧ ∀ xs, SqT K H a xs → xs[i]? = some x, fun i H => ∃ xs : List V, SqT K H a xs ∧ xs.length ≤ i⟩
theorem turn_enumT {P : Program} {w : World} {K : PySem.W.Frag} {elts : List Expr} {kk : Nat} {tpos : Pos} (a e it : Addr) (hai : a ≠ it) (hae : a ≠ e) :
    Turn P w K (.Tuple elts kk tpos) (IteT K a) [e, it] e (fun i h => (∃ old, IsEnum h e it ((i : Nat) : Int) old) ∧ h.IsTupleIter it a i ∧ e ≠ it) where
  mem := by simp
  obj := fun i h st b hb => by
    obtain ⟨⟨old, he⟩, ⟨o, ho, hc, hd⟩, _⟩ := st
    have e' : b = e ∨ b = it := by simpa using hb
    rcases e' with z | z
    · rw [z]; exact ⟨_, he, fun v q => nomatch q⟩
    · rw [z]; exact ⟨o, ho, fun v q => by rw [hd] at q; cases q⟩
  keep := fun i h h' st k => let ⟨⟨old, he⟩, hi, hne⟩ := st; ⟨⟨old, k e (by simp) _ he⟩, hi.at fun o q => k it (by simp) o q, hne⟩
  item := by
    intro X hP hw hK hc i pins s σ H E I hf st hg
    subst hP hw hK
    obtain ⟨⟨old, he⟩, hit, hne⟩ := st
    obtain ⟨xs, x, hq, hx⟩ := hg
    obtain ⟨its, rv, p, hz⟩ := I.tuple hq
    obtain ⟨u, hu, ru⟩ := rv.get hx
    have hel : e < s.heap.objs.size := Heap.lt_size he
    have hil : it < s.heap.objs.size := by obtain ⟨_, q, _⟩ := hit; exact Heap.lt_size q
    have D := Draws.tuple (prog := X.prog) (w := X.w) (A := X.A.in1) (by simp [I.ok.hd hc]) it a hai its.toArray
    have hlt : i < its.toArray.size := by
      rw [List.size_toArray]
      exact (List.getElem?_eq_some_iff.mp hu).1
    refine wpAny_pyNext_enum_itemD D he ⟨hit, p⟩ hlt hne (by simp [Ne.symm hae, hne]) fun x' h' tk hPx ho hst hT hsz hk => ?_
    have hxu : x' = u := by
      have h1 : its.toArray[i]? = some u := by simpa using hu
      exact Option.some.inj (hPx.symm.trans h1)
    subst hxu
    refine ⟨_, rfl, wpAny_letOwnedTupleGo_enum (s := { s with heap := h', toks := tk + 1 }) ho fun h'' he' sb => ?_⟩
    have hT2 : h''.get? s.heap.objs.size = some { cls := .type "tuple", data := .seq #[.int i tk, x'] } := (sb.2 _ (Nat.ne_of_gt hel)).trans hT
    have new : ObjOk X.prog X.w (upd H s.heap.objs.size (.tup [.int (i : Nat), x])) h'' s.heap.objs.size (.tup [.int (i : Nat), x]) :=
      ⟨by show 2 ≤ sizeLine; decide, [.int i tk, x'], .cons ⟨_, rfl⟩ (.cons ru .nil), ⟨_, hT2, rfl, _, rfl⟩⟩
    have I1 : Inv X pins σ (upd H s.heap.objs.size (.tup [.int (i : Nat), x])) { s with heap := h'', toks := tk + 1 } :=
      I.turnedNew (ch := [e, it]) (fun b ob hb q => (sb.2 b (fun z => hb (by simp [z]))).trans (hk b ob (fun z => hb (by simp [z])) (fun z => hb (by simp [z])) q)) hf (Nat.le_refl _) new
    refine ⟨.ref s.heap.objs.size, _, I1, rfl, ⟨_, x, rfl, I.hok.fresh (Nat.le_refl _), rfl, fun ys hy => by rw [I.tuple_inj hy hq]; exact hx⟩, ⟨⟨x', ?_⟩, hst.1.at fun o q => (sb.2 it (Ne.symm hne)).trans q, hne⟩, fun b hb => ?_⟩
    · have e1 : ((i + 1 : Nat) : Int) = (i : Int) + 1 := by omega
      rw [e1]; exact he'
    · have hb' : b < s.heap.objs.size := by
        have e' : b = e ∨ b = it := by simpa using hb
        rcases e' with z | z
        · rw [z]; exact hel
        · rw [z]; exact hil
      rw [upd_ne (Nat.ne_of_lt hb')]
      exact (hf b hb).1
  done := by
    intro X hP hw hK hc i pins s σ H E I hf st hg
    subst hP hw hK
    obtain ⟨⟨old, he⟩, hit, hne⟩ := st
    obtain ⟨xs, hq, hx⟩ := hg
    obtain ⟨its, rv, p, hz⟩ := I.tuple hq
    obtain ⟨f0, f1, f2, f3, f4, f5⟩ := hf it (by simp)
    have hl := rv.length
    have hh : X.A.handled = none := I.ok.hd hc
    have hT : s.TypeIs (.ref e) "enumerate" := ⟨_, he, rfl⟩
    unfold pyNext
    refine wpAny_bind (wpAny_attempt (wpAny_callSpecial?_slot (name := Str.ofString "__next__") hT F.slot_enumerate_next
      (wpAny_call_entry F.slot_enumerate_next hT F.entry_enumerate_next ?_ (F.args_enumerate_next_1 _))))
    show wpAny _ _ (field (.ref e) 2 >>= _) _ _ _
    refine wpAny_bind (wpAny_field he rfl (x := .ref it) rfl ?_)
    refine wpAny_bind (wpAny_nextOf_tuple_end (by simp [hh]) hit p (by simp; omega) fun h' x he' hx' => ?_)
    obtain ⟨o, ho, hc'⟩ := hx'
    refine wpAny_bind (wpAny_isInstance (T := "StopIteration") (b := true) ⟨o, ho, hc'⟩ isSubtype_stop ?_)
    exact wpAny_pure ⟨rfl, I.turned (t' := s.toks) (fun b o hb q => he' b o hb q) f0 f1 f3 f4 f5⟩
  self := fun A i s Q E st h => let ⟨⟨_, he⟩, _⟩ := st; wpAny_pyIter_enum he h
def iEnumT (K : PySem.W.Frag) (ta : TA) : TI := fun σ H R => ta σ H fun vs H1 => ∃ a xs, vs = [.ref a] ∧ SqT K H1 a xs ∧ R (IteT K a) H1
theorem pi_enumT {X : Cx} {e : Expr} {ta : TA} {p pos tpos : Pos} {elts : List Expr} {kk : Nat} (hg : Gl X "enumerate") (hm : X.mg "enumerate" = none) (ha : PA X [e] ta) (hs : starEach [e] X.env = [(false, eval e X.env)] := by rfl) :
    PI X (.Tuple elts kk tpos) (.Call (.Name "enumerate" p) [e] [] pos) (iEnumT X.K ta) := by
  refine ⟨fun pins s σ H R I h => ?_⟩
  refine Call_ (ld_blt I hg hm boot_enumerate (PyProof.Rows.callWith_type1 (thn (ha.run pos pins s σ H _ I h) fun us s1 ⟨vs, H1, I1, r1, q1⟩ => ?_) hs rfl))
  obtain ⟨a, xs, ex, hq, q⟩ := q1
  subst ex
  cases r1 with
  | cons r rr =>
    cases rr
    cases r
    obtain ⟨its, rv, p', hz⟩ := I1.tuple hq
    have hal : a < s1.heap.objs.size := by obtain ⟨o, ho, _⟩ := id p'; exact Heap.lt_size ho
    refine call_enumT (show s1.heap.IsTuple a its.toArray from p') fun h' he hit hsz hk => wpAny_pyIter_enum he ?_
    have I2 : Inv X pins σ H1 { s1 with heap := h' } := I1.kept (t' := s1.toks) hk
    refine ⟨s1.heap.objs.size + 1, [s1.heap.objs.size + 1, s1.heap.objs.size], _, _, H1, rfl, I2, turn_enumT a (s1.heap.objs.size + 1) s1.heap.objs.size (Nat.ne_of_lt hal) (Nat.ne_of_lt (Nat.lt_succ_of_lt hal)), ⟨⟨.none, he⟩, hit, Nat.succ_ne_self _⟩, fun b hb => ?_, q⟩
    have e' : b = s1.heap.objs.size + 1 ∨ b = s1.heap.objs.size := by simpa using hb
    have hle : s1.heap.objs.size ≤ b := by
      rcases e' with z | z
      · rw [z]; exact Nat.le_add_right _ _
      · rw [z]; exact Nat.le_refl _
    exact I1.fpOk hle (I1.hok.fresh hle)
abbrev zmH1 (h : Heap) (l1 : Addr) : Heap := h.push { cls := .type "list_iterator", data := .fields #[.ref l1, .int 0 0] }
abbrev zmH2 (h : Heap) (l1 l2 : Addr) : Heap := (zmH1 h l1).push { cls := .type "tuple_iterator", data := .fields #[.ref l2, .int 0 0] }
abbrev zmH3 (h : Heap) (l1 l2 : Addr) : Heap := (zmH2 h l1 l2).push { cls := .type "tuple", data := .seq #[.ref h.objs.size, .ref (zmH1 h l1).objs.size] }
abbrev zmH4 (h : Heap) (l1 l2 : Addr) : Heap := (zmH3 h l1 l2).push { cls := .type "tuple", data := .seq #[.none, .none] }
abbrev zmH5 (h : Heap) (l1 l2 : Addr) : Heap := (zmH4 h l1 l2).push { cls := .type "zip", data := .fields #[.none, .bool false, .bool false, .ref (zmH2 h l1 l2).objs.size, .ref (zmH3 h l1 l2).objs.size] }
theorem meets_zm_new (l1 l2 : Addr) (xs ys : Array Value) :
    Meets (Builtin.«zip.__new__» ⟨[.type "zip", .ref l1, .ref l2], []⟩) (fun _ R s => s.heap.IsList l1 xs ∧ s.heap.IsTuple l2 ys ∧
      R (.ok (.ret (.ref (zmH4 s.heap l1 l2).objs.size))) { s with heap := zmH5 s.heap l1 l2 }) :=
  .of_wp fun prog w A R s h => by
    obtain ⟨hp, g, d, tk, os⟩ := s; obtain ⟨hl1, hl2, h⟩ := h
    have hsub := sub_zip
    have hL1 : Heap.IsList (Shared.heap ⟨hp, g, d, tk, os⟩) l1 xs := hl1
    have hL2 : Heap.IsTuple (Shared.heap ⟨hp.push { cls := .type "list_iterator", data := .fields #[.ref l1, .int 0 0] }, g, d, tk, os⟩) l2 ys := Heap.IsTuple.push hl2 _
    wp_walk using wpAny_pyIter_list hL1, wpAny_pyIter_tuple hL2
    exact ⟨_, rfl, h⟩
theorem call_zm {prog : Program} {w : World} {A : Around} {E : Value → Shared → Prop} {s : Shared} {l1 l2 : Addr} {xs ys : Array Value} {Q : Value → Shared → Prop} (hl1 : s.heap.IsList l1 xs) (hl2 : s.heap.IsTuple l2 ys)
    (h : ∀ h', IsZip h' (s.heap.objs.size + 4) (s.heap.objs.size + 2) (s.heap.objs.size + 3) .none → IsPair h' (s.heap.objs.size + 2) (.ref s.heap.objs.size) (.ref (s.heap.objs.size + 1)) →
      IsPair h' (s.heap.objs.size + 3) .none .none → h'.IsListIter s.heap.objs.size l1 0 → h'.IsTupleIter (s.heap.objs.size + 1) l2 0 → h'.objs.size = s.heap.objs.size + 5 →
      (∀ c o, s.heap.get? c = some o → h'.get? c = some o) → Q (.ref (s.heap.objs.size + 4)) { s with heap := h' }) :
    wpAny (model prog w) A (PySem.call (.type "zip") [.ref l1, .ref l2]) Q E s := by
  refine callType_new F.called_zip (by decide) (F.typeCall_zip_2 _ _) (F.newCall_zip_2 _ _) (fun obj => F.args_object_init_3 obj _ _) F.entry_zip_new
    (meets_zm_new l1 l2 xs ys) ⟨hl1, hl2, ?_⟩
  have z1 : (zmH1 s.heap l1).objs.size = s.heap.objs.size + 1 := Heap.size_push ..
  have z2 : (zmH2 s.heap l1 l2).objs.size = s.heap.objs.size + 2 := by rw [Heap.size_push, z1]
  have z3 : (zmH3 s.heap l1 l2).objs.size = s.heap.objs.size + 3 := by rw [Heap.size_push, z2]
  have z4 : (zmH4 s.heap l1 l2).objs.size = s.heap.objs.size + 4 := by rw [Heap.size_push, z3]
  have z5 : (zmH5 s.heap l1 l2).objs.size = s.heap.objs.size + 5 := by rw [Heap.size_push, z4]
  have g5 : (zmH5 s.heap l1 l2).get? (zmH4 s.heap l1 l2).objs.size = some _ := Heap.get?_push_size _ rfl
  have g4 : (zmH5 s.heap l1 l2).get? (zmH3 s.heap l1 l2).objs.size = some _ := Heap.get?_push_of_some _ (Heap.get?_push_size _ rfl)
  have g3 : (zmH5 s.heap l1 l2).get? (zmH2 s.heap l1 l2).objs.size = some _ := Heap.get?_push_of_some _ (Heap.get?_push_of_some _ (Heap.get?_push_size _ rfl))
  have g2 : (zmH5 s.heap l1 l2).get? (zmH1 s.heap l1).objs.size = some _ := Heap.get?_push_of_some _ (Heap.get?_push_of_some _ (Heap.get?_push_of_some _ (Heap.get?_push_size _ rfl)))
  have g1 : (zmH5 s.heap l1 l2).get? s.heap.objs.size = some _ := Heap.get?_push_of_some _ (Heap.get?_push_of_some _ (Heap.get?_push_of_some _ (Heap.get?_push_of_some _ (Heap.get?_push_size _ rfl))))
  show _ ∧ _
  rw [z2, z3, z4] at g5
  rw [z1, z2] at g3
  rw [z3] at g4
  rw [z1] at g2
  rw [z4]
  exact ⟨⟨_, g5, rfl⟩, h _ g5 g3 g4 ⟨_, g1, rfl, rfl⟩ ⟨_, g2, rfl, rfl⟩ z5 fun c o x =>
    Heap.get?_push_of_some _ (Heap.get?_push_of_some _ (Heap.get?_push_of_some _ (Heap.get?_push_of_some _ (Heap.get?_push_of_some _ x))))⟩
def ItzM (K : PySem.W.Frag) (a b : Addr) : It :=
  ⟨fun i H => ∃ (xs ys : List V) (x y : V), SqL K H a xs ∧ SqT K H b ys ∧ xs[i]? = some x ∧ ys[i]? = some y,
    fun i H v H' => ∃ T x y, v = .ref T ∧ H T = none ∧ H' = upd H T (.tup [x, y]) ∧ (∀ xs, SqL K H a xs → xs[i]? = some x) ∧ ∀ ys, SqT K H b ys → ys[i]? = some y,
    fun i H => ∃ xs ys : List V, SqL K H a xs ∧ SqT K H b ys ∧ (xs.length = i ∨ ys.length = i) ∧ i ≤ xs.length ∧ i ≤ ys.length⟩
theorem turn_zipM {P : Program} {w : World} {K : PySem.W.Frag} {elts : List Expr} {kk : Nat} {tpos : Pos} {a b z TI TO i1 i2 : Addr} (S : ZipSep2 z TI TO i1 i2 [i1, a] [i2, b]) (ha : a ≠ i1) (hb : b ≠ i2) :
    Turn P w K (.Tuple elts kk tpos) (ItzM K a b) [z, TI, TO, i1, i2] z (fun i h => IsZip h z TI TO .none ∧ IsPair h TI (.ref i1) (.ref i2) ∧ (∃ x y, IsPair h TO x y) ∧ h.IsListIter i1 a i ∧ h.IsTupleIter i2 b i) where
  mem := by simp
  obj := fun i h st c hc => by
    obtain ⟨hz, hTI, ⟨x, y, hTO⟩, ⟨o1, e1, _, d1⟩, ⟨o2, e2, _, d2⟩⟩ := st
    have e' : c = z ∨ c = TI ∨ c = TO ∨ c = i1 ∨ c = i2 := by simpa using hc
    rcases e' with q | q | q | q | q
    · rw [q]; exact ⟨_, hz, fun v q => nomatch q⟩
    · rw [q]; exact ⟨_, hTI, fun v q => nomatch q⟩
    · rw [q]; exact ⟨_, hTO, fun v q => nomatch q⟩
    · rw [q]; exact ⟨o1, e1, fun v q => by rw [d1] at q; cases q⟩
    · rw [q]; exact ⟨o2, e2, fun v q => by rw [d2] at q; cases q⟩
  keep := fun i h h' st k => by
    obtain ⟨hz, hTI, ⟨x, y, hTO⟩, h1, h2⟩ := st
    exact ⟨k z (by simp) _ hz, k TI (by simp) _ hTI, ⟨x, y, k TO (by simp) _ hTO⟩, h1.at fun o q => k i1 (by simp) o q, h2.at fun o q => k i2 (by simp) o q⟩
  item := by
    intro X hP hw hK hc i pins s σ H E I hf st hg
    subst hP hw hK
    obtain ⟨hz, hTI, ⟨x0, y0, hTO⟩, h1, h2⟩ := st
    obtain ⟨xs, ys, x, y, hqx, hqy, hx, hy⟩ := hg
    obtain ⟨its, rv, p, _⟩ := I.list hqx
    obtain ⟨its2, rv2, p2, _⟩ := I.tuple hqy
    obtain ⟨u, hu, ru⟩ := rv.get hx
    obtain ⟨u2, hu2, ru2⟩ := rv2.get hy
    have hh : X.A.in1.handled = none := by simp [I.ok.hd hc]
    have D1 := Draws.list (prog := X.prog) (w := X.w) (A := X.A.in1) hh i1 a ha its.toArray
    have D2 := Draws.tuple (prog := X.prog) (w := X.w) (A := X.A.in1) hh i2 b hb its2.toArray
    have hzl : z < s.heap.objs.size := Heap.lt_size hz
    have hl1 : i < its.toArray.size := by rw [List.size_toArray]; exact (List.getElem?_eq_some_iff.mp hu).1
    have hl2 : i < its2.toArray.size := by rw [List.size_toArray]; exact (List.getElem?_eq_some_iff.mp hu2).1
    refine wpAny_pyNext_zipD2_item S D1 D2 hz hTI hTO ⟨h1, p.isList⟩ ⟨h2, p2⟩ hl1 hl2 fun x1 x2 h' tk P1 P2 z' TO' s1 s2 hT hsz hk => ?_
    have e1 : x1 = u := by
      have h1 : its.toArray[i]? = some u := by simpa using hu
      exact Option.some.inj (P1.symm.trans h1)
    have e2 : x2 = u2 := by
      have h1 : its2.toArray[i]? = some u2 := by simpa using hu2
      exact Option.some.inj (P2.symm.trans h1)
    subst e1; subst e2
    refine ⟨_, rfl, wpAny_letOwnedTupleGo_zip (s := { s with heap := h', toks := tk }) z' fun h'' z'' sb => ?_⟩
    have hT2 : h''.get? s.heap.objs.size = some { cls := .type "tuple", data := .seq #[x1, x2] } := (sb.2 _ (Nat.ne_of_gt hzl)).trans hT
    have new : ObjOk X.prog X.w (upd H s.heap.objs.size (.tup [x, y])) h'' s.heap.objs.size (.tup [x, y]) :=
      ⟨by show 2 ≤ sizeLine; decide, [x1, x2], .cons ru (.cons ru2 .nil), ⟨_, hT2, rfl, _, rfl⟩⟩
    have I1 : Inv X pins σ (upd H s.heap.objs.size (.tup [x, y])) { s with heap := h'', toks := tk } :=
      I.turnedNew (t' := tk) (ch := [z, TI, TO, i1, i2]) (fun c o hb q => (sb.2 c (fun q' => hb (by simp [q']))).trans (hk c o (fun q' => hb (by simp [q'])) (fun q' => hb (by simp [q'])) (fun q' => hb (by simp [q'])) (fun q' => hb (by simp [q'])) q)) hf (Nat.le_refl _) new
    refine ⟨.ref s.heap.objs.size, _, I1, rfl, ⟨_, x, y, rfl, I.hok.fresh (Nat.le_refl _), rfl, fun l hl => by rw [I.list_inj hl hqx]; exact hx, fun l hl => by rw [I.tuple_inj hl hqy]; exact hy⟩, ⟨z'', ?_, ⟨x1, x2, ?_⟩, ?_, ?_⟩, fun c hcm => ?_⟩
    · exact (sb.2 _ S.TIz).trans (hk _ _ S.TIz S.TITO S.TIi1 S.TIi2 hTI)
    · exact (sb.2 _ S.TOz).trans TO'
    · exact s1.1.at fun o q => (sb.2 _ (Ne.symm S.zi1)).trans q
    · exact s2.1.at fun o q => (sb.2 _ (Ne.symm S.zi2)).trans q
    · have hlt : c < s.heap.objs.size := by
        have e' : c = z ∨ c = TI ∨ c = TO ∨ c = i1 ∨ c = i2 := by simpa using hcm
        rcases e' with q | q | q | q | q
        · rw [q]; exact hzl
        · rw [q]; exact Heap.lt_size hTI
        · rw [q]; exact Heap.lt_size hTO
        · rw [q]; obtain ⟨_, e1, _⟩ := h1; exact Heap.lt_size e1
        · rw [q]; obtain ⟨_, e2, _⟩ := h2; exact Heap.lt_size e2
      rw [upd_ne (Nat.ne_of_lt hlt)]
      exact (hf c hcm).1
  done := by
    intro X hP hw hK hc i pins s σ H E I hf st hg
    subst hP hw hK
    obtain ⟨hz, hTI, ⟨x0, y0, hTO⟩, h1, h2⟩ := st
    obtain ⟨xs, ys, hqx, hqy, hend, hle1, hle2⟩ := hg
    obtain ⟨its, rv, p, _⟩ := I.list hqx
    obtain ⟨its2, rv2, p2, _⟩ := I.tuple hqy
    have l1 := rv.length
    have l2 := rv2.length
    have hh : X.A.in1.handled = none := by simp [I.ok.hd hc]
    have D1 := Draws.list (prog := X.prog) (w := X.w) (A := X.A.in1) hh i1 a ha its.toArray
    have D2 := Draws.tuple (prog := X.prog) (w := X.w) (A := X.A.in1) hh i2 b hb its2.toArray
    have e1 : its.toArray.size = xs.length := by rw [List.size_toArray]; exact l1.symm
    have e2 : its2.toArray.size = ys.length := by rw [List.size_toArray]; exact l2.symm
    refine wpAny_pyNext_zipD2_end S D1 D2 hz hTI hTO ⟨h1, p.isList⟩ ⟨h2, p2⟩ (by rw [e1]; exact hle1) (by rw [e2]; exact hle2) (by rw [e1, e2]; exact hend.imp Eq.symm Eq.symm) fun h' tk hk => ⟨rfl, I.turnedL (t' := tk) (ch := [z, TI, TO, i1, i2]) (fun c o hb q =>
      hk c o (fun q' => hb (by simp [q'])) (fun q' => hb (by simp [q'])) (fun q' => hb (by simp [q'])) (fun q' => hb (by simp [q'])) q) hf⟩
  self := fun A i s Q E st h => wpAny_pyIter_zip st.1 h
theorem notin2 {x a b : Nat} (h1 : x ≠ a) (h2 : x ≠ b) : x ∉ [a, b] := by simp [h1, h2]
theorem sep_nat (n a b : Nat) (h1 : a < n) (h2 : b < n) : ZipSep2 (n + 4) (n + 2) (n + 3) n (n + 1) [n, a] [n + 1, b] where
  TIz := (by omega : (n + 2 : Nat) ≠ n + 4)
  TOz := (by omega : (n + 3 : Nat) ≠ n + 4)
  TITO := (by omega : (n + 2 : Nat) ≠ n + 3)
  TIi1 := (by omega : (n + 2 : Nat) ≠ n)
  mem1 := List.mem_cons_self
  zf1 := notin2 (by omega) (by omega)
  Tf1 := notin2 (by omega) (by omega)
  TIi2 := (by omega : (n + 2 : Nat) ≠ n + 1)
  mem2 := List.mem_cons_self
  zf2 := notin2 (by omega) (by omega)
  Tf2 := notin2 (by omega) (by omega)
  sep1_2 := notin2 (by omega) (by omega)
  sep2_1 := notin2 (by omega) (by omega)
def iZipM (K : PySem.W.Frag) (ta : TA) : TI := fun σ H R => ta σ H fun vs H1 => ∃ a b xs ys, vs = [.ref a, .ref b] ∧ SqL K H1 a xs ∧ SqT K H1 b ys ∧ R (ItzM K a b) H1
theorem pi_zipM {X : Cx} {e e2 : Expr} {ta : TA} {p pos tpos : Pos} {elts : List Expr} {kk : Nat} (hg : Gl X "zip") (hm : X.mg "zip" = none) (ha : PA X [e, e2] ta)
    (hs : starEach [e, e2] X.env = (false, eval e X.env) :: starEach [e2] X.env := by rfl) (hpl : (backTo pos (starEach [e2] X.env)).any (·.1) = false := by rfl) :
    PI X (.Tuple elts kk tpos) (.Call (.Name "zip" p) [e, e2] [] pos) (iZipM X.K ta) := by
  refine ⟨fun pins s σ H R I h => ?_⟩
  refine Call_ (ld_blt I hg hm PyProof.Rows.boot_zip (PyProof.Rows.callWith_type1 (thn (ha.run pos pins s σ H _ I h) fun us s1 ⟨vs, H1, I1, r1, q1⟩ => ?_) hs hpl))
  obtain ⟨a, b, xs, ys, ex, hqx, hqy, q⟩ := q1
  subst ex
  cases r1 with
  | cons r rr =>
    cases rr with
    | cons r' rr =>
      cases rr
      cases r
      cases r'
      have fresh5 : ∀ c, c ∈ [s1.heap.objs.size + 4, s1.heap.objs.size + 2, s1.heap.objs.size + 3, s1.heap.objs.size, s1.heap.objs.size + 1] → FpOk X pins H1 c := fun c hcm => by
        have e' : c = s1.heap.objs.size + 4 ∨ c = s1.heap.objs.size + 2 ∨ c = s1.heap.objs.size + 3 ∨ c = s1.heap.objs.size ∨ c = s1.heap.objs.size + 1 := by simpa using hcm
        have hle : s1.heap.objs.size ≤ c := by
          rcases e' with z | z | z | z | z
          · rw [z]; exact Nat.le_add_right _ _
          · rw [z]; exact Nat.le_add_right _ _
          · rw [z]; exact Nat.le_add_right _ _
          · rw [z]; exact Nat.le_refl _
          · rw [z]; exact Nat.le_add_right _ _
        exact I1.fpOk hle (I1.hok.fresh hle)
      obtain ⟨its, rv, p1, _⟩ := I1.list hqx
      obtain ⟨its2, rv2, p2, _⟩ := I1.tuple hqy
      have hal : a < s1.heap.objs.size := p1.lt
      have hbl : b < s1.heap.objs.size := by obtain ⟨o, ho, _⟩ := id p2; exact Heap.lt_size ho
      generalize hn : s1.heap.objs.size = n at *
      have S := sep_nat n a b hal hbl
      refine call_zm p1.isList (show s1.heap.IsTuple b its2.toArray from p2) fun h' hz hTI hTO h1 h2 hsz hk => wpAny_pyIter_zip hz ?_
      rw [hn] at hz hTI hTO h1 h2 ⊢
      have I2 : Inv X pins σ H1 { s1 with heap := h' } := I1.kept (t' := s1.toks) hk
      exact ⟨n + 4, [n + 4, n + 2, n + 3, n, n + 1], _, _, H1, rfl, I2, turn_zipM S (Nat.ne_of_lt hal) (Nat.ne_of_lt (Nat.lt_succ_of_lt hbl)), ⟨hz, hTI, ⟨_, _, hTO⟩, h1, h2⟩, fresh5, q⟩
abbrev znH1 (h : Heap) (l1 : Addr) : Heap := h.push { cls := .type "tuple_iterator", data := .fields #[.ref l1, .int 0 0] }
abbrev znH2 (h : Heap) (l1 l2 : Addr) : Heap := (znH1 h l1).push { cls := .type "list_iterator", data := .fields #[.ref l2, .int 0 0] }
abbrev znH3 (h : Heap) (l1 l2 : Addr) : Heap := (znH2 h l1 l2).push { cls := .type "tuple", data := .seq #[.ref h.objs.size, .ref (znH1 h l1).objs.size] }
abbrev znH4 (h : Heap) (l1 l2 : Addr) : Heap := (znH3 h l1 l2).push { cls := .type "tuple", data := .seq #[.none, .none] }
abbrev znH5 (h : Heap) (l1 l2 : Addr) : Heap := (znH4 h l1 l2).push { cls := .type "zip", data := .fields #[.none, .bool false, .bool false, .ref (znH2 h l1 l2).objs.size, .ref (znH3 h l1 l2).objs.size] }
theorem meets_zn_new (l1 l2 : Addr) (xs ys : Array Value) :
    Meets (Builtin.«zip.__new__» ⟨[.type "zip", .ref l1, .ref l2], []⟩) (fun _ R s => s.heap.IsTuple l1 xs ∧ s.heap.IsList l2 ys ∧
      R (.ok (.ret (.ref (znH4 s.heap l1 l2).objs.size))) { s with heap := znH5 s.heap l1 l2 }) :=
  .of_wp fun prog w A R s h => by
    obtain ⟨hp, g, d, tk, os⟩ := s; obtain ⟨hl1, hl2, h⟩ := h
    have hsub := sub_zip
    have hL1 : Heap.IsTuple (Shared.heap ⟨hp, g, d, tk, os⟩) l1 xs := hl1
    have hL2 : Heap.IsList (Shared.heap ⟨hp.push { cls := .type "tuple_iterator", data := .fields #[.ref l1, .int 0 0] }, g, d, tk, os⟩) l2 ys := Heap.IsList.push hl2 _
    wp_walk using wpAny_pyIter_tuple hL1, wpAny_pyIter_list hL2
    exact ⟨_, rfl, h⟩
theorem call_zn {prog : Program} {w : World} {A : Around} {E : Value → Shared → Prop} {s : Shared} {l1 l2 : Addr} {xs ys : Array Value} {Q : Value → Shared → Prop} (hl1 : s.heap.IsTuple l1 xs) (hl2 : s.heap.IsList l2 ys)
    (h : ∀ h', IsZip h' (s.heap.objs.size + 4) (s.heap.objs.size + 2) (s.heap.objs.size + 3) .none → IsPair h' (s.heap.objs.size + 2) (.ref s.heap.objs.size) (.ref (s.heap.objs.size + 1)) →
      IsPair h' (s.heap.objs.size + 3) .none .none → h'.IsTupleIter s.heap.objs.size l1 0 → h'.IsListIter (s.heap.objs.size + 1) l2 0 → h'.objs.size = s.heap.objs.size + 5 →
      (∀ c o, s.heap.get? c = some o → h'.get? c = some o) → Q (.ref (s.heap.objs.size + 4)) { s with heap := h' }) :
    wpAny (model prog w) A (PySem.call (.type "zip") [.ref l1, .ref l2]) Q E s := by
  refine callType_new F.called_zip (by decide) (F.typeCall_zip_2 _ _) (F.newCall_zip_2 _ _) (fun obj => F.args_object_init_3 obj _ _) F.entry_zip_new
    (meets_zn_new l1 l2 xs ys) ⟨hl1, hl2, ?_⟩
  have z1 : (znH1 s.heap l1).objs.size = s.heap.objs.size + 1 := Heap.size_push ..
  have z2 : (znH2 s.heap l1 l2).objs.size = s.heap.objs.size + 2 := by rw [Heap.size_push, z1]
  have z3 : (znH3 s.heap l1 l2).objs.size = s.heap.objs.size + 3 := by rw [Heap.size_push, z2]
  have z4 : (znH4 s.heap l1 l2).objs.size = s.heap.objs.size + 4 := by rw [Heap.size_push, z3]
  have z5 : (znH5 s.heap l1 l2).objs.size = s.heap.objs.size + 5 := by rw [Heap.size_push, z4]
  have g5 : (znH5 s.heap l1 l2).get? (znH4 s.heap l1 l2).objs.size = some _ := Heap.get?_push_size _ rfl
  have g4 : (znH5 s.heap l1 l2).get? (znH3 s.heap l1 l2).objs.size = some _ := Heap.get?_push_of_some _ (Heap.get?_push_size _ rfl)
  have g3 : (znH5 s.heap l1 l2).get? (znH2 s.heap l1 l2).objs.size = some _ := Heap.get?_push_of_some _ (Heap.get?_push_of_some _ (Heap.get?_push_size _ rfl))
  have g2 : (znH5 s.heap l1 l2).get? (znH1 s.heap l1).objs.size = some _ := Heap.get?_push_of_some _ (Heap.get?_push_of_some _ (Heap.get?_push_of_some _ (Heap.get?_push_size _ rfl)))
  have g1 : (znH5 s.heap l1 l2).get? s.heap.objs.size = some _ := Heap.get?_push_of_some _ (Heap.get?_push_of_some _ (Heap.get?_push_of_some _ (Heap.get?_push_of_some _ (Heap.get?_push_size _ rfl))))
  show _ ∧ _
  rw [z2, z3, z4] at g5
  rw [z1, z2] at g3
  rw [z3] at g4
  rw [z1] at g2
  rw [z4]
  exact ⟨⟨_, g5, rfl⟩, h _ g5 g3 g4 ⟨_, g1, rfl, rfl⟩ ⟨_, g2, rfl, rfl⟩ z5 fun c o x =>
    Heap.get?_push_of_some _ (Heap.get?_push_of_some _ (Heap.get?_push_of_some _ (Heap.get?_push_of_some _ (Heap.get?_push_of_some _ x))))⟩
def ItzN (K : PySem.W.Frag) (a b : Addr) : It :=
  ⟨fun i H => ∃ (xs ys : List V) (x y : V), SqT K H a xs ∧ SqL K H b ys ∧ xs[i]? = some x ∧ ys[i]? = some y,
    fun i H v H' => ∃ T x y, v = .ref T ∧ H T = none ∧ H' = upd H T (.tup [x, y]) ∧ (∀ xs, SqT K H a xs → xs[i]? = some x) ∧ ∀ ys, SqL K H b ys → ys[i]? = some y,
    fun i H => ∃ xs ys : List V, SqT K H a xs ∧ SqL K H b ys ∧ (xs.length = i ∨ ys.length = i) ∧ i ≤ xs.length ∧ i ≤ ys.length⟩
theorem turn_zipN {P : Program} {w : World} {K : PySem.W.Frag} {elts : List Expr} {kk : Nat} {tpos : Pos} {a b z TI TO i1 i2 : Addr} (S : ZipSep2 z TI TO i1 i2 [i1, a] [i2, b]) (ha : a ≠ i1) (hb : b ≠ i2) :
    Turn P w K (.Tuple elts kk tpos) (ItzN K a b) [z, TI, TO, i1, i2] z (fun i h => IsZip h z TI TO .none ∧ IsPair h TI (.ref i1) (.ref i2) ∧ (∃ x y, IsPair h TO x y) ∧ h.IsTupleIter i1 a i ∧ h.IsListIter i2 b i) where
  mem := by simp
  obj := fun i h st c hc => by
    obtain ⟨hz, hTI, ⟨x, y, hTO⟩, ⟨o1, e1, _, d1⟩, ⟨o2, e2, _, d2⟩⟩ := st
    have e' : c = z ∨ c = TI ∨ c = TO ∨ c = i1 ∨ c = i2 := by simpa using hc
    rcases e' with q | q | q | q | q
    · rw [q]; exact ⟨_, hz, fun v q => nomatch q⟩
    · rw [q]; exact ⟨_, hTI, fun v q => nomatch q⟩
    · rw [q]; exact ⟨_, hTO, fun v q => nomatch q⟩
    · rw [q]; exact ⟨o1, e1, fun v q => by rw [d1] at q; cases q⟩
    · rw [q]; exact ⟨o2, e2, fun v q => by rw [d2] at q; cases q⟩
  keep := fun i h h' st k => by
    obtain ⟨hz, hTI, ⟨x, y, hTO⟩, h1, h2⟩ := st
    exact ⟨k z (by simp) _ hz, k TI (by simp) _ hTI, ⟨x, y, k TO (by simp) _ hTO⟩, h1.at fun o q => k i1 (by simp) o q, h2.at fun o q => k i2 (by simp) o q⟩
  item := by
    intro X hP hw hK hc i pins s σ H E I hf st hg
    subst hP hw hK
    obtain ⟨hz, hTI, ⟨x0, y0, hTO⟩, h1, h2⟩ := st
    obtain ⟨xs, ys, x, y, hqx, hqy, hx, hy⟩ := hg
    obtain ⟨its, rv, p, _⟩ := I.tuple hqx
    obtain ⟨its2, rv2, p2, _⟩ := I.list hqy
    obtain ⟨u, hu, ru⟩ := rv.get hx
    obtain ⟨u2, hu2, ru2⟩ := rv2.get hy
    have hh : X.A.in1.handled = none := by simp [I.ok.hd hc]
    have D1 := Draws.tuple (prog := X.prog) (w := X.w) (A := X.A.in1) hh i1 a ha its.toArray
    have D2 := Draws.list (prog := X.prog) (w := X.w) (A := X.A.in1) hh i2 b hb its2.toArray
    have hzl : z < s.heap.objs.size := Heap.lt_size hz
    have hl1 : i < its.toArray.size := by rw [List.size_toArray]; exact (List.getElem?_eq_some_iff.mp hu).1
    have hl2 : i < its2.toArray.size := by rw [List.size_toArray]; exact (List.getElem?_eq_some_iff.mp hu2).1
    refine wpAny_pyNext_zipD2_item S D1 D2 hz hTI hTO ⟨h1, p⟩ ⟨h2, p2.isList⟩ hl1 hl2 fun x1 x2 h' tk P1 P2 z' TO' s1 s2 hT hsz hk => ?_
    have e1 : x1 = u := by
      have h1 : its.toArray[i]? = some u := by simpa using hu
      exact Option.some.inj (P1.symm.trans h1)
    have e2 : x2 = u2 := by
      have h1 : its2.toArray[i]? = some u2 := by simpa using hu2
      exact Option.some.inj (P2.symm.trans h1)
    subst e1; subst e2
    refine ⟨_, rfl, wpAny_letOwnedTupleGo_zip (s := { s with heap := h', toks := tk }) z' fun h'' z'' sb => ?_⟩
    have hT2 : h''.get? s.heap.objs.size = some { cls := .type "tuple", data := .seq #[x1, x2] } := (sb.2 _ (Nat.ne_of_gt hzl)).trans hT
    have new : ObjOk X.prog X.w (upd H s.heap.objs.size (.tup [x, y])) h'' s.heap.objs.size (.tup [x, y]) :=
      ⟨by show 2 ≤ sizeLine; decide, [x1, x2], .cons ru (.cons ru2 .nil), ⟨_, hT2, rfl, _, rfl⟩⟩
    have I1 : Inv X pins σ (upd H s.heap.objs.size (.tup [x, y])) { s with heap := h'', toks := tk } :=
      I.turnedNew (t' := tk) (ch := [z, TI, TO, i1, i2]) (fun c o hb q => (sb.2 c (fun q' => hb (by simp [q']))).trans (hk c o (fun q' => hb (by simp [q'])) (fun q' => hb (by simp [q'])) (fun q' => hb (by simp [q'])) (fun q' => hb (by simp [q'])) q)) hf (Nat.le_refl _) new
    refine ⟨.ref s.heap.objs.size, _, I1, rfl, ⟨_, x, y, rfl, I.hok.fresh (Nat.le_refl _), rfl, fun l hl => by rw [I.tuple_inj hl hqx]; exact hx, fun l hl => by rw [I.list_inj hl hqy]; exact hy⟩, ⟨z'', ?_, ⟨x1, x2, ?_⟩, ?_, ?_⟩, fun c hcm => ?_⟩
    · exact (sb.2 _ S.TIz).trans (hk _ _ S.TIz S.TITO S.TIi1 S.TIi2 hTI)
    · exact (sb.2 _ S.TOz).trans TO'
    · exact s1.1.at fun o q => (sb.2 _ (Ne.symm S.zi1)).trans q
    · exact s2.1.at fun o q => (sb.2 _ (Ne.symm S.zi2)).trans q
    · have hlt : c < s.heap.objs.size := by
        have e' : c = z ∨ c = TI ∨ c = TO ∨ c = i1 ∨ c = i2 := by simpa using hcm
        rcases e' with q | q | q | q | q
        · rw [q]; exact hzl
        · rw [q]; exact Heap.lt_size hTI
        · rw [q]; exact Heap.lt_size hTO
        · rw [q]; obtain ⟨_, e1, _⟩ := h1; exact Heap.lt_size e1
        · rw [q]; obtain ⟨_, e2, _⟩ := h2; exact Heap.lt_size e2
      rw [upd_ne (Nat.ne_of_lt hlt)]
      exact (hf c hcm).1
  done := by
    intro X hP hw hK hc i pins s σ H E I hf st hg
    subst hP hw hK
    obtain ⟨hz, hTI, ⟨x0, y0, hTO⟩, h1, h2⟩ := st
    obtain ⟨xs, ys, hqx, hqy, hend, hle1, hle2⟩ := hg
    obtain ⟨its, rv, p, _⟩ := I.tuple hqx
    obtain ⟨its2, rv2, p2, _⟩ := I.list hqy
    have l1 := rv.length
    have l2 := rv2.length
    have hh : X.A.in1.handled = none := by simp [I.ok.hd hc]
    have D1 := Draws.tuple (prog := X.prog) (w := X.w) (A := X.A.in1) hh i1 a ha its.toArray
    have D2 := Draws.list (prog := X.prog) (w := X.w) (A := X.A.in1) hh i2 b hb its2.toArray
    have e1 : its.toArray.size = xs.length := by rw [List.size_toArray]; exact l1.symm
    have e2 : its2.toArray.size = ys.length := by rw [List.size_toArray]; exact l2.symm
    refine wpAny_pyNext_zipD2_end S D1 D2 hz hTI hTO ⟨h1, p⟩ ⟨h2, p2.isList⟩ (by rw [e1]; exact hle1) (by rw [e2]; exact hle2) (by rw [e1, e2]; exact hend.imp Eq.symm Eq.symm) fun h' tk hk => ⟨rfl, I.turnedL (t' := tk) (ch := [z, TI, TO, i1, i2]) (fun c o hb q =>
      hk c o (fun q' => hb (by simp [q'])) (fun q' => hb (by simp [q'])) (fun q' => hb (by simp [q'])) (fun q' => hb (by simp [q'])) q) hf⟩
  self := fun A i s Q E st h => wpAny_pyIter_zip st.1 h
def iZipN (K : PySem.W.Frag) (ta : TA) : TI := fun σ H R => ta σ H fun vs H1 => ∃ a b xs ys, vs = [.ref a, .ref b] ∧ SqT K H1 a xs ∧ SqL K H1 b ys ∧ R (ItzN K a b) H1
theorem pi_zipN {X : Cx} {e e2 : Expr} {ta : TA} {p pos tpos : Pos} {elts : List Expr} {kk : Nat} (hg : Gl X "zip") (hm : X.mg "zip" = none) (ha : PA X [e, e2] ta)
    (hs : starEach [e, e2] X.env = (false, eval e X.env) :: starEach [e2] X.env := by rfl) (hpl : (backTo pos (starEach [e2] X.env)).any (·.1) = false := by rfl) :
    PI X (.Tuple elts kk tpos) (.Call (.Name "zip" p) [e, e2] [] pos) (iZipN X.K ta) := by
  refine ⟨fun pins s σ H R I h => ?_⟩
  refine Call_ (ld_blt I hg hm PyProof.Rows.boot_zip (PyProof.Rows.callWith_type1 (thn (ha.run pos pins s σ H _ I h) fun us s1 ⟨vs, H1, I1, r1, q1⟩ => ?_) hs hpl))
  obtain ⟨a, b, xs, ys, ex, hqx, hqy, q⟩ := q1
  subst ex
  cases r1 with
  | cons r rr =>
    cases rr with
    | cons r' rr =>
      cases rr
      cases r
      cases r'
      have fresh5 : ∀ c, c ∈ [s1.heap.objs.size + 4, s1.heap.objs.size + 2, s1.heap.objs.size + 3, s1.heap.objs.size, s1.heap.objs.size + 1] → FpOk X pins H1 c := fun c hcm => by
        have e' : c = s1.heap.objs.size + 4 ∨ c = s1.heap.objs.size + 2 ∨ c = s1.heap.objs.size + 3 ∨ c = s1.heap.objs.size ∨ c = s1.heap.objs.size + 1 := by simpa using hcm
        have hle : s1.heap.objs.size ≤ c := by
          rcases e' with z | z | z | z | z
          · rw [z]; exact Nat.le_add_right _ _
          · rw [z]; exact Nat.le_add_right _ _
          · rw [z]; exact Nat.le_add_right _ _
          · rw [z]; exact Nat.le_refl _
          · rw [z]; exact Nat.le_add_right _ _
        exact I1.fpOk hle (I1.hok.fresh hle)
      obtain ⟨its, rv, p1, _⟩ := I1.tuple hqx
      obtain ⟨its2, rv2, p2, _⟩ := I1.list hqy
      have hal : a < s1.heap.objs.size := by obtain ⟨o, ho, _⟩ := id p1; exact Heap.lt_size ho
      have hbl : b < s1.heap.objs.size := p2.lt
      generalize hn : s1.heap.objs.size = n at *
      have S := sep_nat n a b hal hbl
      refine call_zn (show s1.heap.IsTuple a its.toArray from p1) p2.isList fun h' hz hTI hTO h1 h2 hsz hk => wpAny_pyIter_zip hz ?_
      rw [hn] at hz hTI hTO h1 h2 ⊢
      have I2 : Inv X pins σ H1 { s1 with heap := h' } := I1.kept (t' := s1.toks) hk
      exact ⟨n + 4, [n + 4, n + 2, n + 3, n, n + 1], _, _, H1, rfl, I2, turn_zipN S (Nat.ne_of_lt hal) (Nat.ne_of_lt (Nat.lt_succ_of_lt hbl)), ⟨hz, hTI, ⟨_, _, hTO⟩, h1, h2⟩, fresh5, q⟩
section
variable {X : Cx} {cs : Nat → Option Addr} {e e1 e2 : Expr} {es : List Expr} {f f1 f2 : Env → Sto → Option (Val × Sto)} {g : Env → Sto → Option (List Val × Sto)} {pos : Pos}
theorem enumL_get : ∀ {ds : List D} {n i : Nat} {d : D}, (enumL n ds)[i]? = some d → ∃ x, ds[i]? = some x ∧ d = .tup [.int ((n + i : Nat) : Int), x]
  | [], n, i, d, h => by simp [enumL] at h
  | x :: ds, n, 0, d, h => by
    simp only [enumL, List.getElem?_cons_zero, Option.some.injEq] at h
    exact ⟨x, rfl, h.symm⟩
  | x :: ds, n, i + 1, d, h => by
    simp only [enumL, List.getElem?_cons_succ] at h
    obtain ⟨y, h1, h2⟩ := enumL_get h
    exact ⟨y, by simpa using h1, by rw [h2]; congr 3; omega⟩
theorem enumL_len : ∀ {ds : List D} {n : Nat}, (enumL n ds).length = ds.length
  | [], n => rfl
  | x :: ds, n => by simp only [enumL, List.length_cons, enumL_len]
theorem zipL_get : ∀ {xs ys : List D} {i : Nat} {d : D}, (zipL xs ys)[i]? = some d → ∃ x y, xs[i]? = some x ∧ ys[i]? = some y ∧ d = .tup [x, y]
  | [], _, i, d, h => by simp [zipL] at h
  | _ :: _, [], i, d, h => by simp [zipL] at h
  | x :: xs, y :: ys, 0, d, h => by
    simp only [zipL, List.getElem?_cons_zero, Option.some.injEq] at h
    exact ⟨x, y, rfl, rfl, h.symm⟩
  | x :: xs, y :: ys, i + 1, d, h => by
    simp only [zipL, List.getElem?_cons_succ] at h
    obtain ⟨a, b, h1, h2, h3⟩ := zipL_get h
    exact ⟨a, b, by simpa using h1, by simpa using h2, h3⟩
theorem zipL_len : ∀ {xs ys : List D}, (zipL xs ys).length = min xs.length ys.length
  | [], _ => by simp [zipL]
  | _ :: _, [] => by simp [zipL]
  | x :: xs, y :: ys => by simp only [zipL, List.length_cons, zipL_len]; omega
theorem pair_yld {K : PySem.W.Frag} {F2 B H2 : Hp} {as2 : List Addr} {st2 : Sto} (r : RSt K cs F2 B as2 st2 H2) {T : Addr} (hT : H2 T = none) {d1 d2 : D} {u1 u2 : V} (q1 : Den K F2 d1 u1) (q2 : Den K F2 d2 u2) (n : prs [d1, d2] = false) :
    ∃ F3, RSt K cs F3 B as2 st2 (upd H2 T (.tup [u1, u2])) ∧ Ext F2 as2 H2 F3 as2 (upd H2 T (.tup [u1, u2])) ∧ Den K F3 (.tup [d1, d2]) (.ref T) :=
  let ⟨a, x⟩ := r.frozen (o := .tup [u1, u2]) hT
  ⟨_, a, x, Den.tup_iff.mpr ⟨T, _, rfl, .plain upd_same n, Dens.cons.mpr ⟨_, _, rfl, Den.mono x.ff _ _ q1, Dens.one (Den.mono x.ff _ _ q2)⟩⟩⟩
theorem yields_e {F B : Hp} {as : List Addr} {G : Sto → Prop} {p : Addr} {us : List V} {ds : List D} (hl : ∀ {F2 as2 st2 H2}, (∀ a o, F a = some o → F2 a = some o) → as <+: as2 → G st2 → RSt X.K cs F2 B as2 st2 H2 → SqL X.K H2 p us) (hd : Dens X.K F ds us) : Yields X.K cs F B as G (Ite X.K p) (enumL 0 ds) where
  stop := fun i hF hp' hG r h => ⟨us, hl hF hp' hG r, by rw [hd.length]; rw [enumL_len] at h; exact Nat.le_of_eq h⟩
  go := fun i d hF hp' hG r h => let ⟨x, hx, _⟩ := enumL_get h; let ⟨u, e, _⟩ := hd.get hx; ⟨us, u, hl hF hp' hG r, e⟩
  yld := fun i d x H3 hF hp' hG r h y => by
    obtain ⟨T, x', rfl, hT, rfl, y2⟩ := y
    obtain ⟨d0, hx, rfl⟩ := enumL_get h
    obtain ⟨u, e, q⟩ := hd.get hx
    have := y2 us (hl hF hp' hG r)
    rw [e] at this; cases this
    rw [Nat.zero_add]
    exact pair_yld r hT (Den.int_iff.mpr rfl) (Den.mono hF _ _ q) rfl
theorem yields_eT {F B : Hp} {as : List Addr} {G : Sto → Prop} {p : Addr} {us : List V} {ds : List D} (hl : ∀ {F2 as2 st2 H2}, (∀ a o, F a = some o → F2 a = some o) → as <+: as2 → G st2 → RSt X.K cs F2 B as2 st2 H2 → SqT X.K H2 p us) (hd : Dens X.K F ds us) : Yields X.K cs F B as G (IteT X.K p) (enumL 0 ds) where
  stop := fun i hF hp' hG r h => ⟨us, hl hF hp' hG r, by rw [hd.length]; rw [enumL_len] at h; exact Nat.le_of_eq h⟩
  go := fun i d hF hp' hG r h => let ⟨x, hx, _⟩ := enumL_get h; let ⟨u, e, _⟩ := hd.get hx; ⟨us, u, hl hF hp' hG r, e⟩
  yld := fun i d x H3 hF hp' hG r h y => by
    obtain ⟨T, x', rfl, hT, rfl, y2⟩ := y
    obtain ⟨d0, hx, rfl⟩ := enumL_get h
    obtain ⟨u, e, q⟩ := hd.get hx
    have := y2 us (hl hF hp' hG r)
    rw [e] at this; cases this
    rw [Nat.zero_add]
    exact pair_yld r hT (Den.int_iff.mpr rfl) (Den.mono hF _ _ q) rfl
theorem nprs_at {xs ys : List D} (n : (zipL xs ys).all nprs = true) {i : Nat} {d1 d2 : D} (h : (zipL xs ys)[i]? = some (.tup [d1, d2])) : prs [d1, d2] = false := by
  have := List.all_eq_true.mp n _ (List.mem_of_getElem? h)
  simpa [nprs] using this
theorem zipG_some {xs ys ds : List D} (h : zipG xs ys = some ds) : ds = zipL xs ys ∧ (zipL xs ys).all nprs = true := by
  unfold zipG at h
  split at h
  · rename_i hn
    cases h
    exact ⟨rfl, hn⟩
  · cases h
theorem yields_z {F B : Hp} {as : List Addr} {G : Sto → Prop} {p q : Addr} {us vs : List V} {ds es : List D} (hl : ∀ {F2 as2 st2 H2}, (∀ a o, F a = some o → F2 a = some o) → as <+: as2 → G st2 → RSt X.K cs F2 B as2 st2 H2 → SqL X.K H2 p us) (hd : Dens X.K F ds us)
    (hk : ∀ {F2 as2 st2 H2}, (∀ a o, F a = some o → F2 a = some o) → as <+: as2 → G st2 → RSt X.K cs F2 B as2 st2 H2 → SqL X.K H2 q vs) (he : Dens X.K F es vs) (n : (zipL ds es).all nprs = true) : Yields X.K cs F B as G (Itz X.K p q) (zipL ds es) where
  stop := fun i hF hp' hG r h => ⟨us, vs, hl hF hp' hG r, hk hF hp' hG r, by rw [hd.length, he.length]; rw [zipL_len] at h; omega⟩
  go := fun i d hF hp' hG r h => let ⟨x, y, hx, hy, _⟩ := zipL_get h; let ⟨u, e1, _⟩ := hd.get hx; let ⟨v, e2, _⟩ := he.get hy; ⟨us, vs, u, v, hl hF hp' hG r, hk hF hp' hG r, e1, e2⟩
  yld := fun i d x H3 hF hp' hG r h y => by
    obtain ⟨T, x', y', rfl, hT, rfl, y2, y3⟩ := y
    have h0 := h
    obtain ⟨d1, d2, hx, hy, rfl⟩ := zipL_get h
    obtain ⟨u, e1, q1⟩ := hd.get hx
    obtain ⟨v, e2, q2⟩ := he.get hy
    have := y2 us (hl hF hp' hG r)
    rw [e1] at this; cases this
    have := y3 vs (hk hF hp' hG r)
    rw [e2] at this; cases this
    exact pair_yld r hT (Den.mono hF _ _ q1) (Den.mono hF _ _ q2) (nprs_at n h0)
theorem yields_zT {F B : Hp} {as : List Addr} {G : Sto → Prop} {p q : Addr} {us vs : List V} {ds es : List D} (hl : ∀ {F2 as2 st2 H2}, (∀ a o, F a = some o → F2 a = some o) → as <+: as2 → G st2 → RSt X.K cs F2 B as2 st2 H2 → SqT X.K H2 p us) (hd : Dens X.K F ds us)
    (hk : ∀ {F2 as2 st2 H2}, (∀ a o, F a = some o → F2 a = some o) → as <+: as2 → G st2 → RSt X.K cs F2 B as2 st2 H2 → SqT X.K H2 q vs) (he : Dens X.K F es vs) (n : (zipL ds es).all nprs = true) : Yields X.K cs F B as G (RZ.ItzT X.K p q) (zipL ds es) where
  stop := fun i hF hp' hG r h => ⟨us, vs, hl hF hp' hG r, hk hF hp' hG r, by rw [hd.length, he.length]; rw [zipL_len] at h; omega⟩
  go := fun i d hF hp' hG r h => let ⟨x, y, hx, hy, _⟩ := zipL_get h; let ⟨u, e1, _⟩ := hd.get hx; let ⟨v, e2, _⟩ := he.get hy; ⟨us, vs, u, v, hl hF hp' hG r, hk hF hp' hG r, e1, e2⟩
  yld := fun i d x H3 hF hp' hG r h y => by
    obtain ⟨T, x', y', rfl, hT, rfl, y2, y3⟩ := y
    have h0 := h
    obtain ⟨d1, d2, hx, hy, rfl⟩ := zipL_get h
    obtain ⟨u, e1, q1⟩ := hd.get hx
    obtain ⟨v, e2, q2⟩ := he.get hy
    have := y2 us (hl hF hp' hG r)
    rw [e1] at this; cases this
    have := y3 vs (hk hF hp' hG r)
    rw [e2] at this; cases this
    exact pair_yld r hT (Den.mono hF _ _ q1) (Den.mono hF _ _ q2) (nprs_at n h0)
theorem yields_zM {F B : Hp} {as : List Addr} {G : Sto → Prop} {p q : Addr} {us vs : List V} {ds es : List D} (hl : ∀ {F2 as2 st2 H2}, (∀ a o, F a = some o → F2 a = some o) → as <+: as2 → G st2 → RSt X.K cs F2 B as2 st2 H2 → SqL X.K H2 p us) (hd : Dens X.K F ds us)
    (hk : ∀ {F2 as2 st2 H2}, (∀ a o, F a = some o → F2 a = some o) → as <+: as2 → G st2 → RSt X.K cs F2 B as2 st2 H2 → SqT X.K H2 q vs) (he : Dens X.K F es vs) (n : (zipL ds es).all nprs = true) : Yields X.K cs F B as G (ItzM X.K p q) (zipL ds es) where
  stop := fun i hF hp' hG r h => ⟨us, vs, hl hF hp' hG r, hk hF hp' hG r, by rw [hd.length, he.length]; rw [zipL_len] at h; omega⟩
  go := fun i d hF hp' hG r h => let ⟨x, y, hx, hy, _⟩ := zipL_get h; let ⟨u, e1, _⟩ := hd.get hx; let ⟨v, e2, _⟩ := he.get hy; ⟨us, vs, u, v, hl hF hp' hG r, hk hF hp' hG r, e1, e2⟩
  yld := fun i d x H3 hF hp' hG r h y => by
    obtain ⟨T, x', y', rfl, hT, rfl, y2, y3⟩ := y
    have h0 := h
    obtain ⟨d1, d2, hx, hy, rfl⟩ := zipL_get h
    obtain ⟨u, e1, q1⟩ := hd.get hx
    obtain ⟨v, e2, q2⟩ := he.get hy
    have := y2 us (hl hF hp' hG r)
    rw [e1] at this; cases this
    have := y3 vs (hk hF hp' hG r)
    rw [e2] at this; cases this
    exact pair_yld r hT (Den.mono hF _ _ q1) (Den.mono hF _ _ q2) (nprs_at n h0)
theorem yields_zN {F B : Hp} {as : List Addr} {G : Sto → Prop} {p q : Addr} {us vs : List V} {ds es : List D} (hl : ∀ {F2 as2 st2 H2}, (∀ a o, F a = some o → F2 a = some o) → as <+: as2 → G st2 → RSt X.K cs F2 B as2 st2 H2 → SqT X.K H2 p us) (hd : Dens X.K F ds us)
    (hk : ∀ {F2 as2 st2 H2}, (∀ a o, F a = some o → F2 a = some o) → as <+: as2 → G st2 → RSt X.K cs F2 B as2 st2 H2 → SqL X.K H2 q vs) (he : Dens X.K F es vs) (n : (zipL ds es).all nprs = true) : Yields X.K cs F B as G (ItzN X.K p q) (zipL ds es) where
  stop := fun i hF hp' hG r h => ⟨us, vs, hl hF hp' hG r, hk hF hp' hG r, by rw [hd.length, he.length]; rw [zipL_len] at h; omega⟩
  go := fun i d hF hp' hG r h => let ⟨x, y, hx, hy, _⟩ := zipL_get h; let ⟨u, e1, _⟩ := hd.get hx; let ⟨v, e2, _⟩ := he.get hy; ⟨us, vs, u, v, hl hF hp' hG r, hk hF hp' hG r, e1, e2⟩
  yld := fun i d x H3 hF hp' hG r h y => by
    obtain ⟨T, x', y', rfl, hT, rfl, y2, y3⟩ := y
    have h0 := h
    obtain ⟨d1, d2, hx, hy, rfl⟩ := zipL_get h
    obtain ⟨u, e1, q1⟩ := hd.get hx
    obtain ⟨v, e2, q2⟩ := he.get hy
    have := y2 us (hl hF hp' hG r)
    rw [e1] at this; cases this
    have := y3 vs (hk hF hp' hG r)
    rw [e2] at this; cases this
    exact pair_yld r hT (Den.mono hF _ _ q1) (Den.mono hF _ _ q2) (nprs_at n h0)
theorem seqL_of {v : Val} {ds : List D} (h : itLl v = some ds) {F B H : Hp} {as : List Addr} {st : Sto} {u : V} (q : VOk X.K F B as v u) : ∃ p us, u = .ref p ∧ (∀ {F2 : Hp} {as2 : List Addr} {st2 : Sto} {H2 : Hp}, (∀ a o, F a = some o → F2 a = some o) → RSt X.K cs F2 B as2 st2 H2 → SqL X.K H2 p us) ∧ Dens X.K F ds us := by
  unfold itLl at h
  split at h
  · cases h
    obtain ⟨p, us, rfl, hp, hq⟩ := Den.lst_iff.mp q
    exact ⟨p, us, rfl, fun hF r2 => .of (r2.fh _ _ (hF _ _ hp)), hq⟩
  · cases h
    obtain ⟨p, rfl, hp⟩ := Den.scr_iff.mp q
    exact ⟨p, _, rfl, fun hF r2 => sqL_mono r2.fh (sqL_mono hF hp), scrs _⟩
  · cases h
    obtain ⟨p, us, rfl, hp, hq⟩ := q
    exact ⟨p, us, rfl, fun hF r2 => .of (r2.bh _ _ hp), hq⟩
  · cases h
def fEnum (f : Env → Sto → Option (Val × Sto)) : Env → Sto → Option (List D × Sto) := fun env st => (f env st).bind fun r => (itQ r.1).map fun ds => (enumL 0 ds, r.2)
theorem s_enum {elts : List Expr} {kk : Nat} {tpos p : Pos} (hg : Gl X "enumerate") (hm : X.mg "enumerate" = none) (h : PE X e (tE X.K cs f)) (hs : nStar e = true) : PI X (.Tuple elts kk tpos) (.Call (.Name "enumerate" p) [e] [] pos) (tI X.K cs (fEnum f)) := by
  refine ⟨fun pins s σ H R I hw => ?_⟩
  obtain ⟨F, B, as, env, st, ds, st', r, ev, k⟩ := hw
  obtain ⟨⟨x, s1⟩, e1, ev1⟩ := obnd ev
  obtain ⟨ds', hd, ev2⟩ := omap ev1
  clear ev ev1
  cases ev2
  dsimp only at hd k
  unfold itQ at hd
  split at hd
  · cases hd
    refine (pi_enumT hg hm (s_cons h s_nil hs) (noStar hs)).held.run pins s σ H R I ⟨F, B, as, env, st, [_], s1, r, by dsimp only; rw [e1]; rfl, fun F' as' H' us r' x' v1 => ?_⟩
    obtain ⟨u, rfl, q⟩ := paired1 v1
    obtain ⟨p, us, rfl, hp, hq⟩ := Den.tup_iff.mp q
    exact ⟨p, us, rfl, .inl (rd_mono r'.fh hp.rd), fun ⟨hh, ok⟩ => k F' as' H' _ r' x' (yields_eT (fun hF _ _ r2 => .inl (rd_mono r2.fh (rd_mono hF hp.rd))) hq) (by rw [enumL_len, line_eq, ← hq.length]; exact ok.tupR_le (rd_mono r'.fh hp.rd))⟩
  · refine (pi_enum hg hm (s_cons h s_nil hs) (noStar hs)).held.run pins s σ H R I ⟨F, B, as, env, st, [_], s1, r, by dsimp only; rw [e1]; rfl, fun F' as' H' us r' x' v1 => ?_⟩
    obtain ⟨u, rfl, q⟩ := paired1 v1
    obtain ⟨p, us, rfl, hp, hq⟩ := seqL_of (H := H') (st := s1) hd q
    exact ⟨p, us, rfl, hp (fun _ _ h => h) r'.toRSt, fun ⟨hh, ok⟩ => k F' as' H' _ r' x' (yields_e (fun hF _ _ r2 => hp hF r2) hq) (by rw [enumL_len, line_eq, ← hq.length]; exact sqL_le (X := X) ok (hp (fun _ _ h => h) r'.toRSt))⟩
def fZip (f1 f2 : Env → Sto → Option (Val × Sto)) : Env → Sto → Option (List D × Sto) := fun env st => (f1 env st).bind fun r => (f2 env r.2).bind fun q => (itZ r.1 q.1).map fun ds => (ds, q.2)
theorem s_zip {elts : List Expr} {kk : Nat} {tpos p : Pos} (hg : Gl X "zip") (hm : X.mg "zip" = none) (h1 : PE X e1 (tE X.K cs f1)) (h2 : PE X e2 (tE X.K cs f2)) (hs1 : nStar e1 = true) (hs2 : nStar e2 = true) : PI X (.Tuple elts kk tpos) (.Call (.Name "zip" p) [e1, e2] [] pos) (tI X.K cs (fZip f1 f2)) := by
  refine ⟨fun pins s σ H R I hw => ?_⟩
  obtain ⟨F, B, as, env, st, ds, st', r, ev, k⟩ := hw
  obtain ⟨⟨x, s1⟩, ex, ev1⟩ := obnd ev
  obtain ⟨⟨y, s2⟩, ey, ev2⟩ := obnd ev1
  obtain ⟨ds', hd, ev3⟩ := omap ev2
  clear ev ev1 ev2
  cases ev3
  dsimp only at hd k ey
  have hst : starEach [e1, e2] X.env = (false, eval e1 X.env) :: starEach [e2] X.env := by rw [noStar hs1]
  have hpl : (backTo pos (starEach [e2] X.env)).any (·.1) = false := by rw [noStar hs2]; rfl
  have hpa := s_cons h1 (s_cons h2 s_nil hs2) hs1
  unfold itZ at hd
  split at hd
  · obtain ⟨rfl, hn⟩ := zipG_some hd
    refine (RZ.pi_zipA hg hm hpa hst hpl).held.run pins s σ H R I ⟨F, B, as, env, st, [_, _], s2, r, by dsimp only; rw [ex]; dsimp only [Option.bind_some]; rw [ey]; rfl, fun F' as' H' us r' x' v1 => ?_⟩
    obtain ⟨u, w, rfl, q, q'⟩ := paired2 v1
    obtain ⟨p, us, rfl, hp, hq⟩ := Den.tup_iff.mp q
    obtain ⟨p', vs, rfl, hp', hq'⟩ := Den.tup_iff.mp q'
    refine ⟨p, p', us, vs, rfl, .inr ⟨.inl (rd_mono r'.fh hp.rd), .inl (rd_mono r'.fh hp'.rd), fun ⟨hh, ok⟩ => k F' as' H' _ r' x' (yields_zT (fun hF _ _ r2 => .inl (rd_mono r2.fh (rd_mono hF hp.rd))) hq (fun hF _ _ r2 => .inl (rd_mono r2.fh (rd_mono hF hp'.rd))) hq' hn) ?_⟩⟩
    have := ok.tupR_le (rd_mono r'.fh hp.rd)
    rw [zipL_len, line_eq]
    rw [hq.length] at this
    omega
  · rename_i xs b _
    obtain ⟨ys, hx, e⟩ := obnd hd
    obtain ⟨rfl, hn⟩ := zipG_some e
    refine (pi_zipN hg hm hpa hst hpl).held.run pins s σ H R I ⟨F, B, as, env, st, [_, _], s2, r, by dsimp only; rw [ex]; dsimp only [Option.bind_some]; rw [ey]; rfl, fun F' as' H' us r' x' v1 => ?_⟩
    obtain ⟨u, w, rfl, q, q'⟩ := paired2 v1
    obtain ⟨p', vs, rfl, hp', hq'⟩ := Den.tup_iff.mp q
    obtain ⟨p, us, rfl, hp, hq⟩ := seqL_of (H := H') (st := s2) hx q'
    refine ⟨p', p, vs, us, rfl, .inl (rd_mono r'.fh hp'.rd), hp (fun _ _ h => h) r'.toRSt, fun ⟨hh, ok⟩ => k F' as' H' _ r' x' (yields_zN (fun hF _ _ r2 => .inl (rd_mono r2.fh (rd_mono hF hp'.rd))) hq' (fun hF _ _ r2 => hp hF r2) hq hn) ?_⟩
    have := ok.tupR_le (rd_mono r'.fh hp'.rd)
    rw [zipL_len, line_eq]
    rw [hq'.length] at this
    omega
  · rename_i a ys _
    obtain ⟨xs, hx, e⟩ := obnd hd
    obtain ⟨rfl, hn⟩ := zipG_some e
    refine (pi_zipM hg hm hpa hst hpl).held.run pins s σ H R I ⟨F, B, as, env, st, [_, _], s2, r, by dsimp only; rw [ex]; dsimp only [Option.bind_some]; rw [ey]; rfl, fun F' as' H' us r' x' v1 => ?_⟩
    obtain ⟨u, w, rfl, q, q'⟩ := paired2 v1
    obtain ⟨p, us, rfl, hp, hq⟩ := seqL_of (H := H') (st := s1) hx q
    obtain ⟨p', vs, rfl, hp', hq'⟩ := Den.tup_iff.mp q'
    refine ⟨p, p', us, vs, rfl, hp (fun _ _ h => h) r'.toRSt, .inl (rd_mono r'.fh hp'.rd), fun ⟨hh, ok⟩ => k F' as' H' _ r' x' (yields_zM (fun hF _ _ r2 => hp hF r2) hq (fun hF _ _ r2 => .inl (rd_mono r2.fh (rd_mono hF hp'.rd))) hq' hn) ?_⟩
    have := ok.tupR_le (rd_mono r'.fh hp'.rd)
    rw [zipL_len, line_eq]
    rw [hq'.length] at this
    omega
  · obtain ⟨xs, hx, hd⟩ := obnd hd
    obtain ⟨ys, hy, e⟩ := obnd hd
    obtain ⟨rfl, hn⟩ := zipG_some e
    refine (RZ.pi_zipA hg hm hpa hst hpl).held.run pins s σ H R I ⟨F, B, as, env, st, [_, _], s2, r, by dsimp only; rw [ex]; dsimp only [Option.bind_some]; rw [ey]; rfl, fun F' as' H' us r' x' v1 => ?_⟩
    obtain ⟨u, w, rfl, q, q'⟩ := paired2 v1
    obtain ⟨p, us, rfl, hp, hq⟩ := seqL_of (H := H') (st := s1) hx q
    obtain ⟨p', vs, rfl, hp', hq'⟩ := seqL_of (H := H') (st := s1) hy q'
    refine ⟨p, p', us, vs, rfl, .inl ⟨hp (fun _ _ h => h) r'.toRSt, hp' (fun _ _ h => h) r'.toRSt, fun ⟨hh, ok⟩ => k F' as' H' _ r' x' (yields_z (fun hF _ _ r2 => hp hF r2) hq (fun hF _ _ r2 => hp' hF r2) hq' hn) ?_⟩⟩
    have := sqL_le (X := X) ok (hp (fun _ _ h => h) r'.toRSt)
    rw [zipL_len, line_eq]
    rw [hq.length] at this
    omega
theorem joinL_is (s : W) : ∀ ws : List W, TL.joinL s ws = joinW s ws
  | [] => rfl
  | [_] => rfl
  | x :: y :: r => by
    show x ++ (s ++ TL.joinL s (y :: r)) = x ++ s ++ joinW s (y :: r)
    rw [joinL_is s (y :: r), List.append_assoc]
theorem mt_join_ok {x y : Val} {st st' : Sto} {v : Val} (h : mtV .join x [y] st = some (v, st')) : MtFact X cs .join x [y] st st' v := by
  unfold mtV at h
  split at h <;> try contradiction
  rename_i s y' _ he
  cases he
  obtain ⟨ds, hd, h⟩ := obnd h
  obtain ⟨ws, hw, h⟩ := obnd h
  split at h
  case isFalse => cases h
  rename_i hz
  cases h
  refine ⟨_, _, .inr (.inl rfl), mt_join, F.plainAttrs_str, F.slot_str_join, F.type_str_join, fun F B as env σ H u us Q r q p k => ?_⟩
  obtain ⟨w', rfl, qy⟩ := paired1 p
  have e := str_of q
  subst e
  have hsz : ((ws.map S).map (·.length)).sum + (ws.map S).length * (S s).length ≤ 16777216 := by
    have e1 : (ws.map S).map (·.length) = ws.map List.length := by
      rw [List.map_map]
      exact congrArg (fun f => ws.map f) (funext fun w => S_len w)
    rw [e1, List.length_map, S_len, Nat.mul_comm]
    exact hz
  have hj : Txt.join (S s) (ws.map S) = S (joinW s ws) := by
    have := SX.join_S s ws
    rw [joinL_is] at this
    exact this
  unfold asLT at hd
  split at hd
  · rename_i ds' hs
    cases hd
    obtain ⟨a, us, rfl, ha, hq⟩ := asT_ok r.toRSt hs qy
    rw [textsD_ok hw hq] at ha
    exact ⟨S s, a, ws.map S, rfl, rfl, .inr ha, hsz, by rw [hj]; exact k F H _ r r.refl vstr⟩
  · obtain ⟨a, us, rfl, ha, hq⟩ := asL_ok r.toRSt hd qy
    rw [textsD_ok hw hq] at ha
    exact ⟨S s, a, ws.map S, rfl, rfl, .inl ha, hsz, by rw [hj]; exact k F H _ r r.refl vstr⟩
theorem plV_eq {env : Env} {i l : Nat} {st : Sto} {ds : List D} (h : plV env i st = some (l, ds)) : env[i]? = some (some (.ref l)) ∧ st[l]? = some (.lst ds) := by
  unfold plV at h
  split at h
  · rename_i l' he
    split at h
    · rename_i ds' hs
      cases h
      exact ⟨he, hs⟩
    · cases h
  · cases h
def fPl (i : Nat) : Env → Sto → Option (List D × Sto) := fun env st => (plV env i st).map fun r => (r.2, st)
def gPl (i : Nat) : Env → Sto → Sto → Prop := fun env st s => ∃ r, plV env i st = some r ∧ lstS r.1 r.2 s
theorem gPl_of {i : Nat} {env : Env} {st : Sto} {r : Nat × List D} (h : plV env i st = some r) : gPl i env st = lstS r.1 r.2 := by
  funext s
  unfold gPl
  rw [h]
  simp
theorem gPl_0 {i : Nat} : ∀ env st ds st', fPl i env st = some (ds, st') → gPl i env st' st' := fun env st ds st' h => by
  obtain ⟨⟨l, ds'⟩, hp, e⟩ := omap h
  cases e
  rw [gPl_of hp]
  exact (plV_eq hp).2
def fVar (i : Nat) : Env → Sto → Option (Val × Sto) := fun env st => match env[i]? with
    | some (some v) => some (v, st)
    | _ => none
theorem s_pl {tg : Expr} {i : Nat} (h : PE X e (tE X.K cs (fVar i))) : PI X tg e (tIG X.K cs (fPl i) (gPl i)) := by
  refine ⟨fun pins s σ H R I hw => ?_⟩
  obtain ⟨F, B, as, env, st, ds, st', r, ev, k⟩ := hw
  obtain ⟨⟨l, ds'⟩, hp, e⟩ := omap ev
  clear ev
  cases e
  obtain ⟨he, hst⟩ := plV_eq hp
  rw [gPl_of hp] at k
  dsimp only at k
  have at2 : ∀ {F2 as2 st2 H2 a}, RSt X.K cs F2 B as2 st2 H2 → as2[l]? = some a → st2[l]? = some (.lst ds') → ∃ us, H2 a = some (.lst us) ∧ Dens X.K F2 ds' us := fun {F2 as2 st2 H2 a} r2 ha hs => by
    obtain ⟨_, ho, e1, us, rfl, hq⟩ := r2.obj l a _ ha hs
    exact ⟨us, e1, hq⟩
  refine (pi_list h).held.run pins s σ H R I ⟨F, B, as, env, st, .ref l, st, r, by unfold fVar; rw [he], fun F' as' H' u r' x' v1 => ?_⟩
  obtain ⟨a, ea, rfl⟩ := v1
  obtain ⟨us, hu, hq⟩ := at2 r'.toRSt ea hst
  refine ⟨a, rfl, ⟨us, .of hu⟩, fun ⟨hh, ok⟩ => k F' as' H' _ r' x' ⟨fun i hF hpre hG r2 hl => ?_, fun i d hF hpre hG r2 hd => ?_, fun i d x H3 hF hpre hG r2 hd y => ?_⟩ (by rw [line_eq, ← hq.length]; exact ok.lst_le hu)⟩
  · obtain ⟨us2, h2, q2⟩ := at2 r2 (pre_get hpre ea) hG
    exact ⟨us2, .of h2, by rw [q2.length]; exact Nat.le_of_eq hl⟩
  · obtain ⟨us2, h2, q2⟩ := at2 r2 (pre_get hpre ea) hG
    obtain ⟨u, e, _⟩ := q2.get hd
    exact ⟨us2, u, .of h2, e⟩
  · obtain ⟨us2, h2, q2⟩ := at2 r2 (pre_get hpre ea) hG
    obtain ⟨u, e, q⟩ := q2.get hd
    obtain ⟨rfl, y2⟩ := y
    have := y2 us2 (.of h2)
    rw [e] at this; cases this
    exact ⟨_, r2, r2.refl, q⟩
end
end NK
set_option Elab.async false
set_option linter.all false
set_option autoImplicit false
set_option maxRecDepth 100000
namespace NK
open PySem PySem.Spec PyProof.Rows L2
def DkO (kvs : List (Key × V)) (o : HO) : Prop := o = .dK kvs ∨ ∃ ob, o = .frz ob (.dK kvs)
def Lk (F F' : Hp) : Prop := ∀ a x, F a = some x → F' a = some x ∨ ∃ kvs x', DkO kvs x ∧ F' a = some x' ∧ DkO kvs x'
section
variable {K : PySem.W.Frag} {F F' : Hp}
theorem Lk.rdK (h : Lk F F') {p : Addr} {kvs : List (Key × V)} (q : Rd F p (.dK kvs)) : Rd F' p (.dK kvs) := by
  have : ∃ x, F p = some x ∧ DkO kvs x := by
    rcases q with q | ⟨o, q⟩
    · exact ⟨_, q, .inl rfl⟩
    · exact ⟨_, q, .inr ⟨o, rfl⟩⟩
  obtain ⟨x, hx, hk⟩ := this
  rcases h p x hx with e | ⟨kvs', x', k1, e, k2⟩
  · rcases hk with rfl | ⟨ob, rfl⟩
    · exact .inl e
    · exact .inr ⟨_, e⟩
  · have : kvs' = kvs := by
      rcases hk with rfl | ⟨ob, rfl⟩ <;> rcases k1 with k | ⟨ob', k⟩ <;> cases k <;> rfl
    subst this
    rcases k2 with rfl | ⟨ob, rfl⟩
    · exact .inl e
    · exact .inr ⟨_, e⟩
theorem Lk.other (h : Lk F F') {p : Addr} {x : HO} (q : F p = some x) (hn : ∀ kvs, ¬ DkO kvs x) : F' p = some x := by
  rcases h p x q with e | ⟨kvs', x', k1, e, k2⟩
  · exact e
  · exact absurd k1 (hn _)
theorem Lk.rdT (h : Lk F F') {p : Addr} {kvs : List (List Key × V)} (q : Rd F p (.dT kvs)) : Rd F' p (.dT kvs) := by
  rcases q with q | ⟨o, q⟩
  · exact .inl (h.other q fun _ z => by rcases z with z | ⟨_, z⟩ <;> cases z)
  · exact .inr ⟨o, h.other q fun _ z => by rcases z with z | ⟨_, z⟩ <;> cases z⟩
theorem Lk.sqL (h : Lk F F') {p : Addr} {us : List V} (q : SqL K F p us) : SqL K F' p us := by
  rcases q with (q | ⟨o, q⟩) | q
  · exact .inl (.inl (h.other q fun _ z => by rcases z with z | ⟨_, z⟩ <;> cases z))
  · exact .inl (.inr ⟨o, h.other q fun _ z => by rcases z with z | ⟨_, z⟩ <;> cases z⟩)
  · exact .inr q
mutual
theorem Den.lk (h : Lk F F') : ∀ (d : D) (u : V), Den K F d u → Den K F' d u
  | .non, _, q => q
  | .bl _, _, q => q
  | .int _, _, q => q
  | .str _, _, q => q
  | .tup ds, u, q => by
    obtain ⟨p, us, e, ⟨o, h0, a⟩, b⟩ := Den.tup_iff.mp q
    exact Den.tup_iff.mpr ⟨p, us, e, ⟨o, h0, h.other a (fun _ z => by unfold tupO at z; split at z <;> (rcases z with z | ⟨_, z⟩ <;> cases z))⟩, Dens.lk h ds us b⟩
  | .lst ds, u, q => by
    obtain ⟨p, us, e, a, b⟩ := Den.lst_iff.mp q
    exact Den.lst_iff.mpr ⟨p, us, e, h.other a (fun _ z => by rcases z with z | ⟨_, z⟩ <;> cases z), Dens.lk h ds us b⟩
  | .scr ns, u, q => by
    obtain ⟨p, e, a⟩ := Den.scr_iff.mp q
    exact Den.scr_iff.mpr ⟨p, e, h.sqL a⟩
  | .exc w xs ds, u, q => by
    obtain ⟨x, p, od, us, e, a, b, c⟩ := Den.exc_iff.mp q
    refine Den.exc_iff.mpr ⟨x, p, od, us, e, h.other a (fun _ z => by rcases z with z | ⟨_, z⟩ <;> cases z), ?_, Dens.lk h ds us c⟩
    cases xs with
    | nil => exact b
    | cons x xs =>
      obtain ⟨dd, fs, e1, e2, e3⟩ := b
      exact ⟨dd, fs, e1, h.other e2 (fun _ z => by rcases z with z | ⟨_, z⟩ <;> cases z), e3⟩
  | .dK ks ds, u, q => by
    obtain ⟨p, us, e, a, l, b⟩ := Den.dK_iff.mp q
    exact Den.dK_iff.mpr ⟨p, us, e, h.rdK a, l, Dens.lk h ds us b⟩
  | .dT ks ds, u, q => by
    obtain ⟨p, us, e, a, l, b⟩ := Den.dT_iff.mp q
    exact Den.dT_iff.mpr ⟨p, us, e, h.rdT a, l, Dens.lk h ds us b⟩
theorem Dens.lk (h : Lk F F') : ∀ (ds : List D) (us : List V), Dens K F ds us → Dens K F' ds us
  | [], _, q => by simp only [Dens] at q ⊢; exact q
  | d :: ds, us, q => by
    obtain ⟨u, us', e, a, b⟩ := Dens.cons.mp q
    exact Dens.cons.mpr ⟨u, us', e, Den.lk h d u a, Dens.lk h ds us' b⟩
end
theorem Top.lk {G G' : Hp} (h : Lk F F') (hg : Lk G G') : ∀ {d : D} {u : V}, Top K G F d u → Top K G' F' d u
  | .lst ds, u, q => by obtain ⟨p, us, e, a, b⟩ := q; exact ⟨p, us, e, hg.other a (fun _ z => by rcases z with z | ⟨_, z⟩ <;> cases z), Dens.lk h _ _ b⟩
  | .dK ks ds, u, q => by obtain ⟨p, us, e, a, l, b⟩ := q; exact ⟨p, us, e, hg.rdK a, l, Dens.lk h _ _ b⟩
  | .dT ks ds, u, q => by obtain ⟨p, us, e, a, l, b⟩ := q; exact ⟨p, us, e, hg.rdT a, l, Dens.lk h _ _ b⟩
  | .non, _, q => q.elim
  | .bl _, _, q => q.elim
  | .int _, _, q => q.elim
  | .str _, _, q => q.elim
  | .tup _, _, q => q.elim
  | .scr _, _, q => q.elim
  | .exc _ _ _, _, q => q.elim
theorem VOk.lk {B B' : Hp} {as : List Addr} (h : Lk F F') (hb : Lk B B') : ∀ {v : Val} {u : V}, VOk K F B as v u → VOk K F' B' as v u
  | .dat d, u, q => Den.lk h d u q
  | .bor d, u, q => Top.lk h hb q
  | .ref l, u, q => q
  | .tup pre l post, u, q => by
    obtain ⟨p, vs, ws, a, e, f, d1, d2, r⟩ := q
    exact ⟨p, vs, ws, a, e, h.other f (fun _ z => by rcases z with z | ⟨_, z⟩ <;> cases z), Dens.lk h _ _ d1, Dens.lk h _ _ d2, r⟩
theorem OOk.lk {cs : Nat → Option Addr} {B B' : Hp} {as : List Addr} (h : Lk F F') (hb : Lk B B') : ∀ {o : Obj} {ho : HO}, OOk K cs F B as o ho → OOk K cs F' B' as o ho
  | .lst ds, ho, q => by obtain ⟨us, e, b⟩ := q; exact ⟨us, e, Dens.lk h _ _ b⟩
  | .dK ks ds, ho, q => by obtain ⟨us, e, l, b⟩ := q; exact ⟨us, e, l, Dens.lk h _ _ b⟩
  | .dT ks ds, ho, q => by obtain ⟨us, e, l, b⟩ := q; exact ⟨us, e, l, Dens.lk h _ _ b⟩
  | .ins c fs, ho, q => by
    obtain ⟨C, dx, gs, e1, e2, b⟩ := q
    exact ⟨C, dx, gs, e1, e2, Paired.mapP b fun p q r => ⟨r.1, r.2.lk h hb⟩⟩
  | .dead, _, _ => trivial
end
def lkH (d : Addr) (o : HO) (G : Hp) : Hp := fun a => if a = d then (G d).map (fun _ => o) else G a
theorem lkH_ne {d a : Addr} {o : HO} {G : Hp} (h : a ≠ d) : lkH d o G a = G a := if_neg h
theorem lkH_at {d : Addr} {o : HO} {G : Hp} : lkH d o G d = (G d).map fun _ => o := if_pos rfl
theorem lkH_none {d a : Addr} {o : HO} {G : Hp} : lkH d o G a = none ↔ G a = none := by
  by_cases h : a = d
  · subst h; rw [lkH_at]; simp
  · rw [lkH_ne h]
theorem lkH_lk {d : Addr} {o x : HO} {G : Hp} {kvs : List (Key × V)} (ho : DkO kvs o) (hx : DkO kvs x) (h : ∀ y, G d = some y → y = x) : Lk G (lkH d o G) := fun a y e => by
  by_cases ha : a = d
  · subst ha
    have := h y e
    subst this
    exact .inr ⟨kvs, o, hx, by rw [lkH_at, e]; rfl, ho⟩
  · exact .inl (by rw [lkH_ne ha]; exact e)
section
variable {K : PySem.W.Frag} {cs : Nat → Option Addr} {F B H : Hp} {as : List Addr} {env : Env} {st : Sto} {σ : L2.St}
theorem RSt.lkd (r : RSt K cs F B as st H) {d : Addr} {o x : HO} {kvs : List (Key × V)} (ho : DkO kvs o) (hx : DkO kvs x) (hd : H d = some x) (hF : d ∈ as → F d ≠ none) :
    RSt K cs (lkH d o F) (lkH d o B) as st (upd H d o) ∧ Lk F (lkH d o F) ∧ Lk B (lkH d o B) := by
  have l1 : Lk F (lkH d o F) := lkH_lk ho hx fun y e => by have := r.fh _ _ e; rw [hd] at this; cases this; rfl
  have l2 : Lk B (lkH d o B) := lkH_lk ho hx fun y e => by have := r.bh _ _ e; rw [hd] at this; cases this; rfl
  have up : ∀ {G : Hp}, (∀ a y, G a = some y → H a = some y) → ∀ a y, lkH d o G a = some y → upd H d o a = some y := fun {G} hG a y e => by
    by_cases ha : a = d
    · subst ha
      rw [lkH_at] at e
      obtain ⟨z, _, e2⟩ := Option.map_eq_some_iff.mp e
      rw [upd_same, e2]
    · rw [lkH_ne ha] at e
      rw [upd_ne ha]
      exact hG _ _ e
  refine ⟨⟨up r.fh, up r.bh, r.nd, r.len, fun a ha => lkH_none.mpr (r.nb a ha), fun l a o' e1 e2 => ?_⟩, l1, l2⟩
  obtain ⟨z, hob, e3, e4⟩ := r.obj l a o' e1 e2
  by_cases ha : a = d
  · subst ha
    have z' : o' = .dead := z.resolve_right (hF (List.mem_of_getElem? e1))
    subst z'
    exact ⟨.inl rfl, o, upd_same, trivial⟩
  · exact ⟨z.imp id fun z => lkH_none.mpr z, hob, by rw [upd_ne ha]; exact e3, e4.lk l1 l2⟩
theorem Rel.lkd (r : Rel K cs F B as env st σ H) {d : Addr} {o x : HO} {kvs : List (Key × V)} (ho : DkO kvs o) (hx : DkO kvs x) (hd : H d = some x) (hF : d ∈ as → F d ≠ none) :
    Rel K cs (lkH d o F) (lkH d o B) as env st σ (upd H d o) :=
  let ⟨a, l1, l2⟩ := r.toRSt.lkd ho hx hd hF
  { a with slot := fun i v e => let ⟨u, e1, e2⟩ := r.slot i v e; ⟨u, e1, e2.lk l1 l2⟩, elen := r.elen }
theorem upd_back {d : Addr} {o x : HO} {G : Hp} (h : ∀ y, G d = some y → y = x) : lkH d x (lkH d o G) = G := by
  funext a
  by_cases ha : a = d
  · subst ha
    rw [lkH_at, lkH_at]
    cases e : G a with
    | none => rfl
    | some y => rw [h y e]; rfl
  · rw [lkH_ne ha, lkH_ne ha]
theorem Ext.lkd {F2 H2 : Hp} {as2 : List Addr} (r : RSt K cs F B as st H) {d : Addr} {o x : HO} (hd : H d = some x) (hF : d ∈ as → F d ≠ none) (hd2 : H2 d = some o) (e : Ext (lkH d o F) as (upd H d o) F2 as2 H2) : Ext F as H (lkH d x F2) as2 (upd H2 d x) := by
  refine ⟨fun a y h => ?_, e.pre, fun a y h hn => ?_, fun a ha => ?_, fun a h h0 => ?_, fun a h hn => ?_⟩
  · by_cases ha : a = d
    · subst ha
      have := r.fh _ _ h
      rw [hd] at this; cases this
      have := e.ff a o (by rw [lkH_at, h]; rfl)
      rw [lkH_at, this]; rfl
    · rw [lkH_ne ha]
      exact e.ff _ _ (by rw [lkH_ne ha]; exact h)
  · by_cases ha : a = d
    · subst ha
      rw [hd] at h; cases h
      exact upd_same
    · rw [upd_ne ha]
      exact e.fr _ _ (by rw [upd_ne ha]; exact h) hn
  · by_cases h : a = d
    · subst h; rw [upd_same]; simp
    · rw [upd_ne h]; exact e.frA a ha
  · have h2 : F2 a ≠ none := fun z => h (lkH_none.mpr z)
    rcases e.nf a h2 (lkH_none.mpr h0) with z | z
    · by_cases ha : a = d
      · subst ha; rw [upd_same] at z; cases z
      · rw [upd_ne ha] at z; exact .inl z
    · exact .inr z
  · have z := e.na a h hn
    by_cases ha : a = d
    · subst ha; rw [upd_same] at z; cases z
    · rw [upd_ne ha] at z; exact z
end
section
variable {X : Cx} {cs : Nat → Option Addr} {e : Expr} {pos : Pos} {ff : Env → Sto → Option Out}
theorem unlk {F B H F2 H2 : Hp} {as as2 : List Addr} {st st2 : Sto} {d : Addr} {kvs : List (Key × V)} {od : PySem.Obj} (r : RSt X.K cs F B as st H) (hd : H d = some (.dK kvs)) (hFB : F d ≠ none ∨ B d ≠ none)
    (r2 : RSt X.K cs F2 (lkH d (.frz od (.dK kvs)) B) as2 st2 H2) (x2 : Ext (lkH d (.frz od (.dK kvs)) F) as (upd H d (.frz od (.dK kvs))) F2 as2 H2) :
    H2 d = some (.frz od (.dK kvs)) ∧ RSt X.K cs (lkH d (.dK kvs) F2) B as2 st2 (upd H2 d (.dK kvs)) ∧ Ext F as H (lkH d (.dK kvs) F2) as2 (upd H2 d (.dK kvs)) ∧ Lk F2 (lkH d (.dK kvs) F2) ∧ Lk (lkH d (.frz od (.dK kvs)) B) B := by
  have hF : d ∈ as → F d ≠ none := fun hm => hFB.resolve_right fun h => h (r.nb d hm)
  have hd2 : H2 d = some (.frz od (.dK kvs)) := by
    rcases hFB with h | h
    · obtain ⟨y, hy⟩ := Option.ne_none_iff_exists'.mp h
      exact r2.fh _ _ (x2.ff d (.frz od (.dK kvs)) (by rw [lkH_at, hy]; rfl))
    · obtain ⟨y, hy⟩ := Option.ne_none_iff_exists'.mp h
      exact r2.bh d (.frz od (.dK kvs)) (by rw [lkH_at, hy]; rfl)
  have hF2 : d ∈ as2 → F2 d ≠ none := fun hm => by
    rcases hFB with h | h
    · obtain ⟨y, hy⟩ := Option.ne_none_iff_exists'.mp h
      have := x2.ff d (.frz od (.dK kvs)) (by rw [lkH_at, hy]; rfl)
      rw [this]; simp
    · exact absurd (lkH_none.mp (r2.nb d hm)) h
  have bk : lkH d (.dK kvs) (lkH d (.frz od (.dK kvs)) B) = B := upd_back fun y hy => by
    have := r.bh _ _ hy
    rw [hd] at this; cases this; rfl
  obtain ⟨r3, l1, l2⟩ := r2.lkd (o := .dK kvs) (.inl rfl) (.inr ⟨od, rfl⟩) hd2 hF2
  rw [bk] at r3 l2
  exact ⟨hd2, r3, Ext.lkd r hd hF hd2 x2, l1, l2⟩
def fKy (i : Nat) : Env → Sto → Option (List D × Sto) := fun env st => (kyV env i).map fun ds => (ds, st)
def Zk (i : Nat) : L2.St → Hp → Prop := fun σ H => ∃ p o kvs, σ[i]? = some (some (.ref p)) ∧ H p = some (.frz o (.dK kvs))
theorem ky_at {F B H : Hp} {as : List Addr} {env : Env} {st : Sto} {σ : L2.St} (r : Rel X.K cs F B as env st σ H) {i : Nat} {ds : List D} (h : kyV env i = some ds) : ∃ (p : Addr) (us : List V) (ks : List K1), σ[i]? = some (some (.ref p)) ∧ ds = ks.map k2D ∧ ks.length = us.length ∧ (Rd F p (.dK ((ks.map kk).zip us)) ∨ Rd B p (.dK ((ks.map kk).zip us))) := by
  unfold kyV at h
  split at h
  · rename_i ks es he
    cases h
    obtain ⟨u, s1, q⟩ := r.slot i _ he
    obtain ⟨p, us, rfl, a, l, b⟩ := Den.dK_iff.mp q
    exact ⟨p, us, ks, s1, rfl, by rw [l, b.length], .inl a⟩
  · rename_i ks es he
    cases h
    obtain ⟨u, s1, q⟩ := r.slot i _ he
    obtain ⟨p, us, rfl, a, l, b⟩ := q
    exact ⟨p, us, ks, s1, rfl, by rw [l, b.length], .inr a⟩
  · cases h
theorem rd_kvs {F : Hp} {p : Addr} {kvs kvs' : List (Key × V)} {o : PySem.Obj} (h : Rd F p (.dK kvs)) (e : F p = some (.frz o (.dK kvs'))) : kvs' = kvs := by
  rcases h with h | ⟨_, h⟩ <;> rw [e] at h <;> cases h
  rfl
theorem s_ky {tg : Expr} {i : Nat} (h : PE X e (tVar i)) : PI X tg e fun σ H R => Zk i σ H ∧ tIG X.K cs (fKy i) anyG σ H R := (pi_keys h).held.weak fun σ H R ⟨⟨p, o, kvs, e1, e2⟩, F, B, as, env, st, ds, st', r, ev, k⟩ => by
  obtain ⟨ds', hk, e⟩ := omap ev
  clear ev
  cases e
  obtain ⟨p', us, ks, s1, rfl, hl, hrd⟩ := ky_at r hk
  rw [e1] at s1
  cases s1
  have hx : kvs = (ks.map kk).zip us ∧ (F p = some (.frz o (.dK kvs)) ∨ B p = some (.frz o (.dK kvs))) := by
    rcases hrd with h | h
    · have : F p = some (.frz o (.dK kvs)) := by
        rcases h with h | ⟨_, h⟩ <;> have := r.fh _ _ h <;> rw [e2] at this <;> cases this
        exact h
      exact ⟨rd_kvs h this, .inl this⟩
    · have : B p = some (.frz o (.dK kvs)) := by
        rcases h with h | ⟨_, h⟩ <;> have := r.bh _ _ h <;> rw [e2] at this <;> cases this
        exact h
      exact ⟨rd_kvs h this, .inr this⟩
  obtain ⟨rfl, hFB⟩ := hx
  have hlen : ((ks.map kk).zip us).length = ks.length := by rw [List.length_zip, List.length_map, hl, Nat.min_self]
  have at2 : ∀ {F2 as2 st2 H2}, (∀ a o, F a = some o → F2 a = some o) → RSt X.K cs F2 B as2 st2 H2 → H2 p = some (.frz o (.dK ((ks.map kk).zip us))) := fun hF r2 => by
    rcases hFB with z | z
    · exact r2.fh _ _ (hF _ _ z)
    · exact r2.bh _ _ z
  refine ⟨.ref p, e1, p, o, rfl, .inl ⟨_, e2, fun ⟨hh, ok⟩ => k F as H _ r r.refl ⟨fun j hF _ _ r2 hj => ?_, fun j d hF _ _ r2 hj => ?_, fun j d x H3 hF _ _ r2 hj y => ?_⟩ ?_⟩⟩
  · exact ⟨at2 hF r2, by rw [hlen]; rw [List.length_map] at hj; exact Nat.le_of_eq hj⟩
  · refine ⟨at2 hF r2, ?_⟩
    rw [hlen]
    have := (List.getElem?_eq_some_iff.mp hj).1
    rw [List.length_map] at this
    exact this
  · obtain ⟨rfl, kx, v, hkv, rfl⟩ := y
    rw [List.getElem?_map] at hj
    obtain ⟨k0, hk0, rfl⟩ := Option.map_eq_some_iff.mp hj
    have hkk : kx = kk k0 := by
      have h1 := (List.getElem?_zip_eq_some.mp hkv).1
      rw [List.getElem?_map, hk0] at h1
      exact (Option.some.inj h1).symm
    subst hkk
    refine ⟨_, r2, r2.refl, ?_⟩
    cases k0 with
    | inl z => exact Den.int_iff.mpr rfl
    | inr w => exact Den.str_iff.mpr rfl
  · rw [List.length_map, line_eq, ← hlen]
    have := (ok p _ e2).2
    exact this.1
theorem s_forD {bind : D → Env → Option Env} {t : TG} {tgl : List Nat} {tg : Expr} {b : List Stmt} {i : Nat} (hp : PassesOwn (model X.prog X.w) X.A X.env X.xe) (hc : X.calm = true) (he : PE X e (tVar i)) (hg : PG X tg t) (ht : TgOk X.K cs t bind tgl) (hb : PSs X b (tS X.K cs ff))
    (hs : ∀ x, foldedSetIterable e X.env x = pure x) : PS X (.For tg e b [] pos) (tS X.K cs (fFor (fKy i) bind ff)) := by
  have base := s_forGZ (pos := pos) (Z := Zk i) (fi := fKy i) (G := anyG) hp hc (s_ky he) hg ht hb hs fun _ _ _ _ _ => trivial
  rw [fForG_any] at base
  refine ⟨fun pins s σ H D I hw => ?_⟩
  obtain ⟨F, B, as, env, st, o, r, ev, k1, k2⟩ := hw
  obtain ⟨⟨ds, s1⟩, hfi, _⟩ := obnd ev
  obtain ⟨ds', hk, eds⟩ := omap hfi
  cases eds
  obtain ⟨p, us, ks, s1, rfl, hl, hrd⟩ := ky_at r hk
  have hrH : Rd H p (.dK ((ks.map kk).zip us)) ∧ (F p ≠ none ∨ B p ≠ none) := by
    rcases hrd with h | h
    · exact ⟨rd_mono r.fh h, .inl (by rcases h with h | ⟨_, h⟩ <;> rw [h] <;> simp)⟩
    · exact ⟨rd_mono r.bh h, .inr (by rcases h with h | ⟨_, h⟩ <;> rw [h] <;> simp)⟩
  obtain ⟨hrH, hFB⟩ := hrH
  rcases hrH with hx | ⟨ob, hx⟩
  · have hF : p ∈ as → F p ≠ none := fun hm => hFB.resolve_right fun h => h (r.nb p hm)
    refine (ps_lock base).run pins s σ H D I ⟨p, _, hx, trivial, fun od => ⟨⟨p, od, _, s1, upd_same⟩, _, _, as, env, st, o, r.lkd (.inr ⟨od, rfl⟩) (.inl rfl) hx hF, ev, fun e' s' eo F2 as2 H2 σ2 r2 x2 => ?_, fun v s' eo F2 as2 H2 u r2 x2 v2 => ?_⟩⟩
    · obtain ⟨h1, h2, h3, l1, l2⟩ := unlk r.toRSt hx hFB r2.toRSt x2
      exact ⟨h1, k1 e' s' eo _ as2 _ σ2 { h2 with slot := fun j w e => let ⟨u, e1, e2⟩ := r2.slot j w e; ⟨u, e1, e2.lk l1 l2⟩, elen := r2.elen } h3⟩
    · obtain ⟨h1, h2, h3, l1, l2⟩ := unlk r.toRSt hx hFB r2 x2
      exact ⟨h1, k2 v s' eo _ as2 _ u h2 h3 (v2.lk l1 l2)⟩
  · exact base.run pins s σ H D I ⟨⟨p, ob, _, s1, hx⟩, F, B, as, env, st, o, r, ev, k1, k2⟩
theorem lock_of {f : Env → Sto → Option (Obj × Sto)} {i : Nat} (hk : ∀ env st o st', f env st = some (o, st') → ∃ ds, kyV env i = some ds) (h : PE X e fun σ H Q => Zk i σ H ∧ tO X.K cs f σ H Q) : PE X e (tO X.K cs f) := by
  refine ⟨fun pins s σ H Q I hw => ?_⟩
  obtain ⟨F, B, as, env, st, o, st', r, ev, k⟩ := hw
  obtain ⟨ds, hky⟩ := hk _ _ _ _ ev
  obtain ⟨p, us, ks, s1, rfl, hl, hrd⟩ := ky_at r hky
  have hrH : Rd H p (.dK ((ks.map kk).zip us)) ∧ (F p ≠ none ∨ B p ≠ none) := by
    rcases hrd with h | h
    · exact ⟨rd_mono r.fh h, .inl (by rcases h with h | ⟨_, h⟩ <;> rw [h] <;> simp)⟩
    · exact ⟨rd_mono r.bh h, .inr (by rcases h with h | ⟨_, h⟩ <;> rw [h] <;> simp)⟩
  obtain ⟨hrH, hFB⟩ := hrH
  rcases hrH with hx | ⟨ob, hx⟩
  · have hF : p ∈ as → F p ≠ none := fun hm => hFB.resolve_right fun h => h (r.nb p hm)
    refine (pe_lock h).run pins s σ H Q I ⟨p, _, hx, trivial, fun od => ⟨⟨p, od, _, s1, upd_same⟩, _, _, as, env, st, o, st', r.lkd (.inr ⟨od, rfl⟩) (.inl rfl) hx hF, ev, fun F2 as2 H2 q ho r2 x2 n1 n2 n3 n4 ok => ?_⟩⟩
    obtain ⟨h1, h2, h3, l1, l2⟩ := unlk r.toRSt hx hFB r2.toRSt x2
    have hqp : q ≠ p := fun z => by subst z; rw [upd_same] at n1; cases n1
    rw [upd_ne hqp] at n1
    exact ⟨h1, k _ as2 _ q ho { h2 with slot := fun j w e => let ⟨u, e1, e2⟩ := r2.slot j w e; ⟨u, e1, e2.lk l1 l2⟩, elen := r2.elen } h3 n1 (lkH_none.mpr n2) n3 (by rw [upd_ne hqp]; exact n4) (ok.lk l1 l2)⟩
  · exact h.run pins s σ H Q I ⟨⟨p, ob, _, s1, hx⟩, F, B, as, env, st, o, st', r, ev, k⟩
end
end NK
set_option Elab.async false
set_option linter.all false
set_option autoImplicit false
set_option maxRecDepth 100000
namespace NK
open PySem PySem.Spec PyProof.Rows L2
section
variable {prog : Program} {w : World} {A : Around} {E : Value → Shared → Prop} {s : Shared} {l : Addr} {its : List Value} {ns : List Int} {Q : Value → Shared → Prop}
theorem moved_kept {s2 s' : Shared} {o : PySem.Obj} {I : Addr} (hI : I = s.heap.objs.size) (e : s2 = { s with heap := s.heap.push o }) (hm : Moved [I] (fun a b => b = a) s2 s') : ∃ h' tk, s' = { s with heap := h', toks := tk } ∧ ∀ b o, s.heap.get? b = some o → h'.get? b = some o := by
  subst hI e
  obtain ⟨hp, gn, dr, tk, os⟩ := s'
  obtain ⟨h1, h2, h3, h4, h5⟩ := hm
  dsimp only at h2 h3 h4
  subst h2 h3 h4
  refine ⟨hp, tk, rfl, fun b ob e => h1 b ob (fun hm => ?_) (Heap.get?_push_of_some _ e)⟩
  rcases List.mem_cons.mp hm with e1 | hm
  · exact absurd (e1 ▸ Heap.lt_size e) (Nat.lt_irrefl _)
  · cases hm
theorem maxd_raw {d : Value} (hh : A.handled = none) (hl : s.heap.IsList l its.toArray) (hi : IntsAre its ns)
    (h0 : ns = [] → ∀ h' tk, (∀ b o, s.heap.get? b = some o → h'.get? b = some o) → Q d { s with heap := h', toks := tk })
    (h : ∀ h' tk M t', (∀ b o, s.heap.get? b = some o → h'.get? b = some o) → M ∈ ns → (∀ a, a ∈ ns → a ≤ M) → Q (.int M t') { s with heap := h', toks := tk }) :
    wpAny (model prog w) A (PySem.call (.builtin "max") [.ref l] [(Str.ofString "default", d)]) Q E s := by
  obtain ⟨xs, e⟩ := hi.allInts.items
  have hn : numsOf (intItems xs).toList = ns := by rw [← e]; exact hi.numsOf
  rw [nums_intItems] at hn
  subst hn
  rw [e] at hl
  refine call_max_walkD (iter_intList hl fun s₂ e2 st hfp hlI => ?_)
  refine ⟨_, _, _, _, _, _, _, s.heap, fun i j => decide (numAt xs i > numAt xs j), rfl, (Walks.list (A := A.in1) hh _ l hlI (intItems xs)).toS, st, hfp, fun b o hb hm => ?_, fun b o hb => ?_, fun hz s' hm => ?_, fun hp => ⟨?_, fun v s' hP hm => ?_⟩⟩
  · rcases List.mem_cons.mp hm with e1 | hm
    · exact absurd (e1 ▸ Heap.lt_size hb) (Nat.lt_irrefl _)
    · cases hm
  · rw [e2]; exact Heap.get?_push_of_some _ hb
  · obtain ⟨h', tk, rfl, hk⟩ := moved_kept rfl e2 hm
    refine h0 ?_ h' tk hk
    have hz' : xs.size = 0 := by simpa [intItems] using hz
    have : xs.toList = [] := List.eq_nil_of_length_eq_zero (by rw [Array.length_toList]; exact hz')
    rw [this]; rfl
  · exact fun i j vi vj s' Q E _ hi hj hq => CmpOf.ints_gt (numAt xs) (fun _ _ => intItems_at) i j vi vj s' Q E hi hj hq
  · obtain ⟨h', tk, rfl, hk⟩ := moved_kept rfl e2 hm
    have hsz : 0 < xs.size := by simpa [intItems] using hp
    obtain ⟨t, rfl⟩ := intItems_at hP
    have e3 : (intItems xs).size - 1 = xs.size - 1 := by simp [intItems]
    rw [e3]
    obtain ⟨h1, h2⟩ := argBest_gt (numAt xs) (xs.size - 1)
    refine h h' tk _ t hk ?_ fun a ha => ?_
    · rw [numAt_eq]; exact PySem.getD_mem (by rw [List.length_map, Array.length_toList]; omega)
    · obtain ⟨j, hj, rfl⟩ := mem_getD ha
      rw [List.length_map, Array.length_toList] at hj
      rw [← numAt_eq]; exact h2 j (by omega)
end
section
variable {X : Cx} {cs : Nat → Option Addr} {e e1 e2 e3 : Expr} {es : List Expr} {f f1 f2 f3 : Env → Sto → Option (Val × Sto)} {g : Env → Sto → Option (List Val × Sto)} {pos : Pos}
def rMaxDf (K : PySem.W.Frag) : List V → List V → Hp → VK → Prop := fun vs zs H Q => ∃ (a : Addr) (ns : List Int) (d : V), vs = [V.ref a] ∧ zs = [d] ∧ SqL K H a (ns.map V.int) ∧ (ns = [] → Q d H) ∧ (∀ m, m ∈ ns → (∀ y, y ∈ ns → y ≤ m) → Q (.int m) H)
theorem cr_maxDf (hc : X.calm = true) : CallRK X (.builtin "max") [Str.ofString "default"] (rMaxDf X.K) := by
  intro pins s σ H vs zs us ws Q I r rz h
  obtain ⟨a, ns, d, rfl, rfl, hs, q0, q⟩ := h
  obtain ⟨its, rv, hl, _⟩ := I.list hs
  rw [Vals.ref1 r]
  obtain ⟨w1, rfl, e1⟩ := vals1 rz
  exact maxd_raw (I.ok.hd hc) hl.isList rv.ints (fun z h' tk hk => ⟨d, H, I.kept hk, e1, q0 z⟩) fun h' tk m t' hk h1 h2 => ⟨.int _, H, I.kept hk, ⟨_, rfl⟩, q m h1 h2⟩
def fMaxD (f1 f2 : Env → Sto → Option (Val × Sto)) : Env → Sto → Option (Val × Sto) := fun env st => (f1 env st).bind fun r => (f2 env r.2).bind fun q => (biV .maxD [r.1, q.1] q.2).map fun d => (.dat d, q.2)
theorem s_maxD {p kpos : Pos} {kw : Str} (hkw : kw = Str.ofString "default") (hc : X.calm = true) (hg : Gl X "max") (hm : X.mg "max" = none) (h1 : PE X e1 (tE X.K cs f1)) (h2 : PE X e2 (tE X.K cs f2)) (hs : nStar e1 = true) :
    PE X (.Call (.Name "max" p) [e1] [⟨some kw, e2, kpos⟩] pos) (tE X.K cs (fMaxD f1 f2)) := by
  subst hkw
  refine (pe_callBK (cr_maxDf hc) hg hm (by decide +kernel) (pa_cons h1 pa_nil (noStar hs)) (pk_cons h2 pk_nil) (by decide) (by decide) (by rw [noStar hs]; rfl) (by rw [noStar hs]; rfl) rfl rfl rfl).weak fun σ H Q ⟨F, B, as, env, st, v, st', r, ev, k⟩ => ?_
  obtain ⟨⟨x, s1⟩, ex, ev1⟩ := obnd ev
  obtain ⟨⟨y, s2⟩, ey, ev2⟩ := obnd ev1
  obtain ⟨d, hd, ev3⟩ := omap ev2
  clear ev ev1 ev2
  cases ev3
  refine ⟨F, B, as, env, st, x, s1, r, ex, fun F1 as1 H1 u r1 x1 v1 => ⟨F1, B, as1, env, s1, y, s2, r1, ey, fun F2 as2 H2 u2 r2 x2 v2 => ?_⟩⟩
  unfold biV at hd
  split at hd <;> try contradiction
  rename_i v i he1 he2
  cases he2
  obtain ⟨ds, hds, hd⟩ := obnd hd
  obtain ⟨ns, hns, e⟩ := omap hd
  subst e
  obtain ⟨a, us, rfl, ha, hq⟩ := asL_ok r2.toRSt hds (v1.ext x2)
  rw [intsD_ok hns hq] at ha
  refine ⟨a, ns, _, rfl, rfl, ha, fun z => ?_, fun m h1 h2 => ?_⟩
  · subst z
    refine k F2 as2 H2 _ r2 (x1.trans x2) ?_
    rw [int_of v2]; exact vint
  · refine k F2 as2 H2 _ r2 (x1.trans x2) ?_
    have hm : ∃ M, maxOf ns = some M := by
      have : ∀ ns : List Int, ns ≠ [] → ∃ M, maxOf ns = some M := by
        intro ns
        induction ns with
        | nil => intro h; exact absurd rfl h
        | cons a r ih =>
          intro _
          cases r with
          | nil => exact ⟨a, rfl⟩
          | cons b r =>
            obtain ⟨M, hM⟩ := ih (by simp)
            simp only [maxOf] at hM ⊢
            rw [hM]
            exact ⟨_, rfl⟩
      exact this ns (List.ne_nil_of_mem h1)
    obtain ⟨M, hM⟩ := hm
    obtain ⟨m1, m2⟩ := maxOf_ok hM
    have e : m = M := Int.le_antisymm (m2 _ h1) (h2 _ m1)
    subst e
    rw [hM]
    exact vint
theorem nil_of {sp : Sp} {E : XK} {σ : L2.St} {H : Hp} {Q : VK} (h : tCall sp [] E (tEs X.K cs fun _ st => some ([], st)) σ H Q) : tCall sp [] E tNil σ H Q := by
  obtain ⟨F, B, as, env, st, vs, st', r, ev, k⟩ := h
  cases ev
  exact k F as H [] r r.refl .nil
theorem s_call0 {C : Calls} {i : Nat} {m : List Bool} {d n : Nat} {x : Str} {p : Pos} (hx : FnAt X cs d n x (C i)) (hn : ∀ a s q, C i a s = some q → a.length = n) (hr : Room d X.A) (hg : Gl X x) (hd : (x == ("__debug__" : Str)) = false) :
    PE X (.Call (.Name x p) [] [] pos) (tE X.K cs fun env st => (fCallV C i m (fun _ st => some ([], st)) env st).bind frz) := by
  obtain ⟨fa, fd, ps, h1, h2, h3, h4⟩ := hx.ex
  refine (pe_call0 h4 hr hg h1 h2 h3 .nil pass0 hd).weak fun σ H Q h => ?_
  exact nil_of (frz_of hn σ H Q h)
theorem s_callA0 {C : Calls} {i : Nat} {m : List Bool} {d n : Nat} {x : Str} {p : Pos} (hx : FnAt X cs d n x (C i)) (hn : ∀ a s q, C i a s = some q → a.length = n) (hr : Room d X.A) (hg : Gl X x) (hd : (x == ("__debug__" : Str)) = false) :
    PE X (.Call (.Name x p) [] [] pos) (tE X.K cs fun env st => (fCallV C i m (fun _ st => some ([], st)) env st).bind own) := by
  obtain ⟨fa, fd, ps, h1, h2, h3, h4⟩ := hx.ex
  refine (pe_call0 h4 hr hg h1 h2 h3 .nil pass0 hd).weak fun σ H Q h => ?_
  exact nil_of (own_of hn σ H Q h)
def tKVok (X : Cx) (cs : Nat → Option Addr) (trs : List (TE × TE)) (f : Env → Sto → Option ((List K1 × List D) × Sto)) : Prop := ∀ σ H Q,
  (∃ F B as env st r st', Rel X.K cs F B as env st σ H ∧ f env st = some (r, st') ∧ ∀ F' as' H' us, Rel X.K cs F' B as' env st' σ H' → Ext F as H F' as' H' → Dens X.K F' r.2 us → r.1.length = r.2.length → Q ((r.1.map k2V).zip us) H') → tPairs trs σ H Q
theorem kv_nil : tKVok X cs [] fun _ st => some (([], []), st) := fun σ H Q ⟨F, B, as, env, st, r, st', rel, ev, k⟩ => by
  cases ev
  exact k F as H [] rel rel.refl (Dens.nil.mpr rfl) rfl
def fKV (f1 f2 : Env → Sto → Option (Val × Sto)) (f : Env → Sto → Option ((List K1 × List D) × Sto)) : Env → Sto → Option ((List K1 × List D) × Sto) := fun env st =>
  (f1 env st).bind fun x => (f2 env x.2).bind fun y => (toD y.1 y.2).bind fun p => (f env p.2).bind fun t => (keyR x.1).bind fun k =>
      if (dlook t.1.1 t.1.2 k).isSome then none else some ((k :: t.1.1, p.1 :: t.1.2), t.2)
theorem key_is {F B : Hp} {as : List Addr} {v : Val} {u : V} {k : K1} (h : keyR v = some k) (q : VOk X.K F B as v u) : u = k2V k := by
  unfold keyR at h
  split at h
  · unfold toK at h
    split at h
    · cases h; exact int_of q
    · cases h; exact str_of q
    · cases h
  · cases h
theorem kv_cons {trs : List (TE × TE)} {f : Env → Sto → Option ((List K1 × List D) × Sto)} (h : tKVok X cs trs f) : tKVok X cs ((tE X.K cs f1, tE X.K cs f2) :: trs) (fKV f1 f2 f) := fun σ H Q ⟨F, B, as, env, st, r, st', rel, ev, k⟩ => by
  obtain ⟨⟨x, s1⟩, ex, ev⟩ := obnd ev
  obtain ⟨⟨y, s2⟩, ey, ev⟩ := obnd ev
  obtain ⟨⟨d, s3⟩, ed, ev⟩ := obnd ev
  obtain ⟨⟨⟨ks, ds⟩, s4⟩, et, ev⟩ := obnd ev
  obtain ⟨kx, ek, ev⟩ := obnd ev
  dsimp only at ex ey ed et ek ev
  split at ev
  · cases ev
  cases ev
  refine ⟨F, B, as, env, st, x, s1, rel, ex, fun F1 as1 H1 u r1 x1 v1 => ⟨F1, B, as1, env, s1, y, s2, r1, ey, fun F2 as2 H2 u2 r2 x2 v2 => ?_⟩⟩
  obtain ⟨F3, r3, x3, q3⟩ := toD_ok r2 ed v2
  refine h σ H2 _ ⟨F3, B, as2, env, s3, (ks, ds), _, r3, et, fun F4 as4 H4 us r4 x4 d4 hl => ?_⟩
  have := k F4 as4 H4 (u2 :: us) r4 (((x1.trans x2).trans x3).trans x4) (Dens.cons.mpr ⟨u2, us, rfl, Den.mono x4.ff _ _ q3, d4⟩) (by simpa using hl)
  rw [key_is ek v1]
  exact this
theorem RSt.over {F B H : Hp} {as : List Addr} {st : Sto} (r : RSt X.K cs F B as st H) {p : Addr} {o : HO} (hF : F p = none) (hB : B p = none) (ha : p ∉ as) : RSt X.K cs F B as st (upd H p o) := by
  refine ⟨fun a x h => ?_, fun a x h => ?_, r.nd, r.len, r.nb, fun l a x e1 e2 => ?_⟩
  · rw [upd_ne (by intro e; rw [e, hF] at h; cases h)]; exact r.fh _ _ h
  · rw [upd_ne (by intro e; rw [e, hB] at h; cases h)]; exact r.bh _ _ h
  · obtain ⟨z, ho, e3, e4⟩ := r.obj l a x e1 e2
    exact ⟨z, ho, by rw [upd_ne (by intro e; exact ha (e ▸ List.mem_of_getElem? e1))]; exact e3, e4⟩
theorem Ext.over {F F2 H H2 : Hp} {as as2 : List Addr} {p : Addr} {o o' : HO} (x : Ext F as (upd H p o) F2 as2 H2) (hp : H p = none) (ha : p ∉ as) : Ext F as H F2 as2 (upd H2 p o') := by
  refine ⟨x.ff, x.pre, fun a y h hn => ?_, fun a h => ?_, fun a h h' => ?_, fun a h h' => ?_⟩
  · have : a ≠ p := fun e => by rw [e, hp] at h; cases h
    rw [upd_ne this]
    exact x.fr a y (by rw [upd_ne this]; exact h) hn
  · have : a ≠ p := fun e => ha (e ▸ h)
    rw [upd_ne this]
    exact x.frA a h
  · rcases x.nf a h h' with q | q
    · have : a ≠ p := fun e => by rw [e, upd_same] at q; cases q
      rw [upd_ne this] at q
      exact .inl q
    · exact .inr q
  · have q := x.na a h h'
    have : a ≠ p := fun e => by rw [e, upd_same] at q; cases q
    rw [upd_ne this] at q
    exact q
theorem merge_new : ∀ {more kvs : List (Key × V)}, ((kvs ++ more).map (·.1)).Nodup → mergeK kvs more = kvs ++ more
  | [], kvs, _ => by simp [mergeK]
  | p :: r, kvs, h => by
    have h1 : valV kvs p.1 = none := by
      cases e : valV kvs p.1 with
      | none => rfl
      | some v =>
        exfalso
        have : p.1 ∈ kvs.map (·.1) := by
          unfold valV at e
          obtain ⟨q, hq, _⟩ := Option.map_eq_some_iff.mp e
          have h2 := List.mem_of_find?_eq_some hq
          have h3 := List.find?_some hq
          exact List.mem_map.mpr ⟨q, h2, by simpa using h3⟩
        rw [List.map_append, List.nodup_append] at h
        exact h.2.2 _ this _ (by simp) rfl
    have e : mergeK kvs (p :: r) = mergeK (putK kvs p.1 p.2) r := rfl
    rw [e, putK_new _ h1, merge_new (by simpa using h)]
    simp
theorem fst_zip_keys {ks : List K1} {us : List V} (h : ks.length = us.length) : ((ks.map kk).zip us).map (·.1) = ks.map kk := by
  rw [List.map_fst_zip (by rw [List.length_map]; omega)]
theorem pairs_zip : ∀ {ks : List K1} {us : List V}, (ks.map k2V).zip us = ((ks.map kk).zip us).map fun kv => (kV kv.1, kv.2)
  | [], us => by simp
  | k :: ks, [] => by simp
  | k :: ks, u :: us => by
    simp only [List.map_cons, List.zip_cons_cons]
    rw [pairs_zip (ks := ks), k2V_kV]
theorem s_dic {keys : List (Option Expr)} {values : List Expr} {trs : List (TE × TE)} {f : Env → Sto → Option ((List K1 × List D) × Sto)} (h : PPs X pos keys values trs) (hk : tKVok X cs trs f) (hall : keys.all (·.isSome) = true) (hl : keys.length = values.length) (h0 : keys ≠ []) (h15 : keys.length ≤ 15)
    (hn : ∀ env st r st', f env st = some (r, st') → r.1.length = keys.length ∧ r.1.Nodup) : PE X (.Dict keys values pos) (tO X.K cs fun env st => (f env st).map fun r => (.dK r.1.1 r.1.2, r.2)) :=
  (pe_disp h hall hl h0 h15).weak fun σ H Q ⟨F, B, as, env, st, o, st', rel, ev, k⟩ => by
    obtain ⟨⟨⟨ks, ds⟩, s1⟩, e1, e2⟩ := omap ev
    cases e2
    intro p hp
    obtain ⟨r1, x1⟩ := rel.toRSt.extra (o := .dK []) hp
    obtain ⟨f1, f2, f3⟩ := rel.toRSt.free hp
    refine hk σ _ _ ⟨F, B, as, env, st, (ks, ds), s1, rel.slots x1 r1, e1, fun F2 as2 H2 us r2 x2 hd hle => ?_⟩
    obtain ⟨hn1, hn2⟩ := hn _ _ _ _ e1
    dsimp only at hn1 hn2 hle hd
    have hus := hd.length
    have hH2 := x2.fr p _ upd_same f3
    have hF2 : F2 p = none := by
      cases q : F2 p with
      | none => rfl
      | some z =>
        rcases x2.nf p (by rw [q]; simp) f1 with q | q
        · rw [upd_same] at q; cases q
        · exact absurd q f3
    have ha2 : p ∉ as2 := fun hm => by
      have q := x2.na p hm f3
      rw [upd_same] at q; cases q
    refine ⟨hH2, (ks.map kk).zip us, pairs_zip, ?_, ?_⟩
    · rw [List.length_zip, List.length_map]; omega
    · have hnd : (ks.map kk).Nodup := by
        rw [List.Nodup, List.pairwise_map]
        exact hn2.imp fun h e => h (kk_inj e)
      rw [merge_new (by rw [List.nil_append, fst_zip_keys (by omega)]; exact hnd), List.nil_append]
      have r3 := r2.toRSt.over (o := .dK ((ks.map kk).zip us)) hF2 f2 ha2
      have x3 := x2.over (o' := .dK ((ks.map kk).zip us)) hp f3
      refine k F2 as2 _ p _ { r3 with slot := r2.slot, elen := r2.elen } x3 hp hF2 ha2 upd_same ⟨us, rfl, hle, hd⟩
def rDUpdate : V → List V → Hp → VK → Prop := fun x vs H Q => ∃ (a o : Addr) (kvs more : List (Key × V)), x = .ref a ∧ vs = [.ref o] ∧ H a = some (.dK kvs) ∧ Rd H o (.dK more) ∧ a ≠ o ∧ kvs.length + more.length ≤ sizeLine ∧ Q .non (upd H a (.dK (mergeK kvs more)))
theorem mtd_update : MtR X "dict.update" rDUpdate := by
  intro pins s σ H x vs v us Q I rx rv h
  obtain ⟨a, o, kvs, more, ex, ev, e, e2, hne, hsz, q⟩ := h
  subst ex ev
  obtain rfl : v = Value.ref a := rx
  rw [Vals.ref1 rv]
  obtain ⟨z, hd, vs0, rel, dd⟩ := dk_of I.hok e
  obtain ⟨z2, hd2, ms, rel2, dd2⟩ := dk_rd I.hok e2
  refine call_meetsIn PySem.F.slot_dict_update dd.typeIs PySem.F.entry_dict_update (PySem.F.args_dict_update_2 _ _) (meets_dict_update (mixKind X.prog X.w) a o hne hd2) ⟨vs0, ms, dd, dd2, by rw [← rel.length, ← rel2.length]; exact hsz, fun h' dd' _ hs => ?_⟩
  refine ⟨.non, _, ?_, rfl, q⟩
  have hz : (mergeK kvs more).length ≤ sizeLine := Nat.le_trans (length_mergeK more kvs) hsz
  have he : ∃ q, h'.get? a = some q := let ⟨q, _, _, hq, _⟩ := dd'; ⟨q, hq⟩
  exact d_write (t' := s.toks) I (by rw [e]; exact True.intro) hs he (dk_new hz hd (rel2.merge rel) dd')
theorem upd_zip {K : PySem.W.Frag} {F : Hp} : ∀ {js : List K1} {es : List D} {ks : List K1} {ds : List D} {us vs : List V}, js.length = es.length → Dens K F es vs → ks.length = ds.length → Dens K F ds us →
    ∃ us', mergeK ((ks.map kk).zip us) ((js.map kk).zip vs) = ((updK ks ds js es).1.map kk).zip us' ∧ (updK ks ds js es).1.length = (updK ks ds js es).2.length ∧ Dens K F (updK ks ds js es).2 us'
  | [], [], ks, ds, us, vs, _, _, hl, hd => ⟨us, by simp [mergeK, updK], hl, hd⟩
  | [], _ :: _, _, _, _, _, h, _, _, _ => by simp at h
  | _ :: _, [], _, _, _, _, h, _, _, _ => by simp at h
  | j :: js, e :: es, ks, ds, us, vs, hj, he, hl, hd => by
    obtain ⟨v, vs', rfl, q, qs⟩ := Dens.cons.mp he
    obtain ⟨us1, h1, h2, h3⟩ := dput_zip (g := kk) (fun _ _ => kk_inj) q (ks := ks) (ds := ds) (us := us) (k := j) hl hd
    obtain ⟨us2, h4, h5, h6⟩ := upd_zip (js := js) (es := es) (by simpa using hj) qs h2 h3
    refine ⟨us2, ?_, h5, h6⟩
    show mergeK (putK ((ks.map kk).zip us) (kk j) v) ((js.map kk).zip vs') = _
    rw [h1]
    exact h4
theorem mt_update_ok {x y : Val} {st st' : Sto} {v : Val} (h : mtV .update x [y] st = some (v, st')) : MtFact X cs .update x [y] st st' v := by
  unfold mtV at h
  split at h <;> try contradiction
  rename_i l js es _ he
  cases he
  split at h
  case h_2 => cases h
  rename_i ks ds hl
  split at h
  case isFalse => cases h
  rename_i hlen
  cases h
  have kl := kind_dK hl
  refine ⟨_, _, .inr (.inr ⟨kl, _, rfl⟩), mtd_update, by rw [kl]; exact F.plainAttrs_dict, by rw [kl]; exact F.slot_dict_update, F.type_dict_update, fun F B as env σ H u us Q r q p k => ?_⟩
  obtain ⟨a, ea, rfl⟩ := q
  obtain ⟨_, ho', e1, us', rfl, hl', hq⟩ := r.obj l a _ ea hl
  obtain ⟨w', rfl, qy⟩ := paired1 p
  obtain ⟨b, vs', rfl, hb, hlb, hqb⟩ := Den.dK_iff.mp qy
  obtain ⟨us2, h1, h2, h3⟩ := upd_zip hlb hqb hl' hq
  obtain ⟨r2, x2⟩ := r.toRSt.write (o' := .dK (updK ks ds js es).1 (updK ks ds js es).2) (ho := .dK (((updK ks ds js es).1.map kk).zip us2)) ea hl (by simp) ⟨us2, rfl, h2, h3⟩
  have hne : a ≠ b := fun e => by
    obtain ⟨z, _⟩ := r.obj l a _ ea hl
    have hF : F a = none := z.resolve_left (by simp)
    subst e
    rcases hb with hb | ⟨o, hb⟩ <;> rw [hF] at hb <;> cases hb
  refine ⟨a, b, _, _, rfl, rfl, e1, rd_mono r.fh hb, hne, ?_, by rw [h1]; exact k F _ _ (r.slots x2 r2) x2 vnon⟩
  rw [List.length_zip, List.length_zip, List.length_map, List.length_map, ← line_eq]
  have := hq.length
  have := hqb.length
  omega
end
end NK
set_option Elab.async false
set_option linter.all false
set_option autoImplicit false
set_option maxRecDepth 100000
set_option maxHeartbeats 4000000
namespace NK
open PySem PySem.Spec PyProof.Rows L2
def entW (w : World) (q : Str × Tok) : Int × Value := (hashStr w q.1, .str q.1 q.2)
structure TxP (w : World) (es : Array (Int × Value)) (t : SetTable) (ks : List Str) : Prop where
  pm : ∃ qs : List (Str × Tok), es.toList.Perm (qs.map (entW w)) ∧ qs.map (·.1) = ks
  nd : ks.Nodup
  bd : es.size < scanBound
  fit : t.fits es.size = true
  ris : Ris t.place.toList
  led : w.params.followText "set-order" = true ∨ t.led = true
def TxS (w : World) (h : Heap) (a : Addr) (ks : List Str) : Prop := ∃ o es ep t, h.get? a = some o ∧ o.ExactSet ∧ o.data = .set es ep t ∧ TxP w es t ks
section
variable {P : Program} {w : World} {A : Around} {E : Value → Shared → Prop} {s : Shared} {a : Addr} {ks : List Str}
theorem ent_is (k : Str) (q : Str × Tok) : (strKind P w).is k (entW w q).2 = true ↔ q.1 = k := by
  show Value.isStrOf k (.str q.1 q.2) = true ↔ _
  simp [Value.isStrOf]
theorem TxP.size {es : Array (Int × Value)} {t : SetTable} (F : TxP w es t ks) : es.size = ks.length := by
  obtain ⟨qs, h1, h2⟩ := F.pm
  rw [← Array.length_toList, h1.length_eq, List.length_map, ← h2, List.length_map]
theorem TxP.elems {es : Array (Int × Value)} {t : SetTable} (F : TxP w es t ks) : ElemsOf (strKind P w) es.toList := fun e he => by
  obtain ⟨qs, h1, h2⟩ := F.pm
  obtain ⟨q, _, rfl⟩ := List.mem_map.mp (h1.mem_iff.mp he)
  exact ⟨⟨q.1, (ent_is q.1 q).mpr rfl, rfl⟩, rfl⟩
theorem TxP.has {es : Array (Int × Value)} {t : SetTable} (F : TxP w es t ks) (k : Str) : k ∈ ks ↔ ∃ e ∈ es.toList, (strKind P w).is k e.2 = true := by
  obtain ⟨qs, h1, h2⟩ := F.pm
  rw [← h2]
  constructor
  · intro h
    obtain ⟨q, hq, e⟩ := List.mem_map.mp h
    exact ⟨entW w q, h1.mem_iff.mpr (List.mem_map.mpr ⟨q, hq, rfl⟩), (ent_is k q).mpr e⟩
  · rintro ⟨e, he, h⟩
    obtain ⟨q, hq, rfl⟩ := List.mem_map.mp (h1.mem_iff.mp he)
    exact List.mem_map.mpr ⟨q, hq, (ent_is k q).mp h⟩
theorem TxS.at {h h' : Heap} (R : TxS w h a ks) (k : ∀ o, h.get? a = some o → h'.get? a = some o) : TxS w h' a ks := by
  obtain ⟨o, es, ep, t, ho, r⟩ := R
  exact ⟨o, es, ep, t, k o ho, r⟩
theorem put_at {h : Heap} {o : PySem.Obj} {es es' : Array (Int × Value)} {ep : Nat} {t t' : SetTable} (ho : h.get? a = some o) (hd : o.data = .set es ep t) : (h.update a (Obj.putSet es' t')).get? a = some { o with data := .set es' (ep + 1) t' } := L2.store_at ho hd
theorem txs_tail {g : Bool → Sem Unit} (hg : ∀ (b : Bool) (s₁ : Shared) (Q' : Unit → Shared → Prop), Q' () s₁ → wpAny (model P w) A (g b) Q' E s₁)
    {o : PySem.Obj} {es : Array (Int × Value)} {ep : Nat} {t : SetTable} (ho : s.heap.get? a = some o) (hex : o.ExactSet) (hd : o.data = .set es ep t)
    {es1 : Array (Int × Value)} {t2 : SetTable} (F : TxP w es1 t2 ks) {wasDummy : Bool} {R : Option Bool → Shared → Prop}
    (hR : ∀ h', Heap.SameBut a s.heap h' → TxS w h' a ks → R (some true) { s with heap := h' }) :
    wpAny (model P w) A (do
        storeSet a es1 t2
        if (!wasDummy && t2.tooFull) = true then do
            g (relayAll t2 es1 (SetTable.grown es1.size)).2.2
            storeSet a (relayAll t2 es1 (SetTable.grown es1.size)).1 (relayAll t2 es1 (SetTable.grown es1.size)).2.1
            pure (some true)
          else pure (some true)) R E s := by
  have z1 := put_at (es' := es1) (t' := t2) ho hd
  have b1 := Heap.SameBut.update s.heap a (Obj.putSet es1 t2)
  refine wpAny_bind (wpAny_storeSet_of ho hd ?_ (fits_of_scanBound F.bd))
  by_cases hc : (!wasDummy && t2.tooFull) = true
  · rw [if_pos hc]
    have q1 := relayAll_perm t2 es1 (SetTable.grown es1.size)
    have q2 := relayAll_fits t2 es1 (SetTable.grown es1.size)
    have q3 := L2.relayAll_ris t2 es1 (SetTable.grown es1.size)
    have q4 := L2.relayAll_led t2 es1 (SetTable.grown es1.size)
    revert q1 q2 q3 q4
    generalize relayAll t2 es1 (SetTable.grown es1.size) = Z
    intro q1 q2 q3 q4
    obtain ⟨es2, t3, gave⟩ := Z
    have n2 : es2.size = es1.size := by
      have := q1.length_eq
      rwa [Array.length_toList, Array.length_toList] at this
    have F2 : TxP w es2 t3 ks := by
      obtain ⟨qs, u1, u2⟩ := F.pm
      exact ⟨⟨qs, q1.trans u1, u2⟩, F.nd, by rw [n2]; exact F.bd, q2, q3, F.led.imp id fun z => q4.trans z⟩
    refine wpAny_bind (hg _ _ _ (wpAny_bind (wpAny_storeSet_of z1 rfl (wpAny_pure (hR _ (b1.trans (Heap.SameBut.update _ a _)) ⟨_, es2, _, t3, put_at z1 rfl, hex, rfl, F2⟩)) (fits_of_scanBound F2.bd))))
  · rw [if_neg hc]
    exact wpAny_pure (hR _ b1 ⟨_, es1, _, t2, z1, hex, rfl, F⟩)
theorem txs_add {k : Str} {tk : Tok} {Q : Bool → Shared → Prop} (R : TxS w s.heap a ks) (room : ks.length + 1 < scanBound)
    (hQ : ∀ b h', Heap.SameBut a s.heap h' → TxS w h' a (if k ∈ ks then ks else k :: ks) → Q b { s with heap := h' }) :
    wpAny (model P w) A (setAddHashed a (.str k tk) ((strKind P w).hash k)) Q E s := by
  obtain ⟨o, es, ep, t, ho, hex, hd, F⟩ := R
  have hkey : (strKind P w).is k (.str k tk) = true := (ent_is (P := P) (w := w) k (k, tk)).mpr rfl
  have hsc : (Value.str k tk).scannable = true := rfl
  have hel := F.elems (P := P)
  unfold setAddHashed setAddHashedIn
  refine wpAny_holding (wpAny_bind (wpAny_setState_of ho hd F.fit ?_))
  dsimp only
  rw [byScan_of hsc F.bd hel]
  simp only [↓reduceIte]
  unfold setAddByScan
  refine wpAny_bind (wpAny_bind (wpAny_rule (wpAny_bind (wpAny_setScan_of hkey ho hd F.fit hel ?_))))
  cases hfi : List.findIdx? (fun e => (strKind P w).is k e.2) es.toList with
  | some j =>
    dsimp only
    obtain ⟨hj, pj, _⟩ := List.findIdx?_eq_some_iff_getElem.mp hfi
    have hk : k ∈ ks := (F.has (P := P) k).mpr ⟨es.toList[j], List.getElem_mem hj, pj⟩
    exact wpAny_pure (wpAny_pure (hQ _ s.heap (Heap.SameBut.refl a s.heap) (by rw [if_pos hk]; exact ⟨o, es, ep, t, ho, hex, hd, F⟩)))
  | none =>
    dsimp only
    have hk : k ∉ ks := fun z => by
      obtain ⟨e, he, q⟩ := (F.has (P := P) k).mp z
      have c := List.findIdx?_eq_none_iff.mp hfi e he
      rw [q] at c
      cases c
    have way : ∀ (b : Bool) {s₁ : Shared} {Q' : Unit → Shared → Prop}, Q' () s₁ → wpAny (model P w) A (match b with | true => rule "set.scan.the-table-gave-way" | false => pure ()) Q' E s₁ :=
      fun b s₁ Q' q => by cases b <;> first | exact wpAny_pure q | exact wpAny_rule q
    have p1 := layNew_perm t es ((strKind P w).hash k) (.str k tk)
    have p2 := layNew_fits t es ((strKind P w).hash k) (.str k tk)
    have p3 := L2.layNew_ris t es ((strKind P w).hash k) (.str k tk) F.ris
    have p4 := L2.layNew_led t es ((strKind P w).hash k) (.str k tk)
    revert p1 p2 p3 p4
    generalize layNew t es ((strKind P w).hash k) (.str k tk) = Z
    intro p1 p2 p3 p4
    obtain ⟨es1, t1, wasDummy, gave⟩ := Z
    dsimp only at p1 p2 p3 p4 ⊢
    rw [Array.toList_push] at p1
    have pc : es1.toList.Perm (((strKind P w).hash k, Value.str k tk) :: es.toList) := p1.trans (List.perm_append_singleton _ _)
    have hsz : es1.size = ks.length + 1 := by rw [← Array.length_toList, pc.length_eq, List.length_cons, Array.length_toList, F.size]
    have mk : ∀ t' : SetTable, t'.fits es1.size = true → Ris t'.place.toList → (w.params.followText "set-order" = true ∨ t'.led = true) → TxP w es1 t' (k :: ks) := fun t' f1 f2 f3 => by
      obtain ⟨qs, u1, u2⟩ := F.pm
      exact ⟨⟨(k, tk) :: qs, pc.trans (u1.cons _), by rw [List.map_cons, u2]⟩, List.nodup_cons.mpr ⟨hk, F.nd⟩, by rw [hsz]; exact room, f1, f2, f3⟩
    have hled : w.params.followText "set-order" = true ∨ t1.led = true := F.led.imp id fun z => p4.trans z
    have fin : ∀ h', Heap.SameBut a s.heap h' → TxS w h' a (k :: ks) → Q true { s with heap := h' } := fun h' sb r => hQ true h' sb (by rw [if_neg hk]; exact r)
    have soft : ∀ (b : Bool) (s₁ : Shared) (Q' : Unit → Shared → Prop), Q' () s₁ → wpAny (model P w) A (match b with | true => rule "set.scan.the-table-gave-way" | false => pure ()) Q' E s₁ := fun b s₁ Q' q => way b q
    refine wpAny_bind (way _ ?_)
    split
    · rw [hashByValue_scannable 8 hsc]
      refine wpAny_bind (wpAny_pure ?_)
      refine txs_tail ?_ ho hex hd (mk _ ?_ ?_ ?_) ?_
      · intro b s₁ Q' q
        cases b <;> first | exact wpAny_pure q | exact wpAny_rule q
      · first | exact SetTable.fits_plain_off p2 | (split <;> first | exact p2 | exact SetTable.fits_plain_off p2)
      · first | exact p3 | (split <;> exact p3)
      · first | exact hled | (split <;> exact hled)
      · intro h' sb r
        dsimp only
        exact wpAny_pure (fin h' sb r)
    · refine wpAny_bind (wpAny_pure ?_)
      simp only [↓reduceIte]
      refine txs_tail ?_ ho hex hd (mk t1 p2 p3 hled) ?_
      · intro b s₁ Q' q
        cases b <;> first | exact wpAny_pure q | exact wpAny_rule q
      · intro h' sb r
        exact wpAny_pure (fin h' sb r)
def seen : List Str → List Str
  | [] => []
  | k :: ks => if k ∈ seen ks then seen ks else k :: seen ks
theorem seen_mem {k : Str} : ∀ ks : List Str, k ∈ seen ks ↔ k ∈ ks
  | [] => Iff.rfl
  | x :: ks => by
    have ih := seen_mem (k := k) ks
    unfold seen
    split
    · rename_i h
      rw [ih, List.mem_cons]
      exact ⟨.inr, fun z => z.elim (fun e => by rw [e]; exact (seen_mem ks).mp h) id⟩
    · rw [List.mem_cons, List.mem_cons, ih]
theorem seen_len : ∀ ks : List Str, (seen ks).length ≤ ks.length
  | [] => Nat.le_refl _
  | x :: ks => by
    have := seen_len ks
    unfold seen
    split
    · rw [List.length_cons]; omega
    · rw [List.length_cons, List.length_cons]; omega
theorem txs_loop {I : Addr} {fp wr : List Addr} {G : Array GenState → Array GenState → Prop} {n : Nat} {Pv : Nat → Value → Prop} {St : Nat → Shared → Prop} {R : Result → Shared → Prop}
    (W : WalksS P w A.in1 I fp wr G n Pv St) (S : Addr) (hSf : S ∉ fp) (ns : List Str) (hn : n = ns.length) (hb : ns.length + 1 < scanBound) (hval : ∀ i v, Pv i v → ∃ k t, ns[i]? = some k ∧ v = .str k t)
    (fin : ∀ s s', Moved (S :: wr) G s s' → TxS w s'.heap S (seen ns.reverse) → R (.ok (.ret .none)) s' → True) :
    ∀ (k i : Nat) (s : Shared), n - i = k → i ≤ n → St i s → TxS w s.heap S (seen (ns.take i).reverse) →
      (∀ s', Moved (S :: wr) G s s' → TxS w s'.heap S (seen ns.reverse) → R (.ok (.ret .none)) s') →
      codeAny (model P w) A (.builtin "set.update.loop" ⟨[.ref S, .ref I], []⟩) R s
  | 0, i, s, hk', hi, hst, hS, hR => by
    obtain rfl : i = n := by omega
    have nw : S ∉ wr := fun h => hSf (W.sub _ h)
    refine codeAny_builtin F.entry_set_update_loop ?_
    rw [Around.under_plainId F.plain_set_update_loop _]
    show wpAny _ A.in1 (pyNext (.ref I) >>= _) _ _ s
    refine wpAny_bind (W.done s _ _ hst fun s' hm => ?_)
    show wpAny _ A.in1 (ret Value.none) _ _ s'
    rw [List.take_of_length_le (by omega)] at hS
    exact wpAny_pure (hR s' (hm.mono fun b hb => List.mem_cons_of_mem _ hb) (hS.at fun o e => hm.heap S o nw e))
  | k + 1, i, s, hk', hi, hst, hS, hR => by
    have hlt : i < n := by omega
    have nw : S ∉ wr := fun h => hSf (W.sub _ h)
    have sub : ∀ b ∈ wr, b ∈ S :: wr := fun b hb => List.mem_cons_of_mem _ hb
    refine codeAny_builtin F.entry_set_update_loop ?_
    rw [Around.under_plainId F.plain_set_update_loop _]
    show wpAny _ A.in1 (pyNext (.ref I) >>= _) _ _ s
    refine wpAny_bind (W.item i s _ _ hlt hst fun v s' hP hst' hm => ?_)
    obtain ⟨z, t, hz, rfl⟩ := hval i v hP
    have hS' : TxS w s'.heap S (seen (ns.take i).reverse) := hS.at fun o e => hm.heap S o nw e
    show wpAny _ A.in1 (holding [Value.str z t] (setAdd S (.str z t)) >>= _) _ _ s'
    refine wpAny_bind (wpAny_holding ?_)
    unfold setAdd
    refine wpAny_holding (wpAny_bind ((strKind P w).pyHash (k := z) ((ent_is (P := P) (w := w) z (z, t)).mpr rfl) ?_))
    have room : (seen (ns.take i).reverse).length + 1 < scanBound := by
      have h1 := seen_len (ns.take i).reverse
      rw [List.length_reverse, List.length_take] at h1
      omega
    refine txs_add (s := { s' with toks := s'.toks + 1 }) hS' room fun b h' hsb hS2 => ?_
    have hS3 : TxS w h' S (seen (ns.take (i + 1)).reverse) := by
      rw [List.take_add_one, hz, Option.toList_some, List.reverse_append, List.reverse_singleton, List.singleton_append]
      unfold seen
      exact hS2
    refine wpAny_pure ⟨plainId_quiet F.plain_set_update_loop _, txs_loop W S hSf ns hn hb hval fin k (i + 1) _ (by omega) hlt (W.frame _ s' _ _ hst' (Nat.le_succ _) fun b hb o e => ?_) hS3 fun s'' hm'' hS'' => ?_⟩
    · rw [hsb.2 b (fun h : b = S => hSf (by rw [← h]; exact hb))]; exact e
    · refine hR s'' (Moved.trans W.gtrans ((hm.mono sub).then_heap (Nat.le_succ _) fun b o hb e => ?_) hm'') hS''
      rw [hsb.2 b (fun h : b = S => hb (by rw [h]; exact List.mem_cons_self))]; exact e
abbrev newSet (w : World) : PySem.Obj := { cls := .type "set", dict := none, data := .set #[] 0 (.fresh 0 0 (!w.params.followText "set-order")) }
theorem txs_new {h : Heap} (ho : h.get? a = some (newSet w)) : TxS w h a (seen ([] : List Str).reverse) :=
  ⟨_, #[], 0, _, ho, ⟨rfl, rfl, rfl⟩, rfl, ⟨⟨[], List.Perm.refl _, rfl⟩, List.nodup_nil, by decide, rfl, List.Pairwise.nil, by
    show _ ∨ (!w.params.followText "set-order") = true
    cases w.params.followText "set-order" <;> simp⟩⟩
theorem sts_at : ∀ {us : List Value} {xs : List Str}, StrsAre us xs → ∀ (i : Nat) (v : Value), us[i]? = some v → ∃ k t, xs[i]? = some k ∧ v = .str k t
  | _, _, .nil, i, v, h => by simp at h
  | _, _, .cons n t hr, 0, v, h => by
    simp at h
    exact ⟨n, t, rfl, h.symm⟩
  | _, _, .cons n t hr, i + 1, v, h => by
    obtain ⟨k, t', a, b⟩ := sts_at hr i v (by simpa using h)
    exact ⟨k, t', by simpa using a, b⟩
set_option maxRecDepth 100000 in
theorem txs_make {l : Addr} {items : Array Value} {ns : List Str} {Q : Value → Shared → Prop} (hh : A.handled = none) (hl : s.heap.IsTuple l items) (hit : StrsAre items.toList ns) (hb : ns.length + 1 < scanBound)
    (h : ∀ (h' : Heap) (tk : Nat), TxS w h' s.heap.objs.size (seen ns.reverse) → (∀ b o, s.heap.get? b = some o → h'.get? b = some o) → Q (.ref s.heap.objs.size) { s with heap := h', toks := tk }) :
    wpAny (model P w) A (PySem.call (.type "set") [.ref l]) Q E s := by
  have hisz : items.size = ns.length := by
    have q := StrsAre.len_eq hit
    rw [Array.length_toList] at q
    exact q
  obtain ⟨c, tl, hmro⟩ := F.called_set.mro
  have hmade := F.called_set.made
  have hsub := F.called_set.sub
  refine wpAny_call (codeAny_of_tree ?_)
  show wpAny _ _ (callAny (.type "set") _) _ _ _
  refine wpAny_pure ⟨Code.quiet_builtin _ (by decide +kernel), codeAny_builtin F.entry_type_call ?_⟩
  rw [Around.under_plain (weight_type_call_type "set" [.ref l] []) rfl]
  have h1 := F.called_set.notType
  have h2 := F.called_set.canCreate
  have hct := F.typeCall_set_1 (.ref l)
  repeat (any_goals (first | assumption | wp_step))
  refine codeAny_mono (L2.code_set_led1 (.ref l) (E := E) (Q₁ := fun obj s₁ => obj = .ref s.heap.objs.size ∧ s₁ = { s with heap := s.heap.push (newSet w) }) ⟨rfl, rfl⟩) fun r s₁ hr => ?_
  match r, hr with
  | .error e, hr => exact hr
  | .ok .next, hr => exact hr.elim
  | .ok .brk, hr => exact hr.elim
  | .ok .cont, hr => exact hr.elim
  | .ok (.ret obj), hr =>
    obtain ⟨rfl, rfl⟩ := hr
    have hS : (s.heap.push (newSet w)).get? s.heap.objs.size = some (newSet w) := Heap.get?_push_size _ rfl
    have hT : Shared.TypeIs { s with heap := s.heap.push (newSet w) } (.ref s.heap.objs.size) "set" := ⟨_, hS, rfl⟩
    have hli := F.called_set.init.lookup
    have hbi := F.called_set.init.bind (.ref s.heap.objs.size)
    repeat (any_goals (first | assumption | wp_step))
    refine codeAny_mono (codeAny_call_builtin (R := wants (fun r s₂ => r = .none ∧ ∃ h' tk, s₂ = { s with heap := h', toks := tk } ∧ TxS w h' s.heap.objs.size (seen ns.reverse) ∧ (∀ b o, s.heap.get? b = some o → h'.get? b = some o)) E) F.called_set.init.plain F.entry_set_init (check_set_init_1 hT ?_)) fun r₂ s₂ hr₂ => ?_
    · obtain ⟨⟨ocls, odict, odata, oslots⟩, hol, hcl, nl, hdl⟩ := hl
      simp only at hcl hdl
      subst hcl; subst hdl
      have hol' := Heap.get?_push_of_some (newSet w) hol
      have hlS : l < s.heap.objs.size := Heap.lt_size hol
      have hsls := F.sub_tuple_set
      have hslf := F.sub_tuple_frozenset
      have hne : (Value.type "tuple" == Value.type "dict") = false := by decide
      have hl1 : (s.heap.push (newSet w)).IsTuple l items := ⟨_, hol', rfl, nl, rfl⟩
      have hz1 : (s.heap.push (newSet w)).objs.size = s.heap.objs.size + 1 := Heap.size_push ..
      have hneI : l ≠ (s.heap.push (newSet w)).objs.size := by rw [hz1]; exact Nat.ne_of_lt (Nat.lt_succ_of_lt hlS)
      have hSf : s.heap.objs.size ∉ [(s.heap.push (newSet w)).objs.size, l] := by
        rw [hz1]; simp only [List.mem_cons, List.not_mem_nil, or_false, not_or]
        exact ⟨Nat.ne_of_lt (Nat.lt_succ_self _), Nat.ne_of_gt hlS⟩
      unfold Builtin.«set.__init__» noKeywords Builtin.Frozenset.updateFrom
      generalize hPI : pyIter = PI
      wp_walk
      subst hPI
      refine wpAny_pyIter_tuple hl1 (wpAny_bind (wpAny_runValue ?_))
      refine txs_loop (A := A.in1.in1) ((Walks.tuple (by simp [hh]) _ l hneI items).toS) s.heap.objs.size hSf ns hisz hb (fun i v hv => sts_at hit i v (by rw [Array.getElem?_toList]; exact hv)) (fun _ _ _ _ _ => trivial) (items.size - 0) 0 _ (by omega) (Nat.zero_le _)
        ⟨⟨_, Heap.get?_push_size _ rfl, rfl, rfl⟩, (hl1.push _)⟩ ?hS0 ?hR
      case hS0 => exact txs_new (Heap.get?_push_of_some _ hS)
      case hR =>
        intro s' hm hS'
        obtain ⟨h', g2, d', tk', os'⟩ := s'
        obtain rfl : g2 = s.gens := hm.gens
        obtain rfl : d' = s.drawn := hm.drawn
        obtain rfl : os' = s.os := hm.os
        show wpAny _ _ _ _ _ _
        refine wpAny_pure ?_
        show wpAny _ _ (ret Value.none) _ _ _
        refine wpAny_pure ⟨rfl, h', tk', rfl, hS', fun b o e => ?_⟩
        have hb0 := Heap.lt_size e
        refine hm.heap b o (fun hmem => ?_) (Heap.get?_push_of_some _ (Heap.get?_push_of_some _ e))
        rw [hz1] at hmem
        simp only [List.mem_cons, List.not_mem_nil, or_false] at hmem
        rcases hmem with z | z
        · exact absurd hb0 (by rw [z]; exact Nat.lt_irrefl _)
        · exact absurd hb0 (by rw [z]; exact Nat.not_lt_of_le (Nat.le_succ _))
    · match r₂, hr₂ with
      | .error e, hr₂ => exact hr₂
      | .ok .next, hr₂ => exact hr₂.elim
      | .ok .brk, hr₂ => exact hr₂.elim
      | .ok .cont, hr₂ => exact hr₂.elim
      | .ok (.ret r), hr₂ =>
        obtain ⟨rfl, h', tk, rfl, hS', hk'⟩ := hr₂
        repeat (any_goals (first | assumption | wp_step))
        exact h _ _ hS' hk'
set_option maxRecDepth 100000 in
theorem txs_makeL {l : Addr} {items : Array Value} {ns : List Str} {Q : Value → Shared → Prop} (hh : A.handled = none) (hl : s.heap.IsList l items) (hit : StrsAre items.toList ns) (hb : ns.length + 1 < scanBound)
    (h : ∀ (h' : Heap) (tk : Nat), TxS w h' s.heap.objs.size (seen ns.reverse) → (∀ b o, s.heap.get? b = some o → h'.get? b = some o) → Q (.ref s.heap.objs.size) { s with heap := h', toks := tk }) :
    wpAny (model P w) A (PySem.call (.type "set") [.ref l]) Q E s := by
  have hisz : items.size = ns.length := by
    have q := StrsAre.len_eq hit
    rw [Array.length_toList] at q
    exact q
  obtain ⟨c, tl, hmro⟩ := F.called_set.mro
  have hmade := F.called_set.made
  have hsub := F.called_set.sub
  refine wpAny_call (codeAny_of_tree ?_)
  show wpAny _ _ (callAny (.type "set") _) _ _ _
  refine wpAny_pure ⟨Code.quiet_builtin _ (by decide +kernel), codeAny_builtin F.entry_type_call ?_⟩
  rw [Around.under_plain (weight_type_call_type "set" [.ref l] []) rfl]
  have h1 := F.called_set.notType
  have h2 := F.called_set.canCreate
  have hct := F.typeCall_set_1 (.ref l)
  repeat (any_goals (first | assumption | wp_step))
  refine codeAny_mono (L2.code_set_led1 (.ref l) (E := E) (Q₁ := fun obj s₁ => obj = .ref s.heap.objs.size ∧ s₁ = { s with heap := s.heap.push (newSet w) }) ⟨rfl, rfl⟩) fun r s₁ hr => ?_
  match r, hr with
  | .error e, hr => exact hr
  | .ok .next, hr => exact hr.elim
  | .ok .brk, hr => exact hr.elim
  | .ok .cont, hr => exact hr.elim
  | .ok (.ret obj), hr =>
    obtain ⟨rfl, rfl⟩ := hr
    have hS : (s.heap.push (newSet w)).get? s.heap.objs.size = some (newSet w) := Heap.get?_push_size _ rfl
    have hT : Shared.TypeIs { s with heap := s.heap.push (newSet w) } (.ref s.heap.objs.size) "set" := ⟨_, hS, rfl⟩
    have hli := F.called_set.init.lookup
    have hbi := F.called_set.init.bind (.ref s.heap.objs.size)
    repeat (any_goals (first | assumption | wp_step))
    refine codeAny_mono (codeAny_call_builtin (R := wants (fun r s₂ => r = .none ∧ ∃ h' tk, s₂ = { s with heap := h', toks := tk } ∧ TxS w h' s.heap.objs.size (seen ns.reverse) ∧ (∀ b o, s.heap.get? b = some o → h'.get? b = some o)) E) F.called_set.init.plain F.entry_set_init (check_set_init_1 hT ?_)) fun r₂ s₂ hr₂ => ?_
    · obtain ⟨⟨ocls, odict, odata, oslots⟩, hol, hcl, nl, hdl⟩ := hl
      simp only at hcl hdl
      subst hcl; subst hdl
      have hol' := Heap.get?_push_of_some (newSet w) hol
      have hlS : l < s.heap.objs.size := Heap.lt_size hol
      have hsls := F.sub_list_set
      have hslf := F.sub_list_frozenset
      have hne : (Value.type "list" == Value.type "dict") = false := by decide
      have hl1 : (s.heap.push (newSet w)).IsList l items := ⟨_, hol', rfl, nl, rfl⟩
      have hz1 : (s.heap.push (newSet w)).objs.size = s.heap.objs.size + 1 := Heap.size_push ..
      have hneI : l ≠ (s.heap.push (newSet w)).objs.size := by rw [hz1]; exact Nat.ne_of_lt (Nat.lt_succ_of_lt hlS)
      have hSf : s.heap.objs.size ∉ [(s.heap.push (newSet w)).objs.size, l] := by
        rw [hz1]; simp only [List.mem_cons, List.not_mem_nil, or_false, not_or]
        exact ⟨Nat.ne_of_lt (Nat.lt_succ_self _), Nat.ne_of_gt hlS⟩
      unfold Builtin.«set.__init__» noKeywords Builtin.Frozenset.updateFrom
      generalize hPI : pyIter = PI
      wp_walk
      subst hPI
      refine wpAny_pyIter_list hl1 (wpAny_bind (wpAny_runValue ?_))
      refine txs_loop (A := A.in1.in1) ((Walks.list (by simp [hh]) _ l hneI items).toS) s.heap.objs.size hSf ns hisz hb (fun i v hv => sts_at hit i v (by rw [Array.getElem?_toList]; exact hv)) (fun _ _ _ _ _ => trivial) (items.size - 0) 0 _ (by omega) (Nat.zero_le _)
        ⟨⟨_, Heap.get?_push_size _ rfl, rfl, rfl⟩, (hl1.push _)⟩ ?hS0 ?hR
      case hS0 => exact txs_new (Heap.get?_push_of_some _ hS)
      case hR =>
        intro s' hm hS'
        obtain ⟨h', g2, d', tk', os'⟩ := s'
        obtain rfl : g2 = s.gens := hm.gens
        obtain rfl : d' = s.drawn := hm.drawn
        obtain rfl : os' = s.os := hm.os
        show wpAny _ _ _ _ _ _
        refine wpAny_pure ?_
        show wpAny _ _ (ret Value.none) _ _ _
        refine wpAny_pure ⟨rfl, h', tk', rfl, hS', fun b o e => ?_⟩
        have hb0 := Heap.lt_size e
        refine hm.heap b o (fun hmem => ?_) (Heap.get?_push_of_some _ (Heap.get?_push_of_some _ e))
        rw [hz1] at hmem
        simp only [List.mem_cons, List.not_mem_nil, or_false] at hmem
        rcases hmem with z | z
        · exact absurd hb0 (by rw [z]; exact Nat.lt_irrefl _)
        · exact absurd hb0 (by rw [z]; exact Nat.not_lt_of_le (Nat.le_succ _))
    · match r₂, hr₂ with
      | .error e, hr₂ => exact hr₂
      | .ok .next, hr₂ => exact hr₂.elim
      | .ok .brk, hr₂ => exact hr₂.elim
      | .ok .cont, hr₂ => exact hr₂.elim
      | .ok (.ret r), hr₂ =>
        obtain ⟨rfl, h', tk, rfl, hS', hk'⟩ := hr₂
        repeat (any_goals (first | assumption | wp_step))
        exact h _ _ hS' hk'
theorem ents_strs : ∀ qs : List (Str × Tok), StrsAre (qs.map fun q => (entW w q).2) (qs.map (·.1))
  | [] => .nil
  | q :: qs => .cons q.1 q.2 (ents_strs qs)
theorem strs_perm {us vs : List Value} (p : us.Perm vs) : ∀ {xs : List Str}, StrsAre vs xs → ∃ ys, StrsAre us ys ∧ ys.Perm xs := by
  induction p with
  | nil => intro xs h; exact ⟨xs, h, List.Perm.refl _⟩
  | cons x p ih =>
    intro xs h
    cases h with
    | cons n t hr =>
      obtain ⟨ys, a, b⟩ := ih hr
      exact ⟨n :: ys, .cons n t a, b.cons n⟩
  | swap x y l =>
    intro xs h
    cases h with
    | cons n t hr =>
      cases hr with
      | cons n2 t2 hr2 => exact ⟨_, .cons n2 t2 (.cons n t hr2), List.Perm.swap _ _ _⟩
  | trans p q ih1 ih2 =>
    intro xs h
    obtain ⟨ys, a, b⟩ := ih2 h
    obtain ⟨zs, c, d⟩ := ih1 a
    exact ⟨zs, c, d.trans b⟩
theorem txs_sorted {Q : Value → Shared → Prop} (R : TxS w s.heap a ks) (hh : A.handled = none) (h64 : ks.length < 64)
    (hQ : ∀ s' p (out : Array Value) (c : Nat) (ys : List Str), (∀ b o, s.heap.get? b = some o → s'.heap.get? b = some o) → s'.gens = s.gens → s'.os = s.os → s.heap.objs.size ≤ p →
      s'.heap.get? p = some (seqObj "list" out c) → StrsAre out.toList ys → ys.Perm ks → sortedS ys = true → Q (.ref p) s') :
    wpAny (model P w) A (PySem.call (.builtin "sorted") [.ref a]) Q E s := by
  obtain ⟨o, es, ep, t, ho, hex, hd, F1⟩ := R
  obtain ⟨qs, u1, u2⟩ := F1.pm
  refine Calls.call_function_entry kind_sorted plain_sorted entry_sorted (args_sorted1 _) ?_
  unfold Builtin.«sorted»
  refine wpAny_bind (m := checkCount "sorted" 1 1 _) (wpAny_pure ?_)
  refine wpAny_bind (L2.collect_set (A := A.in1) hh ⟨o, ho, hex.1, hd⟩ F1.fit F1.bd F1.ris F1.led fun s1 vs k1 hz g1 o1 pm => ?_)
  have pv : vs.Perm (qs.map fun q => (entW w q).2) := by
    have := pm.trans (u1.map (·.2))
    rwa [List.map_map] at this
  obtain ⟨xs, hS, hp⟩ := strs_perm pv (ents_strs qs)
  rw [u2] at hp
  have hvl : vs.length = ks.length := by rw [StrsAre.len_eq hS, hp.length_eq]
  refine wpAny_bind (wpAny_newList ?_ (by rw [hvl, sizeLine_eq]; omega))
  have hoL : (s1.heap.push (seqObj "list" vs.toArray 0)).get? s1.heap.objs.size = some (seqObj "list" vs.toArray 0) := Heap.get?_push_size _ rfl
  refine wpAny_bind (wpAny_holding (wpAny_call_entry slot_list_sort ⟨_, hoL, rfl⟩ entry_list_sort
    (list_sort_treeK strKind_oneLt hoL hS.keysOf (fun v₁ v₂ rest e => keyKind_strs (by rw [← e]; exact hS)) (by rw [hvl]; exact h64) fun st' q1 q2 => ⟨_, rfl, ?_⟩) (args_list_sort _)))
  obtain ⟨ys, g3, g4, g5⟩ := sorted_out_str hS q1 q2
  obtain ⟨c, hc⟩ := sortedHeap_at (vs := vs) (out := (arrOf st').map (·.2)) hoL
  refine wpAny_pure ⟨_, rfl, hQ _ s1.heap.objs.size _ c ys (fun b u e => ?_) g1 o1 hz hc g3 (g4.trans hp) g5⟩
  have q := k1 b u e
  have hlt := Heap.lt_size q
  show (sortedHeap (s1.heap.push (seqObj "list" vs.toArray 0)) s1.heap.objs.size vs _).get? b = some u
  rw [sortedHeap_old (Nat.ne_of_lt hlt) (by rw [size_push']; exact Nat.lt_succ_of_lt hlt)]
  exact Heap.get?_push_of_some _ q
end
def TxO (w : World) (a : Addr) (ks : List Str) : HO := .ext fun h => TxS w h a ks
theorem txO_new {w : World} {P : Program} {H : Hp} {h : Heap} {a : Addr} {ks : List Str} (R : TxS w h a ks) : ObjOk P w H h a (TxO w a ks) := by
  have ⟨o, _, _, _, ho, _⟩ := R
  exact ⟨R, ⟨o, ho⟩, fun h1 h2 p k => TxS.at p k⟩
section
variable {X : Cx}
theorem vals_strs : ∀ {ys : List Str} {us : List Value}, Vals (ys.map V.str) us → StrsAre us ys
  | [], _, .nil => .nil
  | y :: ys, _, .cons r t => by
    obtain ⟨k, rfl⟩ := r
    exact .cons y k (vals_strs t)
def rSetT (K : PySem.W.Frag) (w : World) : List V → Hp → VK → Prop := fun vs H Q => ∃ (a : Addr) (ns : List Str), vs = [V.ref a] ∧ (SqL K H a (ns.map V.str) ∨ SqT K H a (ns.map V.str)) ∧ ns.length ≤ 1000 ∧ ∀ p, H p = none → Q (.ref p) (upd H p (TxO w p (seen ns.reverse)))
theorem cr_setT (hc : X.calm = true) : CallR X (.type "set") (rSetT X.K X.w) := by
  intro pins s σ H xs us Q I r h
  obtain ⟨a, ns, rfl, hq, hl, q⟩ := h
  rw [Vals.ref1 r]
  have fin : ∀ (h' : Heap) (tk : Nat), TxS X.w h' s.heap.objs.size (seen ns.reverse) → (∀ b o, s.heap.get? b = some o → h'.get? b = some o) → EP X pins σ Q (.ref s.heap.objs.size) { s with heap := h', toks := tk } := fun h' tk R k =>
    ⟨.ref _, upd H s.heap.objs.size (TxO X.w s.heap.objs.size (seen ns.reverse)), I.laid (t' := tk) k (Nat.le_refl _) (txO_new R), rfl, q _ (I.hok.fresh (Nat.le_refl _))⟩
  have room : ns.length + 1 < scanBound := by
    have : (1001 : Nat) < scanBound := by decide
    omega
  rcases hq with hq | hq
  · obtain ⟨its, rv, pl, hz⟩ := I.list hq
    exact txs_makeL (I.ok.hd hc) pl.isList (vals_strs rv) room fin
  · obtain ⟨its, rv, pl, hz⟩ := I.tuple hq
    exact txs_make (I.ok.hd hc) pl (vals_strs rv) room fin
def rSortT (w : World) : List V → Hp → VK → Prop := fun vs H Q => ∃ (a : Addr) (ks : List Str), vs = [V.ref a] ∧ H a = some (TxO w a ks) ∧ ks.length < 64 ∧
  ∀ (ys : List Str) (p : Addr), ys.Perm ks → sortedS ys = true → H p = none → Q (.ref p) (upd H p (.lst (ys.map V.str)))
theorem cr_sortT (hc : X.calm = true) : CallR X (.builtin "sorted") (rSortT X.w) := by
  intro pins s σ H vs us Q I r h
  obtain ⟨a, ks, rfl, ha, h64, q⟩ := h
  have R : TxS X.w s.heap a ks := (I.hok a _ ha).1
  rw [Vals.ref1 r]
  refine txs_sorted R (I.ok.hd hc) h64 fun s' p out c ys k g o hp hg hi pm hs => ?_
  have hlen : (ys.map V.str).length ≤ sizeLine := by rw [List.length_map, pm.length_eq, sizeLine_eq]; omega
  have hn : H p = none := I.hok.fresh hp
  have J : Inv X pins σ (upd H p (.lst (ys.map V.str))) { s with heap := s'.heap, gens := s'.gens, drawn := s'.drawn, toks := s'.toks } :=
    I.call (ch := []) (Un.laid k hp hn) (I.hok.laid k hp ⟨hlen, out.toList, c, vals_of_strs hi, hg⟩) (by rw [g]; exact I.bare) (fun _ z => nomatch z)
  obtain ⟨h2, g2, d2, t2, o2⟩ := s'
  obtain rfl : o2 = s.os := o
  exact ⟨.ref p, _, J, rfl, q ys p pm hs hn⟩
end
end NK
set_option Elab.async false
set_option linter.all false
set_option autoImplicit false
set_option maxRecDepth 100000
namespace NK
open PySem PySem.Spec PyProof.Rows L2
theorem Ext.lay {F H : Hp} {as : List Addr} {p : Addr} {o : HO} (hp : H p = none) (ha : p ∉ as) (ht : ∀ a, a ∈ as → H a ≠ none) : Ext F as H F as (upd H p o) :=
  ⟨fun _ _ h => h, List.prefix_refl _, fun a y h _ => by rw [upd_ne (by intro e; rw [e, hp] at h; cases h)]; exact h, fun a h => by rw [upd_ne (by intro e; exact ha (e ▸ h))]; exact ht a h, fun a h h' => absurd h' h, fun a h h' => absurd h h'⟩
section
variable {X : Cx} {cs : Nat → Option Addr} {e : Expr} {f : Env → Sto → Option (Val × Sto)} {pos pos2 : Pos}
theorem seen_nodup : ∀ ks : List Str, (seen ks).Nodup
  | [] => List.nodup_nil
  | x :: ks => by
    unfold seen
    split
    · exact seen_nodup ks
    · rename_i h
      exact List.nodup_cons.mpr ⟨h, seen_nodup ks⟩
theorem S_nodup {ws : List W} (h : ws.Nodup) : (ws.map S).Nodup := by
  rw [List.nodup_iff_pairwise_ne] at *
  rw [List.pairwise_map]
  exact h.imp fun n e => n (S_inj e)
theorem mem_eraseDups {w : W} : ∀ {n : Nat} {ws : List W}, ws.length ≤ n → (w ∈ ws.eraseDups ↔ w ∈ ws)
  | _, [], _ => by simp
  | 0, x :: ws, h => by simp at h
  | n + 1, x :: ws, h => by
    rw [List.eraseDups_cons, List.mem_cons, List.mem_cons]
    have hl : (ws.filter fun b => !b == x).length ≤ n := Nat.le_trans (List.length_filter_le ..) (by simpa using h)
    rw [mem_eraseDups hl, List.mem_filter]
    by_cases hx : w = x
    · simp [hx]
    · simp [hx]
theorem nodup_eraseDups : ∀ {n : Nat} {ws : List W}, ws.length ≤ n → ws.eraseDups.Nodup
  | _, [], _ => by simp
  | 0, x :: ws, h => by simp at h
  | n + 1, x :: ws, h => by
    rw [List.eraseDups_cons]
    have hl : (ws.filter fun b => !b == x).length ≤ n := Nat.le_trans (List.length_filter_le ..) (by simpa using h)
    refine List.nodup_cons.mpr ⟨fun hm => ?_, nodup_eraseDups hl⟩
    rw [mem_eraseDups hl, List.mem_filter] at hm
    simp at hm
theorem seen_perm (ws : List W) : (seen (ws.map S).reverse).Perm (ws.eraseDups.map S) := by
  refine (List.perm_ext_iff_of_nodup (seen_nodup _) (S_nodup (nodup_eraseDups (Nat.le_refl _)))).mpr fun k => ?_
  rw [seen_mem, List.mem_reverse, List.mem_map, List.mem_map]
  exact ⟨fun ⟨w, h, e⟩ => ⟨w, (mem_eraseDups (Nat.le_refl _)).mpr h, e⟩, fun ⟨w, h, e⟩ => ⟨w, (mem_eraseDups (Nat.le_refl _)).mp h, e⟩⟩
def fSSet (f : Env → Sto → Option (Val × Sto)) : Env → Sto → Option (Val × Sto) := fun env st => (f env st).bind fun r => (biV .sset [r.1] r.2).map fun d => (.dat d, r.2)
theorem nst {x : Expr} {env : PySem.Env} (h : nStar x = true) : starEach [x] env = (false, eval x env) :: starEach [] env := noStar h
theorem s_sset {p p2 : Pos} (hc : X.calm = true) (hg : Gl X "sorted") (hm : X.mg "sorted" = none) (hg2 : Gl X "set") (hm2 : X.mg "set" = none) (he : PE X e (tE X.K cs f)) (hs : nStar e = true) :
    PE X (.Call (.Name "sorted" p) [.Call (.Name "set" p2) [e] [] pos2] [] pos) (tE X.K cs (fSSet f)) := by
  have h1 : PE X (.Call (.Name "set" p2) [e] [] pos2) (tCB (rSetT X.K X.w) (tCons (tE X.K cs f) tNil)) := pe_callTy (T := "set") (cr_setT hc) hg2 hm2 (by decide +kernel) (pa_cons he pa_nil (nst hs)) (by decide) (by decide) (nst hs) rfl
  refine (pe_callB (id := "sorted") (cr_sortT hc) hg hm (by decide +kernel) (pa_cons h1 pa_nil) (by decide) (by decide) rfl rfl).weak fun σ H Q ⟨F, B, as, env, st, v, st', r, ev, k⟩ => ?_
  obtain ⟨⟨x, s1⟩, ex, ev1⟩ := obnd ev
  obtain ⟨d, hd, ev2⟩ := omap ev1
  clear ev ev1
  cases ev2
  refine ⟨F, B, as, env, st, x, s1, r, ex, fun F1 as1 H1 u r1 x1 v1 => ?_⟩
  simp only [biV] at hd
  obtain ⟨ds, hds, hd⟩ := obnd hd
  obtain ⟨ws, hws, hd⟩ := obnd hd
  split at hd
  case isFalse => cases hd
  rename_i hlen
  cases hd
  obtain ⟨a, us, rfl, ha, hq⟩ := asLT_ok r1.toRSt hds v1
  rw [textsD_ok hws hq] at ha
  refine ⟨a, ws.map S, rfl, by rw [List.map_map] at *; exact ha, by rw [List.length_map]; omega, fun p1 hp1 => ?_⟩
  have pF : F1 p1 = none := by
    cases q : F1 p1 with
    | none => rfl
    | some y => rw [r1.fh _ _ q] at hp1; cases hp1
  have pB : B p1 = none := by
    cases q : B p1 with
    | none => rfl
    | some y => rw [r1.bh _ _ q] at hp1; cases hp1
  have pas : p1 ∉ as1 := fun h => r1.toRSt.there p1 h hp1
  have pm := seen_perm ws
  have hl2 : (seen (ws.map S).reverse).length < 64 := by
    have := seen_len (ws.map S).reverse
    rw [List.length_reverse, List.length_map] at this
    omega
  refine ⟨p1, _, rfl, upd_same, hl2, fun ys t hy hs2 ht => ?_⟩
  rw [sorted_is (hy.trans pm) hs2]
  have r2 : Rel X.K cs F1 B as1 env s1 σ (upd H1 p1 (TxO X.w p1 (seen (ws.map S).reverse))) := r1.slots (Ext.lay hp1 pas r1.toRSt.there) (r1.toRSt.over pF pB pas)
  obtain ⟨r3, x3, v3⟩ := r2.put (d := .lst ((sortW ws.eraseDups).map .str)) (o := .lst (((sortW ws.eraseDups).map S).map V.str)) ht fun F2 hf h2 => Den.lst_iff.mpr ⟨t, _, rfl, h2, dens_texts _⟩
  exact k _ _ _ _ r3 ((x1.trans (Ext.lay hp1 pas r1.toRSt.there)).trans x3) v3
end
end NK
set_option Elab.async false
set_option linter.all false
set_option autoImplicit false
set_option maxRecDepth 100000
namespace RT
open PySem PySem.Spec PyProof.Rows
section
variable {prog : Program} {w : World} {A : Around} {E : Value → Shared → Prop} {s : Shared}
theorem nk_extend_rev {R : Result → Shared → Prop} {it l : Addr} {items : Array Value} (hh : A.handled = none) (hit : s.heap.IsRevIter it l ((items.size : Int) - 1)) (hl : s.heap.IsList l items) (hne : l ≠ it) (hn : items.size ≤ sizeLine)
    (S : Addr) (res : Value) (c₀ : Nat) (hS : s.heap.get? S = some { cls := .type "list", data := .seq #[] c₀ }) (hSi : S ≠ it) (hSl : S ≠ l)
    (hR : ∀ h' tk acc' c', (∀ b o, b ≠ S → b ≠ it → s.heap.get? b = some o → h'.get? b = some o) → h'.get? S = some { cls := .type "list", dict := none, data := .seq acc' c', slots := #[] } →
      ItemsOf (fun i v => items[items.size - 1 - i]? = some v) acc' items.size → R (.ok (.ret res)) { s with heap := h', toks := tk }) :
    wpAny (model prog w) A.in1 (Builtin.List.listExtendWith (.ref S) (.ref it) res)
      (fun fin s' => match fin with | .done f => R (.ok f) s' | .again c' => c'.quiet = true ∧ codeAny (model prog w) A c' R s') (fun e s' => R (.error e) s') s := by
  have W := (Walks.listRev (prog := prog) (w := w) (A := A.in1) hh it l hne items).toS
  have hSf : S ∉ [it, l] := by simp only [List.mem_cons, List.not_mem_nil, or_false, not_or]; exact ⟨hSi, hSl⟩
  have hT : s.TypeIs (.ref it) "list_reverseiterator" := Heap.IsRevIter.typeIs hit
  have h1 : Builtin.List.listSameRef (.ref S) (.ref it) = false := by simp [Builtin.List.listSameRef, hSi]
  unfold Builtin.List.listExtendWith
  refine wpAny_bind (wpAny_typeOf hT ?_)
  rw [if_neg (by rw [h1]; decide)]
  refine wpAny_bind (wpAny_pyIter_revIter hit ?_)
  refine wpAny_bind (wpAny_holding ?_)
  unfold Builtin.List.listLengthHint
  refine wpAny_bind (wpAny_specialOf hT nolen_lri ?_)
  show wpAny _ A.in1 (specialOf (Value.ref it) (Str.ofString "__length_hint__") >>= _) _ _ _
  refine wpAny_bind (wpAny_specialOf hT hint_lri ?_)
  generalize hid : ("list_reverseiterator.__length_hint__" : String) = id0
  wp_delta
  rw [show splitId id0 = some ("list_reverseiterator", "__length_hint__") from by subst hid; decide +kernel]
  subst hid
  refine wpAny_bind (wpAny_isInstance (b := true) hT (by rw [isSubtype_type]; kernel_rfl) ?_)
  refine wpAny_pure ?_
  rw [if_neg (by decide)]
  have e0 : ((items.size : Nat) : Int) - 1 - ((0 : Nat) : Int) = (items.size : Int) - 1 := by omega
  refine wpAny_pure ⟨plainId_quiet F.plain_extend_loop _, codeAny_extend_loopS W hn S hSf res items.size 0 _ _ _ rfl (Nat.zero_le _) ⟨Nat.zero_le _, by rw [e0]; exact hit, hl⟩ hS (ItemsOf.nil _) fun s' acc' c' hm hS' hacc => ?_⟩
  rw [Moved.eq_with hm]
  refine hR s'.heap s'.toks acc' c' (fun b o hb hb2 e => hm.heap b o (fun hmem => ?_) e) hS' hacc
  rcases List.mem_cons.mp hmem with e' | hmem
  · exact hb e'
  · exact hb2 (List.mem_singleton.mp hmem)
theorem nk_call_list_rev {Q : Value → Shared → Prop} {it l : Addr} {items : Array Value} (hh : A.handled = none) (hit : s.heap.IsRevIter it l ((items.size : Int) - 1)) (hl : s.heap.IsList l items) (hne : l ≠ it) (hn : items.size ≤ sizeLine)
    (hQ : ∀ h' tk acc' c', (∀ b o, b ≠ it → s.heap.get? b = some o → h'.get? b = some o) →
      h'.get? s.heap.objs.size = some { cls := .type "list", dict := none, data := .seq acc' c', slots := #[] } → ItemsOf (fun i v => items[items.size - 1 - i]? = some v) acc' items.size → Q (.ref s.heap.objs.size) { s with heap := h', toks := tk }) :
    wpAny (model prog w) A (call (.type "list") [.ref it]) Q E s := by
  refine callType_codes (Q₁ := fun obj s₁ => obj = .ref s.heap.objs.size ∧ s₁ = { s with heap := s.heap.push { cls := .type "list", data := .seq #[] } }) F.called_list (F.typeCall_list_1 _) F.entry_list_init
    (code_list_new _ ⟨rfl, rfl⟩) fun obj s₁ h₁ => ?_
  obtain ⟨rfl, rfl⟩ := h₁
  obtain ⟨oi, hoi, _⟩ := id hit
  obtain ⟨ol, hol, _⟩ := id hl
  have hSi : s.heap.objs.size ≠ it := Nat.ne_of_gt (Heap.lt_size hoi)
  have hSl : s.heap.objs.size ≠ l := Nat.ne_of_gt (Heap.lt_size hol)
  have hS : (s.heap.push { cls := .type "list", data := .seq #[] }).get? s.heap.objs.size = some { cls := .type "list", data := .seq #[] } := Heap.get?_push_size _ rfl
  refine ⟨⟨_, hS, rfl⟩, F.args_list_init_2 _ _, ?_⟩
  show wpAny _ _ (do let old ← Builtin.List.listItems (.ref s.heap.objs.size); Builtin.List.listUpdate (.ref s.heap.objs.size) (fun _ => #[]); letGo old.toList.reverse; Builtin.List.listExtendWith (.ref s.heap.objs.size) (.ref it) .none) _ _ _
  refine wpAny_bind ?_
  unfold Builtin.List.listItems
  refine wpAny_bind (wpAny_seqItems hS rfl (wpAny_pure ?_))
  show wpAny _ _ (updateSeq s.heap.objs.size (fun _ => #[]) >>= fun _ => letGo (#[] : Array Value).toList.reverse >>= fun _ => Builtin.List.listExtendWith (.ref s.heap.objs.size) (.ref it) .none) _ _ _
  refine wpAny_bind (wpAny_updateSeq hS rfl ?_)
  have hS₂ := Heap.get?_update_self (Obj.mapSeq (fun _ => (#[] : Array Value))) hS rfl
  have oth : ∀ b o, b ≠ s.heap.objs.size → (s.heap.push { cls := .type "list", data := .seq #[] }).get? b = some o → ((s.heap.push { cls := .type "list", data := .seq #[] }).update s.heap.objs.size (Obj.mapSeq (fun _ => (#[] : Array Value)))).get? b = some o :=
    fun b o hb e => (Heap.get?_update_other _ _ (Ne.symm hb)).trans e
  have up : ∀ b o, s.heap.get? b = some o → ((s.heap.push { cls := .type "list", data := .seq #[] }).update s.heap.objs.size (Obj.mapSeq (fun _ => (#[] : Array Value)))).get? b = some o :=
    fun b o e => oth b o (Nat.ne_of_lt (Heap.lt_size e)) (Heap.get?_push_of_some _ e)
  refine wpAny_bind (wpAny_letGo ?_)
  refine nk_extend_rev (A := A.in1) hh (hit.at fun o e => up _ _ e) ⟨ol, up _ _ hol, by assumption⟩ hne hn s.heap.objs.size .none _ hS₂ hSi hSl fun h' tk acc' c' hk hS' hacc => ?_
  exact ⟨rfl, hQ h' tk acc' c' (fun b o hb e => hk b o (Nat.ne_of_lt (Heap.lt_size e)) hb (up b o e)) hS' hacc⟩
end
end RT
namespace NK
open PySem PySem.Spec PyProof.Rows L2
section
variable {X : Cx} {cs : Nat → Option Addr} {e e1 e2 e3 : Expr} {es : List Expr} {f f1 f2 f3 : Env → Sto → Option (Val × Sto)} {g : Env → Sto → Option (List Val × Sto)} {pos : Pos}
def tLstRev (K : PySem.W.Frag) (te : TE) : TE := fun σ H Q => te σ H fun v H1 => ∃ (a : Addr) (xs : List V), v = .ref a ∧ SqL K H1 a xs ∧ ∀ q, H1 q = none → Q (.ref q) (upd H1 q (.lst xs.reverse))
theorem pe_lstRev {e : Expr} {te : TE} {p p2 pos pos2 : Pos} (hc : X.calm = true) (hg : Gl X "list") (hm : X.mg "list" = none) (hg2 : Gl X "reversed") (hm2 : X.mg "reversed" = none) (he : PE X e te)
    (hs : starEach [e] X.env = (false, eval e X.env) :: starEach [] X.env)
    (hs2 : starEach [.Call (.Name "reversed" p2) [e] [] pos2] X.env = (false, eval (.Call (.Name "reversed" p2) [e] [] pos2) X.env) :: starEach [] X.env := by rfl) :
    PE X (.Call (.Name "list" p) [.Call (.Name "reversed" p2) [e] [] pos2] [] pos) (tLstRev X.K te) := by
  refine ⟨fun pins s σ H Q I h => ?_⟩
  refine Call_ (ld_blt I hg hm boot_list (PyProof.Rows.callWith_type1 (args_cons (Call_ (ld_blt I hg2 hm2 PyProof.Rows.boot_reversed (PyProof.Rows.callWith_type1 (args_cons (thn (he.run pins s σ H _ I h) fun u s1 ⟨v, H1, I1, r1, q1⟩ => args_nil ?_) hs) hs rfl))) hs2) hs2 rfl))
  obtain ⟨a, xs, ev, hq, q⟩ := q1
  subst ev
  obtain rfl : u = Value.ref a := r1
  obtain ⟨its, rv, p', hz⟩ := I1.list hq
  refine call_reversed_list p'.isList (args_nil ?_)
  have k0 : ∀ b o, s1.heap.get? b = some o → (s1.heap.push (revObj a ((its.toArray.size : Int) - 1))).get? b = some o := fun b o e => Heap.get?_push_of_some _ e
  have I2 : Inv X pins σ H1 { s1 with heap := s1.heap.push (revObj a ((its.toArray.size : Int) - 1)) } := I1.kept (t' := s1.toks) k0
  obtain ⟨f0, f1, f2, f3, f4, f5⟩ := I1.fpOk (H' := H1) (b := s1.heap.objs.size) (Nat.le_refl _) (I1.hok.fresh (Nat.le_refl _))
  have hl := p'.isList
  obtain ⟨ol, hol, _⟩ := id hl
  have hne : a ≠ s1.heap.objs.size := Nat.ne_of_lt (Heap.lt_size hol)
  have hn : its.toArray.size ≤ sizeLine := by rw [List.size_toArray, ← rv.length]; exact hz
  refine RT.nk_call_list_rev (s := { s1 with heap := s1.heap.push (revObj a ((its.toArray.size : Int) - 1)) }) (I1.ok.hd hc) ⟨_, Heap.get?_push_size _ rfl, rfl, rfl⟩ (hl.push _) hne hn fun h' tk acc c' hk hS' hi => ?_
  have kp : ∀ b o, s1.heap.get? b = some o → h'.get? b = some o := fun b o e => hk b o (Nat.ne_of_lt (Heap.lt_size e)) (Heap.get?_push_of_some _ e)
  have hge : s1.heap.objs.size ≤ (s1.heap.push (revObj a ((its.toArray.size : Int) - 1))).objs.size := by simp [Heap.push]
  refine ⟨.ref (s1.heap.push (revObj a ((its.toArray.size : Int) - 1))).objs.size, upd H1 _ (.lst xs.reverse), I1.laid (t' := tk) kp hge (show ObjOk X.prog X.w _ _ _ (.lst xs.reverse) from ⟨by rw [List.length_reverse]; exact hz, acc.toList, c', RT.vals_rev rv hi, ?_⟩), rfl, q _ (I1.hok.fresh hge)⟩
  rw [Array.toArray_toList]
  exact hS'
def fLrev (f : Env → Sto → Option (Val × Sto)) : Env → Sto → Option (Obj × Sto) := fun env st => (f env st).bind fun r => (asL r.2 r.1).map fun ds => (.lst ds.reverse, r.2)
theorem nStar_call {f : Expr} {es : List Expr} {ks : List Keyword} {pos : Pos} : nStar (.Call f es ks pos) = true := rfl
theorem s_lrev {p p2 pos2 : Pos} (hc : X.calm = true) (hg : Gl X "list") (hm : X.mg "list" = none) (hg2 : Gl X "reversed") (hm2 : X.mg "reversed" = none) (h : PE X e (tE X.K cs f)) (hs : nStar e = true) : PE X (.Call (.Name "list" p) [.Call (.Name "reversed" p2) [e] [] pos2] [] pos) (tO X.K cs (fLrev f)) :=
  (pe_lstRev hc hg hm hg2 hm2 h (noStar hs)).weak fun σ H Q ⟨F, B, as, env, st, v, st', r, ev, k⟩ => by
    obtain ⟨⟨x, st1⟩, ha, ev1⟩ := obnd ev
    obtain ⟨ds, hd, ev2⟩ := omap ev1
    cases ev2
    refine ⟨F, B, as, env, st, x, st1, r, ha, fun F' as' H' u r' x' v1 => ?_⟩
    obtain ⟨p, us, rfl, hp, hq⟩ := asL_ok r'.toRSt hd v1
    exact ⟨p, us, rfl, hp, fun t ht => fresh_k (o := .lst ds.reverse) r' x' ht ⟨_, rfl, hq.reverse⟩ k⟩
theorem s_revL {k : Nat} {p1 p2 p3 : Pos} (h : PE X e (tE X.K cs f)) : PE X (.Subscript e (.Slice none none (some (.UnaryOp .USub (.Constant (.int 1) k p1) p2)) p3) pos) (tO X.K cs (fLrev f)) :=
  (pe_revL h).weak fun σ H Q ⟨F, B, as, env, st, v, st', r, ev, k⟩ => by
    obtain ⟨⟨x, st1⟩, ha, ev1⟩ := obnd ev
    obtain ⟨ds, hd, ev2⟩ := omap ev1
    cases ev2
    refine ⟨F, B, as, env, st, x, st1, r, ha, fun F' as' H' u r' x' v1 => ?_⟩
    obtain ⟨p, us, rfl, hp, hq⟩ := asL_ok r'.toRSt hd v1
    exact ⟨p, us, rfl, hp, fun t ht => fresh_k (o := .lst ds.reverse) r' x' ht ⟨_, rfl, hq.reverse⟩ k⟩
def fRevr (g : Env → Sto → Option (List Val × Sto)) : Env → Sto → Option (List D × Sto) := fun env st => (g env st).bind fun r => (rngV r.1).map fun ds => (ds.reverse, r.2)
theorem yields_rr {F B : Hp} {as : List Addr} {G : Sto → Prop} {lo hi : Int} : Yields X.K cs F B as G (Itc (lo + (((hi - lo).toNat : Nat) : Int) - 1) (-1) (hi - lo).toNat) (rngL lo hi).reverse where
  stop := fun i hF hp' hG r h => by
    show (hi - lo).toNat ≤ i
    have h := Nat.le_of_eq h
    simpa [rngL] using h
  go := fun i d hF hp' hG r h => by
    show i < (hi - lo).toNat
    have := (List.getElem?_eq_some_iff.mp h).1
    simpa [rngL] using this
  yld := fun i d x H3 hF hp' hG r h y => by
    obtain ⟨rfl, rfl⟩ := y
    have hl := (List.getElem?_eq_some_iff.mp h).1
    have hl' : i < (hi - lo).toNat := by simpa [rngL] using hl
    rw [List.getElem?_reverse (by simpa using hl)] at h
    unfold rngL at h
    rw [List.getElem?_map, List.length_map, List.length_range, List.getElem?_range (by omega)] at h
    simp only [Option.map_some, Option.some.injEq] at h
    subst h
    refine ⟨_, r, r.refl, Den.int_iff.mpr ?_⟩
    congr 1
    omega
theorem s_revr1 {tg : Expr} {p p2 pos2 : Pos} (hg : Gl X "reversed") (hm : X.mg "reversed" = none) (hg2 : Gl X "range") (hm2 : X.mg "range" = none) (h : PE X e (tE X.K cs f)) (hs : nStar e = true) : PI X tg (.Call (.Name "reversed" p) [.Call (.Name "range" p2) [e] [] pos2] [] pos) (tI X.K cs (fRevr fun env st => (f env st).bind fun r => some ([r.1], r.2))) :=
  (pi_revR hg hm (prg_1 hg2 hm2 h (noStar hs)) (noStar nStar_call)).weak fun σ H R ⟨F, B, as, env, st, ds, st', r, ev, k⟩ => by
    obtain ⟨⟨vs, s1⟩, e1, ev1⟩ := obnd ev
    obtain ⟨⟨v, s0⟩, e0, e2⟩ := obnd e1
    cases e2
    obtain ⟨ds', hd, ev2⟩ := omap ev1
    clear ev ev1
    cases ev2
    refine ⟨F, B, as, env, st, v, _, r, e0, fun F' as' H' u r' x' v1 => ?_⟩
    dsimp only at hd
    unfold rngV at hd
    split at hd
    · rename_i j hj
      cases hj
      split at hd
      · rename_i hb
        cases hd
        obtain ⟨h1, h2, h3, h4, h5⟩ := rngOk_of hb
        exact ⟨j, int_of v1, ⟨h1, h2, h3, h4, k F' as' H' _ r' x' yields_rr (by simpa [rngL] using h5)⟩⟩
      · cases hd
    · rename_i hj; cases hj
    · rename_i hj; cases hj
    · cases hd
end
section
variable {X : Cx} {cs : Nat → Option Addr} {e e1 e2 e3 : Expr} {es : List Expr} {f f1 f2 f3 : Env → Sto → Option (Val × Sto)} {g : Env → Sto → Option (List Val × Sto)} {pos : Pos}
theorem pairsV_of {pins : List (Addr × PySem.Obj)} {σ : L2.St} {H : Hp} {s : Shared} (I : Inv X pins σ H s) : ∀ {ps : List Addr} {kvs : List (Key × V)}, Paired (fun p kv => SqT X.K H p [kV kv.1, kv.2]) ps kvs →
    ∃ (prs : List (Key × Value)) (qs : List (Value × Value)), KV kvs prs ∧ prs.length = ps.length ∧ qs.length = ps.length ∧ ∀ (j : Nat) (k v : Value), qs[j]? = some (k, v) → ∃ (b : Addr) (q : Key), ps[j]? = some b ∧ IsTup s.heap b #[k, v] ∧ prs[j]? = some (q, v) ∧ keyIs q k = true
  | _, _, .nil => ⟨[], [], .nil, rfl, rfl, fun j k v e => by simp at e⟩
  | _, _, .cons (a := p) (b := kv) h t => by
    obtain ⟨prs, qs, r, hl, hm, hp⟩ := pairsV_of I t
    obtain ⟨its, rv, ht, _⟩ := I.tuple h
    obtain ⟨u, y, ei, ru, ry⟩ := vals2 rv
    subst ei
    refine ⟨(kv.1, y) :: prs, (u, y) :: qs, .cons ⟨rfl, ry⟩ r, by rw [List.length_cons, List.length_cons, hl], by rw [List.length_cons, List.length_cons, hm], fun j k v e => ?_⟩
    cases j with
    | zero =>
      simp at e
      obtain ⟨rfl, rfl⟩ := e
      exact ⟨p, kv.1, rfl, ht, rfl, (show (mixKind X.prog X.w).is kv.1 u = true from kV_is ru)⟩
    | succ j =>
      obtain ⟨b, q, e1, e2, e3, e4⟩ := hp j k v (by simpa using e)
      exact ⟨b, q, by simpa using e1, e2, by simpa using e3, e4⟩
theorem call_dictPT (hcalm : X.calm = true) : CallR X (.type "dict") (fun xs H Q => ∃ (a : Addr) (o : PySem.Obj) (ps : List Addr) (kvs : List (Key × V)), xs = [.ref a] ∧ o.dict = none ∧ H a = some (.frz o (.tup (ps.map V.ref))) ∧ Paired (fun p kv => SqT X.K H p [kV kv.1, kv.2]) ps kvs ∧
    ∀ p, H p = none → Q (.ref p) (upd H p (.dK (mergeK [] kvs)))) := by
  intro pins s σ H xs us Q I r q
  obtain ⟨a, o, ps, kvs, ex, h0, hq, hp, q⟩ := q
  subst ex
  obtain ⟨u, eu, rx⟩ := vals1 r
  subst eu
  cases rx
  obtain ⟨ho, hz, its, rv, o', ho', hc, n, hdat⟩ := I.hok a _ hq
  rw [ho] at ho'; cases ho'
  have ei := refs_at rv
  subst ei
  rw [List.length_map] at hz
  obtain ⟨prs, qs, rel, hl, hm, hpr⟩ := pairsV_of I hp
  refine PySem.call_dict_pairs (knd := mixKind X.prog X.w) (kvs := prs) (PairArg.tuple (prog := X.prog) (w := X.w) a (ps.map Value.ref).toArray (fun j => (ps[j]?).getD 0) qs) (I.ok.hd hcalm) ⟨⟨o, n, ho, hc, h0, hdat⟩, by simp [hm], fun j k v e => ?_⟩ ⟨by rw [hl, hm], fun i k v e => ?_⟩ (by rw [hm]; exact hz) fun h' tk hd' k => ?_
  · obtain ⟨b, q', e1, e2, _, _⟩ := hpr j k v e
    refine ⟨by simp [e1], .inl ?_⟩
    show s.heap.IsTuple ((ps[j]?).getD 0) #[k, v]
    rw [e1]
    exact e2
  · obtain ⟨b, q', e1, e2, e3, e4⟩ := hpr i k v e
    exact ⟨q', e3, e4⟩
  · have hm : (s.heap.objs.size == sysModules) = false := beq_eq_false_iff_ne.mpr (Nat.ne_of_gt I.big)
    have hlen : (mergeK [] kvs).length ≤ sizeLine := by
      refine Nat.le_trans (length_mergeK kvs []) ?_
      rw [List.length_nil, Nat.zero_add, rel.length, hl]
      exact hz
    exact ⟨.ref s.heap.objs.size, upd H s.heap.objs.size (.dK (mergeK [] kvs)), I.laid (t' := tk) (fun b o e => k b o (by simp) e) (Nat.le_refl _) (show ObjOk X.prog X.w _ _ _ (.dK (mergeK [] kvs)) from ⟨hlen, hm, merged [] prs, KV.merge rel .nil, hd'⟩), rfl, q _ (I.hok.fresh (Nat.le_refl _))⟩
theorem pairsK_prs : ∀ {ds : List D} {q : List K1 × List D}, pairsK ds = some q → prs ds = true ∧ q.1.length = q.2.length
  | [], q, h => by simp only [pairsK] at h; cases h; exact ⟨rfl, rfl⟩
  | d :: ds, q, h => by
    unfold pairsK at h
    split at h
    · rename_i e; cases e
    · rename_i w i ds' e
      cases e
      obtain ⟨r, hr, e⟩ := omap h
      subst e
      obtain ⟨h1, h2⟩ := pairsK_prs hr
      exact ⟨by simpa [prs] using h1, by simp [h2]⟩
    · cases h
theorem pairsK_ok {K : PySem.W.Frag} {F : Hp} : ∀ {ds : List D} {q : List K1 × List D} {us : List V}, pairsK ds = some q → Dens K F ds us → ∃ (ps : List Addr) (vs : List V), us = ps.map V.ref ∧ Dens K F q.2 vs ∧ (∀ H, (∀ a o, F a = some o → H a = some o) → Paired (fun p kv => SqT K H p [kV kv.1, kv.2]) ps ((q.1.map kk).zip vs))
  | [], q, us, h, d => by
    simp only [pairsK] at h; cases h
    rw [Dens.nil.mp d]
    exact ⟨[], [], rfl, Dens.nil.mpr rfl, fun _ _ => .nil⟩
  | d0 :: ds, q, us, h, d => by
    unfold pairsK at h
    split at h
    · rename_i e; cases e
    · rename_i w i ds' e
      cases e
      obtain ⟨r, hr, e⟩ := omap h
      subst e
      obtain ⟨u, us', rfl, du, dr⟩ := Dens.cons.mp d
      obtain ⟨ps, vs, rfl, hv, hp⟩ := pairsK_ok hr dr
      obtain ⟨p, ws, rfl, at', dw⟩ := Den.tup_iff.mp du
      obtain ⟨w1, ws1, rfl, d1, dw⟩ := Dens.cons.mp dw
      obtain ⟨w2, ws2, rfl, d2, dw⟩ := Dens.cons.mp dw
      have e3 := Dens.nil.mp dw
      subst e3
      have e1 := Den.str_iff.mp d1
      have e2 := Den.int_iff.mp d2
      subst e1 e2
      exact ⟨p :: ps, .int i :: vs, rfl, Dens.cons.mpr ⟨_, _, rfl, d2, hv⟩, fun H hF => .cons (.inl (rd_mono hF at'.rd)) (hp H hF)⟩
    · cases h
theorem putK_upd {K : PySem.W.Frag} {F : Hp} {ks : List K1} {ds : List D} {us : List V} {k : K1} {d : D} {u : V} (hl : ks.length = ds.length) (hd : Dens K F ds us) (q : Den K F d u) :
    ∃ us', putK ((ks.map kk).zip us) (kk k) u = ((dputK ks ds k d).1.map kk).zip us' ∧ (dputK ks ds k d).1.length = (dputK ks ds k d).2.length ∧ Dens K F (dputK ks ds k d).2 us' := dput_zip (g := kk) (fun _ _ => kk_inj) q k hl hd
theorem merge_upd {K : PySem.W.Frag} {F : Hp} : ∀ {js : List K1} {es : List D} {vs : List V} {ks : List K1} {ds : List D} {us : List V}, js.length = es.length → Dens K F es vs → ks.length = ds.length → Dens K F ds us →
    ∃ us', mergeK ((ks.map kk).zip us) ((js.map kk).zip vs) = ((updK ks ds js es).1.map kk).zip us' ∧ (updK ks ds js es).1.length = (updK ks ds js es).2.length ∧ Dens K F (updK ks ds js es).2 us'
  | [], [], vs, ks, ds, us, _, hv, hl, hd => by
    rw [Dens.nil.mp hv]
    exact ⟨us, rfl, by simpa [updK] using hl, by simpa [updK] using hd⟩
  | [], _ :: _, _, _, _, _, h, _, _, _ => by simp at h
  | _ :: _, [], _, _, _, _, h, _, _, _ => by simp at h
  | j :: js, e :: es, vs, ks, ds, us, hj, hv, hl, hd => by
    obtain ⟨v, vs', rfl, q, hv'⟩ := Dens.cons.mp hv
    obtain ⟨us1, h1, h2, h3⟩ := putK_upd (k := j) hl hd q
    obtain ⟨us2, h4, h5, h6⟩ := merge_upd (js := js) (es := es) (by simpa using hj) hv' h2 h3
    refine ⟨us2, ?_, by simpa only [updK] using h5, by simpa only [updK] using h6⟩
    simp only [updK]
    rw [← h4, ← h1]
    rfl
def fDict (f : Env → Sto → Option (Val × Sto)) : Env → Sto → Option (Obj × Sto) := fun env st => (f env st).bind fun r => (asDP r.2 r.1).map fun q => (.dK q.1 q.2, r.2)
theorem asDP_cases {st : Sto} {x : Val} {ks : List K1} {ds : List D} (h : asDP st x = some (ks, ds)) : snap st x = some (.dK ks ds) ∨ ∃ es js fs, x = .dat (.tup es) ∧ pairsK es = some (js, fs) ∧ updK [] [] js fs = (ks, ds) := by
  unfold asDP at h
  split at h
  · rename_i hk
    cases h
    unfold asDK at hk
    split at hk
    · cases hk; exact .inl (by assumption)
    · cases hk
  · split at h
    · obtain ⟨⟨js, fs⟩, hk, e⟩ := omap h
      exact .inr ⟨_, js, fs, rfl, hk, e⟩
    · cases h
theorem s_dict {p : Pos} (hcalm : X.calm = true) (hg : Gl X "dict") (hm : X.mg "dict" = none) (h : PE X e (tE X.K cs f)) (hs : nStar e = true) : PE X (.Call (.Name "dict" p) [e] [] pos) (tO X.K cs (fDict f)) :=
  (pe_callTy (call_dictD.or (call_dictPT hcalm)) hg hm (by decide +kernel) (s_cons h s_nil hs) (by decide) (by decide) (noStar hs) rfl).weak fun σ H Q ⟨F, B, as, env, st, v, st', r, ev, k⟩ => by
    obtain ⟨⟨x, st1⟩, ha, ev1⟩ := obnd ev
    obtain ⟨⟨ks, ds⟩, hd, ev2⟩ := omap ev1
    cases ev2
    refine ⟨F, B, as, env, st, [x], st1, r, by simp [ha], fun F' as' H' us r' x' v1 => ?_⟩
    cases v1 with
    | cons q t =>
      cases t
      rcases asDP_cases hd with hd' | ⟨es, js, fs, rfl, hk, e⟩
      · obtain ⟨p, us, rfl, hp, hl, hq⟩ := top_dK r'.toRSt hd' q
        exact .inl ⟨p, _, rfl, hp, fun t ht => fresh_k (o := .dK ks ds) r' x' ht ⟨us, rfl, hl, hq⟩ k⟩
      · obtain ⟨p, us, rfl, at', hq⟩ := Den.tup_iff.mp q
        obtain ⟨hn, hl⟩ := pairsK_prs hk
        obtain ⟨o, h0, ho⟩ := at'.obj hn
        obtain ⟨ps, vs, rfl, hv, hp⟩ := pairsK_ok hk hq
        obtain ⟨us', m1, m2, m3⟩ := merge_upd (ks := []) (ds := []) (us := []) hl hv rfl (Dens.nil.mpr rfl)
        refine .inr ⟨p, o, ps, _, rfl, h0, r'.fh _ _ ho, hp H' r'.fh, fun t ht => ?_⟩
        rw [show mergeK [] ((js.map kk).zip vs) = _ from m1]
        dsimp only at e m1 m2 m3 ⊢
        rw [e] at m2 m3 ⊢
        exact fresh_k (o := .dK ks ds) r' x' ht ⟨us', rfl, m2, m3⟩ k
end
end NK
set_option Elab.async false
set_option linter.all false
set_option autoImplicit false
set_option maxRecDepth 100000
namespace NK
open PySem PySem.Spec PyProof.Rows L2
section
variable {X : Cx} {cs : Nat → Option Addr} {e : Expr} {f : Env → Sto → Option (Val × Sto)} {ff : Env → Sto → Option Out} {pos : Pos}
theorem dens_keys {K : PySem.W.Frag} {F : Hp} : ∀ ks : List K1, Dens K F (ks.map k2D) (ks.map fun k => kV (kk k))
  | [] => Dens.nil.mpr rfl
  | .inl i :: ks => Dens.cons.mpr ⟨_, _, rfl, Den.int_iff.mpr rfl, dens_keys ks⟩
  | .inr w :: ks => Dens.cons.mpr ⟨_, _, rfl, Den.str_iff.mpr rfl, dens_keys ks⟩
theorem zip_fst {α β : Type} : ∀ {xs : List α} {ys : List β}, xs.length = ys.length → (xs.zip ys).map (·.1) = xs
  | [], _, _ => rfl
  | _ :: _, [], h => by simp at h
  | x :: xs, y :: ys, h => by rw [List.zip_cons_cons, List.map_cons, zip_fst (by simpa using h)]
def fLk (f : Env → Sto → Option (Val × Sto)) : Env → Sto → Option (Obj × Sto) := fun env st => (f env st).bind fun r => (lkV r.1 r.2).map fun ds => (.lst ds, r.2)
theorem s_lkeys {p : Pos} (hc : X.calm = true) (hg : Gl X "list") (hm : X.mg "list" = none) (h : PE X e (tE X.K cs f)) (hs : nStar e = true) : PE X (.Call (.Name "list" p) [e] [] pos) (tO X.K cs (fLk f)) :=
  (pe_callTy (call_list_dK hc) hg hm (by decide +kernel) (s_cons h s_nil hs) (by decide) (by decide) (noStar hs) rfl).weak fun σ H Q ⟨F, B, as, env, st, v, st', r, ev, k⟩ => by
    obtain ⟨⟨x, st1⟩, ha, ev1⟩ := obnd ev
    obtain ⟨ds, hd, ev2⟩ := omap ev1
    cases ev2
    refine ⟨F, B, as, env, st, [x], st1, r, by simp [ha], fun F' as' H' us r' x' v1 => ?_⟩
    cases v1 with
    | cons q t =>
      cases t
      cases x with
      | ref l =>
        simp only [lkV] at hd
        split at hd
        · rename_i ks es hl
          cases hd
          obtain ⟨a, ea, rfl⟩ := q
          obtain ⟨_, ho, e3, us, rfl, hlen, hq⟩ := r'.obj l a _ ea hl
          refine ⟨a, _, rfl, e3, fun t ht => ?_⟩
          have hz : ((ks.map kk).zip us).map (fun kv => kV kv.1) = ks.map fun k => kV (kk k) := by
            have e1 : (ks.map kk).length = us.length := by rw [List.length_map, hlen, hq.length]
            have : ((ks.map kk).zip us).map (fun kv => kV kv.1) = (((ks.map kk).zip us).map (·.1)).map kV := by rw [List.map_map]; rfl
            rw [this, zip_fst e1, List.map_map]
            rfl
          rw [hz]
          exact fresh_k (o := .lst (ks.map k2D)) r' x' ht ⟨_, rfl, dens_keys ks⟩ k
        · cases hd
      | dat _ => simp [lkV] at hd
      | bor _ => simp [lkV] at hd
      | tup _ _ _ => simp [lkV] at hd
structure Locd (X : Cx) (cs : Nat → Option Addr) (e : Expr) (loc : Env → Option (List D)) (W : Addr → L2.St → Hp → Prop) : Prop where
  pe : PE X e fun σ H Q => ∃ p, W p σ H ∧ Q (.ref p) H
  fn : ∀ {p p' : Addr} {σ : L2.St} {H : Hp}, W p σ H → W p' σ H → p = p'
  lk : ∀ {p q : Addr} {σ : L2.St} {H : Hp} {kvs : List (Key × V)} {od : PySem.Obj}, W p σ H → H q = some (.dK kvs) → W p σ (upd H q (.frz od (.dK kvs)))
  at_ : ∀ {F B : Hp} {as : List Addr} {env : Env} {st : Sto} {σ : L2.St} {H : Hp} {ds : List D}, Rel X.K cs F B as env st σ H → loc env = some ds → ∃ (p : Addr) (us : List V) (ks : List K1), W p σ H ∧ ds = ks.map k2D ∧ ks.length = us.length ∧ (Rd F p (.dK ((ks.map kk).zip us)) ∨ Rd B p (.dK ((ks.map kk).zip us)))
def fLo (loc : Env → Option (List D)) : Env → Sto → Option (List D × Sto) := fun env st => (loc env).map fun ds => (ds, st)
def ZkW (W : Addr → L2.St → Hp → Prop) : L2.St → Hp → Prop := fun σ H => ∃ p o kvs, W p σ H ∧ H p = some (.frz o (.dK kvs))
theorem s_kyW {tg : Expr} {loc : Env → Option (List D)} {W : Addr → L2.St → Hp → Prop} (h : Locd X cs e loc W) : PI X tg e fun σ H R => ZkW W σ H ∧ tIG X.K cs (fLo loc) anyG σ H R := (pi_keys h.pe).held.weak fun σ H R ⟨⟨p, o, kvs, e1, e2⟩, F, B, as, env, st, ds, st', r, ev, k⟩ => by
  obtain ⟨ds', hk, ee⟩ := omap ev
  clear ev
  cases ee
  obtain ⟨p', us, ks, s1, rfl, hl, hrd⟩ := h.at_ r hk
  have ep := h.fn e1 s1
  subst ep
  have hx : kvs = (ks.map kk).zip us ∧ (F p = some (.frz o (.dK kvs)) ∨ B p = some (.frz o (.dK kvs))) := by
    rcases hrd with h | h
    · have : F p = some (.frz o (.dK kvs)) := by
        rcases h with h | ⟨_, h⟩ <;> have := r.fh _ _ h <;> rw [e2] at this <;> cases this
        exact h
      exact ⟨rd_kvs h this, .inl this⟩
    · have : B p = some (.frz o (.dK kvs)) := by
        rcases h with h | ⟨_, h⟩ <;> have := r.bh _ _ h <;> rw [e2] at this <;> cases this
        exact h
      exact ⟨rd_kvs h this, .inr this⟩
  obtain ⟨rfl, hFB⟩ := hx
  have hlen : ((ks.map kk).zip us).length = ks.length := by rw [List.length_zip, List.length_map, hl, Nat.min_self]
  have at2 : ∀ {F2 as2 st2 H2}, (∀ a o, F a = some o → F2 a = some o) → RSt X.K cs F2 B as2 st2 H2 → H2 p = some (.frz o (.dK ((ks.map kk).zip us))) := fun hF r2 => by
    rcases hFB with z | z
    · exact r2.fh _ _ (hF _ _ z)
    · exact r2.bh _ _ z
  refine ⟨p, e1, p, o, rfl, .inl ⟨_, e2, fun ⟨hh, ok⟩ => k F as H _ r r.refl ⟨fun j hF _ _ r2 hj => ?_, fun j d hF _ _ r2 hj => ?_, fun j d x H3 hF _ _ r2 hj y => ?_⟩ ?_⟩⟩
  · exact ⟨at2 hF r2, by rw [hlen]; rw [List.length_map] at hj; exact Nat.le_of_eq hj⟩
  · refine ⟨at2 hF r2, ?_⟩
    rw [hlen]
    have := (List.getElem?_eq_some_iff.mp hj).1
    rw [List.length_map] at this
    exact this
  · obtain ⟨rfl, kx, v, hkv, rfl⟩ := y
    rw [List.getElem?_map] at hj
    obtain ⟨k0, hk0, rfl⟩ := Option.map_eq_some_iff.mp hj
    have hkk : kx = kk k0 := by
      have h1 := (List.getElem?_zip_eq_some.mp hkv).1
      rw [List.getElem?_map, hk0] at h1
      exact (Option.some.inj h1).symm
    subst hkk
    refine ⟨_, r2, r2.refl, ?_⟩
    cases k0 with
    | inl z => exact Den.int_iff.mpr rfl
    | inr w => exact Den.str_iff.mpr rfl
  · rw [List.length_map, line_eq, ← hlen]
    have := (ok p _ e2).2
    exact this.1
theorem s_forW {bind : D → Env → Option Env} {t : TG} {tgl : List Nat} {tg : Expr} {b : List Stmt} {loc : Env → Option (List D)} {W : Addr → L2.St → Hp → Prop} (hp : PassesOwn (model X.prog X.w) X.A X.env X.xe) (hc : X.calm = true) (he : Locd X cs e loc W) (hg : PG X tg t) (ht : TgOk X.K cs t bind tgl) (hb : PSs X b (tS X.K cs ff))
    (hs : ∀ x, foldedSetIterable e X.env x = pure x) : PS X (.For tg e b [] pos) (tS X.K cs (fFor (fLo loc) bind ff)) := by
  have base := s_forGZ (pos := pos) (Z := ZkW W) (fi := fLo loc) (G := anyG) hp hc (s_kyW he) hg ht hb hs fun _ _ _ _ _ => trivial
  rw [fForG_any] at base
  refine ⟨fun pins s σ H D I hw => ?_⟩
  obtain ⟨F, B, as, env, st, o, r, ev, k1, k2⟩ := hw
  obtain ⟨⟨ds, s1⟩, hfi, _⟩ := obnd ev
  obtain ⟨ds', hk, eds⟩ := omap hfi
  cases eds
  obtain ⟨p, us, ks, s1, rfl, hl, hrd⟩ := he.at_ r hk
  have hrH : Rd H p (.dK ((ks.map kk).zip us)) ∧ (F p ≠ none ∨ B p ≠ none) := by
    rcases hrd with h | h
    · exact ⟨rd_mono r.fh h, .inl (by rcases h with h | ⟨_, h⟩ <;> rw [h] <;> simp)⟩
    · exact ⟨rd_mono r.bh h, .inr (by rcases h with h | ⟨_, h⟩ <;> rw [h] <;> simp)⟩
  obtain ⟨hrH, hFB⟩ := hrH
  rcases hrH with hx | ⟨ob, hx⟩
  · have hF : p ∈ as → F p ≠ none := fun hm => hFB.resolve_right fun h => h (r.nb p hm)
    refine (ps_lock base).run pins s σ H D I ⟨p, _, hx, trivial, fun od => ⟨⟨p, od, _, he.lk s1 hx, upd_same⟩, _, _, as, env, st, o, r.lkd (.inr ⟨od, rfl⟩) (.inl rfl) hx hF, ev, fun e' s' eo F2 as2 H2 σ2 r2 x2 => ?_, fun v s' eo F2 as2 H2 u r2 x2 v2 => ?_⟩⟩
    · obtain ⟨h1, h2, h3, l1, l2⟩ := unlk r.toRSt hx hFB r2.toRSt x2
      exact ⟨h1, k1 e' s' eo _ as2 _ σ2 { h2 with slot := fun j w e => let ⟨u, e1, e2⟩ := r2.slot j w e; ⟨u, e1, e2.lk l1 l2⟩, elen := r2.elen } h3⟩
    · obtain ⟨h1, h2, h3, l1, l2⟩ := unlk r.toRSt hx hFB r2 x2
      exact ⟨h1, k2 v s' eo _ as2 _ u h2 h3 (v2.lk l1 l2)⟩
  · exact base.run pins s σ H D I ⟨⟨p, ob, _, s1, hx⟩, F, B, as, env, st, o, r, ev, k1, k2⟩
def WPt (K : PySem.W.Frag) (i j k : Nat) : Addr → L2.St → Hp → Prop := fun p σ H => ∃ (a b : Addr) (x : V) (us : List V), σ[i]? = some (some (.ref a)) ∧ σ[j]? = some (some x) ∧ DGet H a x (some (.ref b)) ∧ Rd H b (.tup us) ∧ us[k]? = some (.ref p)
theorem dget_fn {H : Hp} {a : Addr} {x : V} {r r' : Option V} (h : DGet H a x r) (h' : DGet H a x r') : r = r' := by
  have inj : ∀ {k k' : Key}, kV k = kV k' → k = k' := fun {k k'} e => by
    cases k <;> cases k' <;> first | (cases e; rfl) | cases e
  rcases h with ⟨kvs, k, g1, g2, g3⟩ | ⟨kvs, k, b, g1, g2, g3, g4⟩ <;> rcases h' with ⟨kvs', k', f1, f2, f3⟩ | ⟨kvs', k', b', f1, f2, f3, f4⟩
  · have e : kvs = kvs' := by
      rcases g1 with g1 | ⟨_, g1⟩ <;> rcases f1 with f1 | ⟨_, f1⟩ <;> rw [g1] at f1 <;> cases f1 <;> rfl
    rw [g2] at f2
    rw [g3, f3, e, inj f2]
  · rcases g1 with g1 | ⟨_, g1⟩ <;> rcases f1 with f1 | ⟨_, f1⟩ <;> rw [g1] at f1 <;> cases f1
  · rcases g1 with g1 | ⟨_, g1⟩ <;> rcases f1 with f1 | ⟨_, f1⟩ <;> rw [g1] at f1 <;> cases f1
  · have e : kvs = kvs' := by
      rcases g1 with g1 | ⟨_, g1⟩ <;> rcases f1 with f1 | ⟨_, f1⟩ <;> rw [g1] at f1 <;> cases f1 <;> rfl
    rw [g2] at f2
    cases f2
    rw [g3] at f3
    have e2 : k.map kV = k'.map kV := HO.tup.inj (Option.some.inj f3)
    have e3 : ∀ {xs ys : List Key}, xs.map kV = ys.map kV → xs = ys := by
      intro xs
      induction xs with
      | nil => intro ys h; cases ys <;> simp at h ⊢
      | cons x xs ih =>
        intro ys h
        cases ys with
        | nil => simp at h
        | cons y ys =>
          simp only [List.map_cons, List.cons.injEq] at h
          rw [inj h.1, ih h.2]
    rw [g4, f4, e, e3 e2]
theorem rd_lk {H : Hp} {a q : Addr} {o : HO} {kvs : List (Key × V)} {od : PySem.Obj} (h : Rd H a o) (e : H q = some (.dK kvs)) : Rd (upd H q (.frz od (.dK kvs))) a o := by
  by_cases ha : a = q
  · subst ha
    rcases h with h | ⟨ob, h⟩
    · rw [e] at h; cases h; exact .inr ⟨od, upd_same⟩
    · rw [e] at h; cases h
  · rcases h with h | ⟨ob, h⟩
    · exact .inl (by rw [upd_ne ha]; exact h)
    · exact .inr ⟨ob, by rw [upd_ne ha]; exact h⟩
theorem dget_lk {H : Hp} {a q : Addr} {x : V} {r : Option V} {kvs : List (Key × V)} {od : PySem.Obj} (h : DGet H a x r) (e : H q = some (.dK kvs)) : DGet (upd H q (.frz od (.dK kvs))) a x r := by
  rcases h with ⟨kvs', k, g1, g2, g3⟩ | ⟨kvs', k, b, g1, g2, g3, g4⟩
  · exact .inl ⟨kvs', k, rd_lk g1 e, g2, g3⟩
  · refine .inr ⟨kvs', k, b, rd_lk g1 e, g2, ?_, g4⟩
    have hb : b ≠ q := fun z => by subst z; rw [e] at g3; cases g3
    rw [upd_ne hb]; exact g3
theorem rd_tup_fn {H : Hp} {b : Addr} {us us' : List V} (h : Rd H b (.tup us)) (h' : Rd H b (.tup us')) : us = us' := by
  rcases h with h | ⟨_, h⟩ <;> rcases h' with h' | ⟨_, h'⟩ <;> rw [h] at h' <;> cases h' <;> rfl
theorem wpt_fn {K : PySem.W.Frag} {i j k : Nat} {p p' : Addr} {σ : L2.St} {H : Hp} (h : WPt K i j k p σ H) (h' : WPt K i j k p' σ H) : p = p' := by
  obtain ⟨a, b, x, us, h1, h2, h3, h4, h5⟩ := h
  obtain ⟨a', b', x', us', f1, f2, f3, f4, f5⟩ := h'
  rw [h1] at f1; cases f1
  rw [h2] at f2; cases f2
  have := dget_fn h3 f3
  cases this
  have := rd_tup_fn h4 f4
  subst this
  rw [h5] at f5; cases f5
  rfl
theorem locd_pt {i j k : Nat} {y z : Str} {py pz pk p1 p2 : Pos} {n : Nat} (hu : X.A.units + 1 < cLine) (hy : PE X (.Name y py) (tVar i)) (hz : PE X (.Name z pz) (tVar j)) :
    Locd X cs (.Subscript (.Subscript (.Name y py) (.Name z pz) p1) (.Constant (.int (k : Int)) n pk) p2) (kyP i j k) (WPt X.K i j k) where
  pe := by
    have i1 : PE X (.Subscript (.Name y py) (.Name z pz) p1) (tDGet (tVar i) (tVar j)) := pe_dget hu hy hz fun o i => rfl
    have i2 : PE X (.Constant (.int (k : Int)) n pk) (tC (.int (k : Int))) := pe_int
    refine (pe_ix ix_tup i1 i2 fun o i => rfl).weak fun σ H Q ⟨p, ⟨a, b, x, us, h1, h2, h3, h4, h5⟩, q⟩ => ?_
    refine ⟨.ref a, h1, x, h2, a, .ref b, rfl, h3, b, us, (k : Int), .ref p, rfl, rfl, .inl h4, ?_, q⟩
    unfold atI
    rw [show ixN us.length (k : Int) = some k from ?_]
    · exact h5
    · have := (List.getElem?_eq_some_iff.mp h5).1
      unfold ixN
      simp [this]
  fn := wpt_fn
  lk := fun ⟨a, b, x, us, h1, h2, h3, h4, h5⟩ e => ⟨a, b, x, us, h1, h2, dget_lk h3 e, rd_lk h4 e, h5⟩
  at_ := fun {F B as env st σ H ds} r h => by
    unfold kyP at h
    split at h
    case h_2 => cases h
    rename_i v w hv hw
    obtain ⟨⟨ks, es⟩, ha, h⟩ := obnd h
    obtain ⟨d1, hd1, h⟩ := obnd h
    obtain ⟨u, s1, q⟩ := r.slot i _ hv
    obtain ⟨x, s2, qx⟩ := r.slot j _ hw
    have hs : snap st v = some (.dK ks es) := by
      have := asDK_snap ha
      cases v with
      | ref l => simp [snap] at this
      | dat _ => exact this
      | bor _ => exact this
      | tup _ _ _ => simp [snap] at this
    obtain ⟨a, o, rfl, g, zz⟩ := get_dK (v := v) r.toRSt hs q (i := .str w) (k := .inr w) rfl qx
    have hd1 : dlook ks es (.inr w) = some d1 := hd1
    rcases zz with ⟨d', x0, e1, e2, e3⟩ | ⟨e1, _⟩
    case inr => rw [hd1] at e1; cases e1
    rw [hd1] at e1
    cases e1
    subst e2
    unfold kyD at h
    split at h
    case h_2 => cases h
    rename_i ts
    obtain ⟨d2, hd2, h⟩ := obnd h
    obtain ⟨b, us, rfl, hb, hq⟩ := Den.tup_iff.mp e3
    obtain ⟨u2, hu2, q2⟩ := hq.get hd2
    split at h
    case h_2 => cases h
    rename_i js fs
    cases h
    obtain ⟨p, vs, rfl, a2, l2, b2⟩ := Den.dK_iff.mp q2
    exact ⟨p, vs, js, ⟨a, b, x, us, s1, s2, g, rd_mono r.fh hb.rd, hu2⟩, rfl, by rw [l2, b2.length], .inl a2⟩
end
end NK
set_option Elab.async false
set_option linter.all false
set_option autoImplicit false
set_option maxRecDepth 100000
namespace NK
open PySem PySem.Spec PyProof.Rows L2
open Builtin Builtin.Str
theorem mt_rpartition {X : Cx} : MtR X "str.rpartition" (fun x xs H Q => ∃ a b, x = .str a ∧ xs = [.str b] ∧ (b.length == 0) = false ∧ a.length ≤ sizeLine ∧
    ∀ p, H p = none → Q (.ref p) (upd H p (.tup [.str (Txt.rpartition a b).1, .str (Txt.rpartition a b).2.1, .str (Txt.rpartition a b).2.2]))) := by
  intro pins s σ H x xs v us Q I rx rs h
  obtain ⟨a, b, rfl, rfl, hb, hz, h⟩ := h
  obtain ⟨t, rfl⟩ := rx
  cases rs with
  | cons r1 rs =>
    cases rs
    obtain ⟨u, rfl⟩ := r1
    refine call_meets F.slot_str_rpartition (typeIs_str _ _ _) F.entry_str_rpartition (F.args_str_rpartition_2 _ _) (meets_str_rpartition a b t u hb hz) ?_
    unfold Txt.rpartition at h
    revert h
    cases Builtin.Str.lastOccurrence a b 0 a.length with
    | none => intro h; exact laid_parts I h
    | some i => intro h; exact laid_parts I h
theorem unS (x : Str) (w : W) (h : TL.tl x = w) : x = S w := by rw [← h]; exact (TL.mk_tl x).symm
theorem tl_S (w : W) : TL.tl (S w) = w := TL.tl_mk w
theorem startsW_take : ∀ a b : W, startsW a b = (a.take b.length == b)
  | a, [] => by cases a <;> simp [startsW]
  | [], b :: bs => by simp [startsW]
  | a :: as, b :: bs => by
    rw [startsW, startsW_take as bs, List.length_cons, List.take_succ_cons]
    rfl
theorem starts_S (a b : W) : Txt.startswith (S a) (S b) = startsW a b := by
  unfold Txt.startswith
  rw [PySem.StrLaws.subAt_eq, S_cps, S_cps, S_len, S_len, List.drop_zero, startsW_take]
  cases h : (a.take b.length == b)
  · simp
  · have e : a.take b.length = b := eq_of_beq h
    have e1 := congrArg List.length e
    rw [List.length_take] at e1
    simp only [Nat.zero_add, Bool.and_true, decide_eq_true_eq]
    omega
theorem split_S (a b : W) (hb : b.isEmpty = false) (hk : b.all (· < 256) = true) : Txt.split (S a) (S b) = (splW b a).map S := by
  have hne : TL.tl (S b) ≠ [] := by rw [tl_S]; intro e; rw [e] at hb; cases hb
  have e := TL.split_spl (S a) (S b) hne (TL.kind_ok (by show (S b).cps.all _ = true; rw [← Array.all_toList, S_cps]; exact hk))
  rw [tl_S, tl_S] at e
  refine TL.map_tl_inj ?_
  rw [e, List.map_map]
  show splW b a = _
  induction splW b a with
  | nil => rfl
  | cons x xs ih => rw [List.map_cons, ← ih]; rfl
theorem part_S (a b : W) (hb : b.isEmpty = false) : Txt.partition (S a) (S b) = (S (parW b a).1, S (parW b a).2.1, S (parW b a).2.2) := by
  have hne : TL.tl (S b) ≠ [] := by rw [tl_S]; intro e; rw [e] at hb; cases hb
  rw [TL.partition_par _ _ hne, tl_S, tl_S]
  unfold parW
  cases TL.par b [] a with
  | none => rfl
  | some q => rfl
theorem rpart_S (a b : W) : Txt.rpartition (S a) (S b) = (S (rparW b a).1, S (rparW b a).2.1, S (rparW b a).2.2) := by
  unfold Txt.rpartition rparW
  rw [S_len]
  cases lastOccurrence (S a) (S b) 0 a.length with
  | none => rfl
  | some i =>
    show (strSub (S a) 0 i, S b, strSub (S a) (i + (S b).length) a.length) = (S (a.take i), S b, S (a.drop (i + b.length)))
    have e1 : strSub (S a) 0 i = S (a.take i) := unS _ _ (by rw [TL.tl_strSub, tl_S, List.drop_zero, Nat.sub_zero])
    have e2 : strSub (S a) (i + (S b).length) a.length = S (a.drop (i + b.length)) := unS _ _ (by
      have := TL.tl_strSub_end (S a) (i + b.length)
      rw [S_len, tl_S] at this
      rw [S_len]
      exact this)
    rw [e1, e2]
section
variable {X : Cx} {cs : Nat → Option Addr}
theorem ne0 {b : W} (hb : b.isEmpty = false) : ((S b).length == 0) = false := by
  rw [S_len]
  cases b with
  | nil => cases hb
  | cons _ _ => rfl
theorem mt_startswith_ok {x y : Val} {st st' : Sto} {v : Val} (h : mtV .startswith x [y] st = some (v, st')) : MtFact X cs .startswith x [y] st st' v := by
  unfold mtV at h
  split at h <;> try contradiction
  rename_i a b _ he
  cases he
  cases h
  refine ⟨_, _, .inr (.inl rfl), mt_startswith, F.plainAttrs_str, F.slot_str_startswith, F.type_str_startswith, fun F B as env σ H u us Q r q p k => ?_⟩
  obtain ⟨w', rfl, qy⟩ := paired1 p
  exact ⟨_, _, str_of q, by rw [str_of qy], by rw [starts_S]; exact k F H _ r r.refl vbl⟩
theorem mt_split_ok {x y : Val} {st st' : Sto} {v : Val} (h : mtV .split x [y] st = some (v, st')) : MtFact X cs .split x [y] st st' v := by
  unfold mtV at h
  split at h <;> try contradiction
  rename_i a b _ he
  cases he
  split at h
  case isFalse => cases h
  rename_i hc
  cases h
  refine ⟨_, _, .inr (.inl rfl), mt_split, F.plainAttrs_str, F.slot_str_split, F.type_str_split, fun F B as env σ H u us Q r q p k => ?_⟩
  obtain ⟨w', rfl, qy⟩ := paired1 p
  refine ⟨_, _, str_of q, by rw [str_of qy], ne0 hc.1.1, by rw [S_len]; exact hc.2, fun t ht => ?_⟩
  rw [split_S a b hc.1.1 hc.1.2]
  obtain ⟨r2, x2, v2⟩ := r.put (d := .lst ((splW b a).map .str)) (o := .lst (((splW b a).map S).map V.str)) ht fun F2 hf h2 => Den.lst_iff.mpr ⟨t, _, rfl, h2, dens_texts _⟩
  exact k _ _ _ r2 x2 v2
theorem mt_partition_ok {x y : Val} {st st' : Sto} {v : Val} (h : mtV .partition x [y] st = some (v, st')) : MtFact X cs .partition x [y] st st' v := by
  unfold mtV at h
  split at h <;> try contradiction
  rename_i a b _ he
  cases he
  split at h
  case isFalse => cases h
  rename_i hc
  cases h
  refine ⟨_, _, .inr (.inl rfl), mt_partition, F.plainAttrs_str, F.slot_str_partition, F.type_str_partition, fun F B as env σ H u us Q r q p k => ?_⟩
  obtain ⟨w', rfl, qy⟩ := paired1 p
  refine ⟨_, _, str_of q, by rw [str_of qy], ne0 hc.1, by rw [S_len]; exact hc.2, fun t ht => ?_⟩
  rw [part_S a b hc.1]
  obtain ⟨r2, x2, v2⟩ := r.put (d := .tup [.str (parW b a).1, .str (parW b a).2.1, .str (parW b a).2.2]) (o := .tup [.str (S (parW b a).1), .str (S (parW b a).2.1), .str (S (parW b a).2.2)]) ht fun F2 hf h2 => Den.tup_iff.mpr ⟨t, _, rfl, .plain h2 rfl, dens_texts [_, _, _]⟩
  exact k _ _ _ r2 x2 v2
theorem mt_rpartition_ok {x y : Val} {st st' : Sto} {v : Val} (h : mtV .rpartition x [y] st = some (v, st')) : MtFact X cs .rpartition x [y] st st' v := by
  unfold mtV at h
  split at h <;> try contradiction
  rename_i a b _ he
  cases he
  split at h
  case isFalse => cases h
  rename_i hc
  cases h
  refine ⟨_, _, .inr (.inl rfl), mt_rpartition, F.plainAttrs_str, F.slot_str_rpartition, F.type_str_rpartition, fun F B as env σ H u us Q r q p k => ?_⟩
  obtain ⟨w', rfl, qy⟩ := paired1 p
  refine ⟨_, _, str_of q, by rw [str_of qy], ne0 hc.1, by rw [S_len]; exact hc.2, fun t ht => ?_⟩
  rw [rpart_S a b]
  obtain ⟨r2, x2, v2⟩ := r.put (d := .tup [.str (rparW b a).1, .str (rparW b a).2.1, .str (rparW b a).2.2]) (o := .tup [.str (S (rparW b a).1), .str (S (rparW b a).2.1), .str (S (rparW b a).2.2)]) ht fun F2 hf h2 => Den.tup_iff.mpr ⟨t, _, rfl, .plain h2 rfl, dens_texts [_, _, _]⟩
  exact k _ _ _ r2 x2 v2
end
end NK
set_option Elab.async false
set_option linter.all false
set_option autoImplicit false
set_option maxRecDepth 100000
namespace NK
open PySem PySem.Spec PyProof.Rows L2
theorem cnt_str {k : Str} : ∀ {vs : List Value} {ys : List Str}, StrsAre vs ys → vs.countP (isStrOf k) = ys.count k
  | _, _, .nil => rfl
  | _, _, .cons n u h => by
    have ih := cnt_str (k := k) h
    rw [List.countP_cons, List.count_cons, ih]
    rfl
theorem cnt_S (w : W) : ∀ ws : List W, (ws.map S).count (S w) = ws.count w
  | [] => rfl
  | a :: ws => by
    rw [List.map_cons, List.count_cons, List.count_cons, cnt_S w ws]
    by_cases h : a = w
    · subst h; simp
    · have h2 : ¬ S a = S w := fun z => h (S_inj z)
      simp [h, h2]
section
variable {X : Cx} {cs : Nat → Option Addr}
def rCntS (K : PySem.W.Frag) : V → List V → Hp → VK → Prop := fun x xs H Q => ∃ (p : Addr) (ss : List Str) (k : Str), x = .ref p ∧ xs = [.str k] ∧ SqL K H p (ss.map V.str) ∧ Q (.int (ss.count k : Nat)) H
theorem mt_scount : MtR X "list.count" (rCntS X.K) := by
  intro pins s σ H x xs v us Q I rx rxs h
  obtain ⟨p, ss, k, rfl, rfl, hs, q⟩ := h
  cases rx
  obtain ⟨u, rfl, ru⟩ := rxs.one
  obtain ⟨t, rfl⟩ := ru
  obtain ⟨its, rv, ⟨⟨cls, dd, data, sl⟩, n, ho, hc, hdn, hd⟩, hlen⟩ := I.list hs
  simp only at hc hd
  subst hc hd
  have hi := vals_strs rv
  refine call_meets PySem.F.slot_list_count ⟨_, ho, rfl⟩ PySem.F.entry_list_count (PySem.F.args_list_count_2 _ _)
    (SeqAt.list_countAt p its.toArray n dd sl (.str k t) (isStrOf k)) ⟨ho, fun y hy => (eq_isStrOf k t hi y (by simpa using hy)).at _ _, ?_⟩
  have ec : its.toArray.toList.countP (isStrOf k) = ss.count k := cnt_str hi
  refine ⟨.int (ss.count k : Nat), H, I.tok _, ⟨s.toks, ?_⟩, q⟩
  show Value.int ((its.toArray.toList.countP (isStrOf k) : Nat) : Int) s.toks = Value.int ((ss.count k : Nat) : Int) s.toks
  rw [ec]
theorem asX_kind {st : Sto} {x : Val} {ds : List D} (h : asX st x = some ds) : kindV st x = 1 := by
  unfold asX at h
  split at h
  · rename_i hs
    unfold kindV
    rw [hs]
  · cases h
theorem mt_count_ok {x y : Val} {st st' : Sto} {v : Val} (h : mtV .count x [y] st = some (v, st')) : MtFact X cs .count x [y] st st' v := by
  unfold mtV at h
  split at h <;> try contradiction
  rename_i w _ he
  cases he
  obtain ⟨ds, hds, h⟩ := obnd h
  obtain ⟨ws, hws, e⟩ := omap h
  cases e
  have kl := asX_kind hds
  refine ⟨_, _, .inl kl, mt_scount, by rw [kl]; exact F.plainAttrs_list, by rw [kl]; exact F.slot_list_count, F.type_list_count, fun F B as env σ H u us Q r q p k => ?_⟩
  obtain ⟨w', rfl, qy⟩ := paired1 p
  obtain ⟨a, us', rfl, ha, hq⟩ := asX_ok r.toRSt hds q
  refine ⟨a, ws.map S, S w, rfl, by rw [str_of qy], ?_, ?_⟩
  · rw [textsD_ok hws hq] at ha
    exact .of ha
  · rw [cnt_S]
    exact k F H _ r r.refl vint
theorem eqV_str {a b : Str} : eqV (.str a) (.str b) = (a == b) := rfl
theorem mt_index_ok {x y : Val} {st st' : Sto} {v : Val} (h : mtV .index x [y] st = some (v, st')) : MtFact X cs .index x [y] st st' v := by
  unfold mtV at h
  split at h <;> try contradiction
  rename_i w _ he
  cases he
  obtain ⟨ds, hds, h⟩ := obnd h
  obtain ⟨ws, hws, e⟩ := obnd h
  split at e
  case isFalse => cases e
  rename_i hm
  cases e
  have kl := asX_kind hds
  refine ⟨_, _, .inl kl, mt_index, by rw [kl]; exact F.plainAttrs_list, by rw [kl]; exact F.slot_list_index, F.type_list_index, fun F B as env σ H u us Q r q p k => ?_⟩
  obtain ⟨w', rfl, qy⟩ := paired1 p
  obtain ⟨a, us', rfl, ha, hq⟩ := asX_ok r.toRSt hds q
  have hu := textsD_ok hws hq
  have hj : ws.idxOf w < ws.length := List.idxOf_lt_length_of_mem hm
  have hz : us'[ws.idxOf w]? = some (V.str (S w)) := by
    rw [hu, List.getElem?_map, List.getElem?_map, List.getElem?_eq_getElem hj, List.getElem_idxOf hj]
    rfl
  refine ⟨a, us', .str (S w), ws.idxOf w, .str (S w), rfl, by rw [str_of qy], .of ha, rfl, ?_, hz, by rw [eqV_str]; exact beq_self_eq_true _, fun m z' hlt hm' => ?_, k F H _ r r.refl vint⟩
  · rw [hu, List.all_map]
    exact List.all_eq_true.mpr fun _ _ => rfl
  · rw [hu, List.getElem?_map, List.getElem?_map, Option.map_map] at hm'
    obtain ⟨b, hb, rfl⟩ := Option.map_eq_some_iff.mp hm'
    show eqV (.str (S b)) (.str (S w)) = false
    rw [eqV_str]
    refine beq_eq_false_iff_ne.mpr fun e => ?_
    have eb := S_inj e
    subst eb
    obtain ⟨h1, h2⟩ := List.getElem?_eq_some_iff.mp hb
    have := List.not_of_lt_findIdx (p := (· == b)) (xs := ws) (i := m) hlt
    rw [h2] at this
    simp at this
end
end NK
set_option Elab.async false
set_option linter.all false
set_option autoImplicit false
set_option maxRecDepth 100000
namespace PySem.W
open PySem PySem.Spec PySem.Calls PyProof.Rows
section
variable {prog : Program} {w : World} {A : Around} {E : Value → Shared → Prop} {s : Shared} {K : Frag} {x D : Addr} {ox : Obj} {od : Option Obj}
theorem nk_classE {Q : Option Value → Shared → Prop} (c : L2.ExcC K D) (X : K.In s.heap) (I : InstAt s.heap x ox D od) (h : Q (some (.ref D)) { s with toks := s.toks + 1 }) : wpAny (model prog w) A (getAttr? (.ref x) "__class__") Q E s := by
  obtain ⟨hga, hgt, hsub, hdct, ha, hn, htk, hm⟩ := c
  have hf : findObj K D od "__class__" = some (.bind (.builtin "getset_descriptor.__get__") (.builtin "object.__class__")) := findObj_dataE (by obtain ⟨cd, hc, _⟩ := any_some hdct; rw [hc]; rfl) ha hn htk
  obtain ⟨hp, g, d, t, os⟩ := s
  have L0 := I.type (M := model prog w)
  have L1 := looks_findIn (M := model prog w) X hga
  have L2 := looks_findIn (M := model prog w) X hgt
  have L3 := looks_find (M := model prog w) X I hf
  have sub : Looks (model prog w) hp (isInstance (.ref x) (.type "BaseException")) true := L0.andThen (looks_subIn X hsub)
  have hx0 : (false && onTheHeap (Value.builtin "BaseException.__getattribute__")) = false := rfl
  have hx2 : (Value.builtin "BaseException.__getattribute__" == Value.builtin "object.__getattribute__") = false := by decide +kernel
  have hx1 : (onTheHeap (Value.ref D) && Value.builtin "BaseException.__getattribute__" == Value.builtin "object.__getattribute__") = false := by rw [hx2]; rfl
  unfold getAttr? getAttrBy? getAttrBy
  refine wpAny_bind (wpAny_mkText (wpAny_bind (wpAny_attempt (wpAny_holding (wpAny_bind (L0.at (wpAny_bind (L1.at ?_))))))))
  show wpAny _ _ (if (onTheHeap (Value.ref D) && Value.builtin "BaseException.__getattribute__" == Value.builtin "object.__getattribute__") = true then _ else _) _ _ _
  rw [hx1, if_neg Bool.false_ne_true]
  unfold getAttrByItsOwn hookBefore
  refine wpAny_bind ?_
  rw [if_pos (show onTheHeap (Value.ref D) = true from rfl)]
  refine L2.at ?_
  refine wpAny_bind (wpAny_attempt (wpAny_holding ?_))
  unfold callGetattribute
  rw [hx0, if_neg Bool.false_ne_true]
  unfold boundAndCalled
  rw [PySem.F.excAttr_ValueError.ga.bind (.ref x)]
  refine wpAny_bind (wpAny_pure ?_)
  show wpAny _ _ (call (.builtin "BaseException.__getattribute__") [.ref x, .str "__class__" t]) _ _ _
  refine wpAny_call (codeAny_call_builtin PySem.F.excAttr_ValueError.ga.plain PySem.F.entry_bexc_ga ?_)
  refine @check_slot (model prog w) _ _ ⟨hp, g, d, t + 1, os⟩ "BaseException.__getattribute__" "BaseException" "__getattribute__" (.ref x) [.str "__class__" t] [] _ (by decide +kernel) (by decide +kernel) sub (PySem.F.args_bexc_ga (.ref x) (.str "__class__" t)) ?_
  unfold Builtin.«object.__getattribute__»
  refine wpAny_bind (wpAny_of_eq (a := ((Value.ref x : Value), [Value.str "__class__" t])) (by first | rfl | (simp only [slotArgs]; rfl)) ?_)
  refine wpAny_bind (wpAny_pure (wpAny_bind (L0.at (wpAny_bind (L3.at ?_)))))
  show wpAny _ _ (holding [Value.builtin "object.__class__"] (call (.builtin "getset_descriptor.__get__") [.builtin "object.__class__", .ref x, .ref D]) >>= ret) _ _ _
  refine wpAny_bind (wpAny_holding (wpAny_call (class_get (s := ⟨hp, g, d, t + 1, os⟩) (ox := ox) (od := od) X I hm ?_)))
  refine wpAny_pure ?_
  show wpAny _ _ (handedOut (.ref D)) _ _ _
  rw [handedOut_of (v := .ref D) rfl]
  first
    | exact wpAny_pure (wpAny_pure h)
    | exact wpAny_pure h
    | exact wpAny_pure (wpAny_bind (wpAny_pure (wpAny_pure h)))
theorem nk_kitx (c : L2.ExcC K D) : KitX K (.ref x) (.ref D) (fun h => InstAt h x ox D od) where
  ty := fun _ _ _ I => I.type
  it := fun _ _ X _ => by
    obtain ⟨cdD, hcD, _⟩ := any_some c.hd
    unfold clsIn at hcD
    split at hcD
    · rename_i c' d' cd' sl' ho
      intro A' Q' E' s' k q
      unfold isType loadHead
      exact wpAny_bind (wpAny_loadPart (k _ _ (X _ _ ho)) (wpAny_pure q))
    · cases hcD
  ne := fun h tp dd its n sl X htp => by
    obtain ⟨cdD, hcD, _⟩ := any_some c.hd
    refine Bool.eq_false_iff.mpr fun q => ?_
    have e : D = tp := Value.ref.inj (beq_iff_eq.mp q)
    subst e
    unfold clsIn at hcD
    split at hcD
    · rename_i c' d' cd' sl' ho
      have z := (X _ _ ho).symm.trans htp
      cases z
    · cases hcD
  ca := fun X I k => nk_classE c X I k
end
end PySem.W
namespace NK
open PySem PySem.Spec PyProof.Rows L2
def XAt (H : Hp) (p C : Addr) (od : Option Addr) : Prop := H p = some (ExV p C od) ∧ (od = none ∨ ∃ dd fs, od = some dd ∧ H dd = some (.xd fs))
section
variable {X : Cx} {pins : List (Addr × PySem.Obj)} {σ : L2.St} {H : Hp} {s : Shared} {p C : Addr} {od : Option Addr}
theorem xat_inst (I : Inv X pins σ H s) (h : XAt H p C od) : ∃ ox ob, PySem.W.InstAt s.heap p ox C ob ∧ (∀ dd, od = some dd → ∃ oD, ob = some oD ∧ s.heap.get? dd = some oD) := by
  obtain ⟨h1, h2⟩ := h
  have z : ObjOk X.prog X.w H s.heap p (.ext (ExcAt p C od)) := I.hok p _ h1
  obtain ⟨⟨ox, vs, e1, e2, e3, e4⟩, _, _⟩ := z
  rcases h2 with h2 | ⟨dd, fs, h2, h3⟩
  · exact ⟨ox, none, ⟨e1, e2, by unfold PySem.W.notCls; rw [e4] <;> rfl, by rw [e3, h2]; trivial⟩, fun dd q => by rw [h2] at q; cases q⟩
  · have q : ObjOk X.prog X.w H s.heap dd (.xd fs) := I.hok dd _ h3
    obtain ⟨mA, hns, _⟩ := q
    obtain ⟨oD, ho, _⟩ := lookIn_ns hns
    exact ⟨ox, some oD, ⟨e1, e2, by unfold PySem.W.notCls; rw [e4] <;> rfl, by rw [e3, h2]; exact ho⟩, fun d' q => by rw [h2] at q; cases q; exact ⟨oD, rfl, ho⟩⟩
end
def rIsX (K : PySem.W.Frag) : List V → Hp → VK → Prop := fun xs H Q => ∃ (p C : Addr) (od : Option Addr) (c : V) (u : Value) (b : Bool), xs = [.ref p, c] ∧ XAt H p C od ∧ ClsV c u ∧ ExcC K C ∧ PySem.W.kitOne K (.ref C) u = some b ∧ Q (.bl b) H
def rIsXT (K : PySem.W.Frag) : List V → Hp → VK → Prop := fun xs H Q => ∃ (p C : Addr) (od : Option Addr) (tp : Addr) (cs : List V) (us : List Value) (b : Bool), xs = [.ref p, .ref tp] ∧ XAt H p C od ∧ H tp = some (.tup cs) ∧ Paired ClsV cs us ∧ ExcC K C ∧ PySem.W.kitAny K (.ref C) us = some b ∧ Q (.bl b) H
section
variable {X : Cx}
theorem cr_isX : CallR X (.builtin "isinstance") (rIsX X.K) := by
  intro pins s σ H xs us Q I r h
  obtain ⟨p, C, od, c, u, b, rfl, hx, k, hC, e, q⟩ := h
  obtain ⟨u1, u2, rfl, r1, r2⟩ := vals2 r
  cases (show u1 = Value.ref p from r1)
  have e2 := k.eq r2
  subst e2
  obtain ⟨ox, ob, J, _⟩ := xat_inst I hx
  exact PySem.W.kia_one (PySem.W.nk_kitx hC) I.kIn J e (fun z => nomatch z) fun tk => ⟨.bl b, H, I.tok tk, rfl, q⟩
theorem cr_isXT : CallR X (.builtin "isinstance") (rIsXT X.K) := by
  intro pins s σ H xs us Q I r h
  obtain ⟨p, C, od, tp, cs, ws, b, rfl, hx, hT, k, hC, e, q⟩ := h
  obtain ⟨u1, u2, rfl, r1, r2⟩ := vals2 r
  cases (show u1 = Value.ref p from r1)
  cases (show u2 = Value.ref tp from r2)
  obtain ⟨ox, ob, J, _⟩ := xat_inst I hx
  obtain ⟨_, its, rv, o, h1, h2, n, h3⟩ := (show ObjOk X.prog X.w H s.heap tp (.tup cs) from I.hok tp _ hT)
  have e3 := ClsV.all k rv
  subst e3
  obtain ⟨oc, od, dt, sl⟩ := o
  simp only at h2 h3
  subst h2 h3
  exact PySem.W.kia_tup (PySem.W.nk_kitx hC) I.kIn J h1 e (fun z => nomatch z) fun tk => ⟨.bl b, H, I.tok tk, rfl, q⟩
def tXF (K : PySem.W.Frag) (n : Str) (te : TE) : TE := fun σ H Q => te σ H fun x H1 => ∃ (p C dd : Addr) (fs : List (Str × V)) (v : V), x = .ref p ∧ H1 p = some (ExV p C (some dd)) ∧ H1 dd = some (.xd fs) ∧ XfC K C ∧ PySem.W.findIn K (.ref C) n = some none ∧ fs.lookup n = some v ∧ Q v H1
theorem pe_fldX {e : Expr} {n : Str} {te : TE} {pos : Pos} (he : PE X e te) (hb : attributeBase e n X.env (eval e X.env) = eval e X.env) : PE X (.Attribute e n pos) (tXF X.K n te) := by
  refine ⟨fun pins s σ H Q I h => ?_⟩
  refine attr_of hb (thn (he.run pins s σ H _ I h) fun u s1 hh => ?_)
  obtain ⟨x, H1, I1, rx, p, C, dd, fs, v, rfl, h1, h2, T, hno, l, q⟩ := hh
  obtain rfl : u = Value.ref p := rx
  obtain ⟨ox, ob, J, hd⟩ := xat_inst I1 ⟨h1, .inr ⟨dd, fs, rfl, h2⟩⟩
  obtain ⟨oD, rfl, ho⟩ := hd dd rfl
  have hx : ObjOk X.prog X.w H1 s1.heap dd (.xd fs) := I1.hok dd _ h2
  obtain ⟨mA, hns, hr⟩ := hx
  obtain ⟨od', ho', hl⟩ := lookIn_ns hns
  rw [ho] at ho'
  cases ho'
  obtain ⟨u, hu, ru⟩ := RelO.some_of (v := v) (o := mA n) (by rw [← l]; exact hr n)
  exact HandSPX.exc_get I1.kIn J T.ga T.gg T.exC (PySem.W.findObj_own T.hdC hno rfl (by rw [hl, hu])) (handed_of ru) ⟨v, H1, I1.tok _, ru, q⟩
end
end NK
namespace NK
open PySem PySem.Spec PyProof.Rows L2
section
variable {X : Cx} {cs : Nat → Option Addr} {e : Expr} {f : Env → Sto → Option (Val × Sto)} {pos pos2 : Pos}
theorem xat_of {K : PySem.W.Frag} {F H : Hp} (hf : ∀ a o, F a = some o → H a = some o) {w : W} {xs : List W} {ds : List D} {u : V} (q : Den K F (.exc w xs ds) u) : XcK K w xs ∧ ∃ p od, u = .ref p ∧ XAt H p (He.ga K (S w)) od := by
  obtain ⟨x, p, od, us, rfl, a, b, c⟩ := Den.exc_iff.mp q
  refine ⟨x, p, od, rfl, hf _ _ a, ?_⟩
  cases xs with
  | nil => exact .inl b.1
  | cons y ys =>
    obtain ⟨dd, fs, e1, e2, _⟩ := b
    exact .inr ⟨dd, fs, e1, hf _ _ e2⟩
theorem flds_look {fs : List (Str × V)} : ∀ {xs : List W} {us : List V} {ds : List D} {x : W} {d : D} {K : PySem.W.Frag} {F : Hp}, Flds fs xs us → Dens K F ds us → lookX xs ds x = some d → x ∈ xs ∧ ∃ u, fs.lookup (S x) = some u ∧ Den K F d u
  | [], us, ds, x, d, K, F, h, q, e => by simp [lookX] at e
  | y :: xs, us, [], x, d, K, F, h, q, e => by simp [lookX] at e
  | y :: xs, us, d0 :: ds, x, d, K, F, h, q, e => by
    obtain ⟨u, us', rfl, h1, h2⟩ := h
    obtain ⟨u2, us2, e2, q1, q2⟩ := Dens.cons.mp q
    cases e2
    simp only [lookX] at e
    split at e
    · rename_i hy
      subst hy
      cases e
      exact ⟨List.mem_cons_self, u, h1, q1⟩
    · obtain ⟨a, b⟩ := flds_look h2 q2 e
      exact ⟨List.mem_cons_of_mem _ a, b⟩
def fFldX (x : W) (f : Env → Sto → Option (Val × Sto)) : Env → Sto → Option (Val × Sto) := fun env st => (f env st).bind fun r => (fldV x r.1).map fun d => (.dat d, r.2)
theorem s_fldx {x : W} (he : PE X e (tE X.K cs f)) (hb : attributeBase e (S x) X.env (eval e X.env) = eval e X.env) : PE X (.Attribute e (S x) pos) (tE X.K cs (fFldX x f)) := (pe_fldX he hb).weak fun σ H Q ⟨F, B, as, env, st, v, st', r, ev, k⟩ => by
  obtain ⟨⟨v0, s0⟩, e0, ev1⟩ := obnd ev
  obtain ⟨d, hd, ev2⟩ := omap ev1
  cases ev2
  refine ⟨F, B, as, env, st, v0, s0, r, e0, fun F1 as1 H1 u r1 x1 v1 => ?_⟩
  unfold fldV at hd
  split at hd
  case h_2 => cases hd
  rename_i w xs ds hv
  dsimp only at hv
  subst hv
  have q : Den X.K F1 (.exc w xs ds) u := v1
  obtain ⟨xk, p, od, us, rfl, a, b, c⟩ := Den.exc_iff.mp q
  cases xs with
  | nil => simp [lookX] at hd
  | cons y ys =>
    obtain ⟨dd, fs, rfl, e2, e3⟩ := b
    obtain ⟨g1, u, g2, g3⟩ := flds_look e3 c hd
    exact ⟨p, _, dd, fs, u, rfl, r1.fh _ _ a, r1.fh _ _ e2, xk.xf, xk.no x g1, g2, k F1 as1 H1 u r1 x1 g3⟩
def fIsX (ts : List W) (f : Env → Sto → Option (Val × Sto)) : Env → Sto → Option (Val × Sto) := fun env st => (f env st).bind fun r => (isXV ts r.1).map fun d => (.dat d, r.2)
def clW (K : PySem.W.Frag) (t : W) : V := if t = wVal then .ty "ValueError" else .ref (He.ga K (S t))
theorem clW_ok (K : PySem.W.Frag) (t : W) : ClsV (clW K t) (clV K t) := by
  unfold clW clV
  split
  · exact .ty _
  · exact .own _
theorem clWs_ok (K : PySem.W.Frag) : ∀ ts : List W, Paired ClsV (ts.map (clW K)) (ts.map (clV K))
  | [] => .nil
  | t :: ts => .cons (clW_ok K t) (clWs_ok K ts)
theorem kit_any {K : PySem.W.Frag} {w : W} {xs : List W} (x : XcK K w xs) : ∀ {ts : List W}, (∀ t ∈ ts, XTy K t) → PySem.W.kitAny K (.ref (He.ga K (S w))) (ts.map (clV K)) = some (ts.any (subX w))
  | [], _ => rfl
  | t :: ts, h => by
    have h1 := x.si t (h t List.mem_cons_self)
    have h2 := kit_any x (ts := ts) fun t ht => h t (List.mem_cons_of_mem _ ht)
    rw [List.map_cons, List.any_cons]
    refine kitAny_cons h1 (fun e => ?_) (fun e => ?_)
    · rw [h2, e]; rfl
    · rw [e]; rfl
theorem s_isx {p : Pos} {t : W} {xt : Expr} (hg : Gl X "isinstance") (hm : X.mg "isinstance" = none) (he : PE X e (tE X.K cs f)) (hs : nStar e = true) (ht : XTy X.K t) (hs2 : nStar xt = true) (hT : PE X xt (tC (clW X.K t))) :
    PE X (.Call (.Name "isinstance" p) [e, xt] [] pos) (tE X.K cs (fIsX [t] f)) := (pe_callB (id := "isinstance") cr_isX hg hm (by decide +kernel) (pa_cons he (pa_cons hT pa_nil (noStar hs2)) (noStar hs)) (by decide) (by decide) (noStar hs) (by rw [noStar hs2]; rfl)).weak fun σ H Q ⟨F, B, as, env, st, v, st', r, ev, k⟩ => by
  obtain ⟨⟨v0, s0⟩, e0, ev1⟩ := obnd ev
  obtain ⟨d, hd, ev2⟩ := omap ev1
  cases ev2
  refine ⟨F, B, as, env, st, v0, s0, r, e0, fun F1 as1 H1 u r1 x1 v1 => ?_⟩
  unfold isXV at hd
  split at hd
  case h_2 => cases hd
  rename_i w xs ds hv
  dsimp only at hv
  subst hv
  cases hd
  obtain ⟨xk, q, od, rfl, h1⟩ := xat_of r1.fh (show Den X.K F1 (.exc w xs ds) u from v1)
  refine ⟨q, _, od, _, _, subX w t, rfl, h1, clW_ok X.K t, xk.cc, xk.si t ht, ?_⟩
  have := k F1 as1 H1 (.bl (subX w t)) r1 x1 (by simpa using vbl)
  exact this
theorem s_isxT {p : Pos} {ts : List W} {xs : List Expr} {n : Nat} (hl : ts.length ≤ 100) (hg : Gl X "isinstance") (hm : X.mg "isinstance" = none) (he : PE X e (tE X.K cs f)) (hs : nStar e = true) (ht : ∀ t ∈ ts, XTy X.K t)
    (hT : PA X xs (fun σ H Q => Q (ts.map (clW X.K)) H)) :
    PE X (.Call (.Name "isinstance" p) [e, .Tuple xs n pos2] [] pos) (tE X.K cs (fIsX ts f)) := (pe_callB (id := "isinstance") cr_isXT hg hm (by decide +kernel) (pa_cons he (pa_cons (pe_tup hT) pa_nil (noStar rfl)) (noStar hs)) (by decide) (by decide) (noStar hs) (by rw [noStar rfl]; rfl)).weak fun σ H Q ⟨F, B, as, env, st, v, st', r, ev, k⟩ => by
  obtain ⟨⟨v0, s0⟩, e0, ev1⟩ := obnd ev
  obtain ⟨d, hd, ev2⟩ := omap ev1
  cases ev2
  refine ⟨F, B, as, env, st, v0, s0, r, e0, fun F1 as1 H1 u r1 x1 v1 => ?_⟩
  unfold isXV at hd
  split at hd
  case h_2 => cases hd
  rename_i w xs ds hv
  dsimp only at hv
  subst hv
  cases hd
  refine ⟨by rw [List.length_map, sizeLine_eq]; omega, fun q hq => ?_⟩
  obtain ⟨xk, p, od, rfl, h1⟩ := xat_of r1.fh (show Den X.K F1 (.exc w xs ds) u from v1)
  have qn : ∀ {a : Addr} {o : HO}, H1 a = some o → upd H1 q (HO.tup (ts.map (clW X.K))) a = some o := fun {a o} h => by rw [upd_ne (by intro z; rw [z, hq] at h; cases h)]; exact h
  refine ⟨p, _, od, q, _, _, ts.any (subX w), rfl, ⟨qn h1.1, ?_⟩, upd_same, clWs_ok X.K ts, xk.cc, kit_any xk ht, ?_⟩
  · rcases h1.2 with h | ⟨dd, fs, h, h2⟩
    · exact .inl h
    · exact .inr ⟨dd, fs, h, qn h2⟩
  · have pF : F1 q = none := by
      cases z : F1 q with
      | none => rfl
      | some y => rw [r1.fh _ _ z] at hq; cases hq
    have pB : B q = none := by
      cases z : B q with
      | none => rfl
      | some y => rw [r1.bh _ _ z] at hq; cases hq
    have pas : q ∉ as1 := fun h => r1.toRSt.there q h hq
    exact k _ _ _ _ (r1.slots (Ext.lay hq pas r1.toRSt.there) (r1.toRSt.over pF pB pas)) (x1.trans (Ext.lay hq pas r1.toRSt.there)) vbl
end
end NK
namespace L2
open PySem PySem.Spec PyProof.Rows
section
variable {X : Cx} {pins : List (Addr × Obj)} {σ : St} {H : Hp} {s : Shared}
theorem Inv.landedT {sI s' : Shared} {B : Heap} {a : Addr} {o : HO} (I : Inv X pins σ H sI) (nb : ∀ b o, sI.heap.get? b = some o → b ∉ frs X.stack → B.get? b = some o) (st : B.StaysIn s'.heap) (up : sI.heap.UpToSlots s'.heap) (os : s'.os = sI.os) (ag : AllBare s'.gens)
    (ha : sI.heap.get? a = none) (na : H a = none) (new : ObjOk X.prog X.w (upd H a o) s'.heap a o) : Inv X pins σ (upd H a o) s' := by
  have nf : ∀ b ∈ frs X.stack, ∀ o, sI.heap.get? b = some o → ∃ sl, s'.heap.get? b = some { o with slots := sl } := fun b hb o e => by
    obtain ⟨_, o', e', hd⟩ := I.stack.mem hb
    rw [e] at e'; cases e'
    exact up b o e hd
  have ne : ∀ {b : Addr} {o : Obj}, sI.heap.get? b = some o → b ≠ a := fun {b o} z e => by rw [e, ha] at z; cases z
  have J := I.call (ch := []) (h' := s'.heap) (g' := s'.gens) (t' := s'.toks) (d' := s'.drawn) (H' := upd H a o)
    ⟨fun b o e _ hb _ => st b o (nb b o e hb), fun b o e _ hb _ => nf b hb o e, fun b _ z n _ => by rw [upd_ne (ne z)]; exact n, fun b o e _ => by
      by_cases hb : b ∈ frs X.stack
      · obtain ⟨sl, q⟩ := nf b hb o e
        exact ⟨_, q⟩
      · exact ⟨o, st b o (nb b o e hb)⟩, fun _ _ e => by rw [upd_ne (ne_of_none e na)]; exact e, fun _ _ _ e => by rw [upd_ne (ne_of_none e na)]; exact e, fun b ps e => ⟨#[], by rw [upd_ne (ne_of_none e na), e]; simp⟩⟩
    (HOk.laidN ((I.inGround nb).kept st) (fun _ _ q => q) na new) ag (fun _ z => nomatch z)
  obtain ⟨a1, a2, a3, a4, a5⟩ := s'
  have e5 : a5 = sI.os := os
  subst e5
  exact J
end
end L2
namespace NK
open PySem PySem.Spec PyProof.Rows L2
def fsOf : List W → List V → List (Str × V) → List (Str × V)
  | x :: xs, u :: us, fs => fsOf xs us ((S x, u) :: fs)
  | _, _, fs => fs
theorem fsOf_not : ∀ {xs : List W} {us : List V} {fs : List (Str × V)} {x : W}, x ∉ xs → (fsOf xs us fs).lookup (S x) = fs.lookup (S x)
  | [], us, fs, x, _ => by simp [fsOf]
  | y :: xs, [], fs, x, _ => by simp [fsOf]
  | y :: xs, u :: us, fs, x, h => by
    obtain ⟨h1, h2⟩ := not_or.mp (fun z => h (List.mem_cons.mpr z))
    simp only [fsOf]
    rw [fsOf_not h2, List.lookup_cons]
    have e : (S x == S y) = false := by
      rw [beq_eq_false_iff_ne]
      exact fun z => h1 (S_inj z)
    rw [e]
theorem flds_of : ∀ {xs : List W} {us : List V} {fs : List (Str × V)}, xs.Nodup → us.length = xs.length → Flds (fsOf xs us fs) xs us
  | [], [], fs, _, _ => rfl
  | [], u :: us, fs, _, h => by simp at h
  | x :: xs, [], fs, _, h => by simp at h
  | x :: xs, u :: us, fs, nd, h => by
    obtain ⟨n1, n2⟩ := List.nodup_cons.mp nd
    refine ⟨u, us, rfl, ?_, flds_of n2 (by simpa using h)⟩
    simp only [fsOf]
    rw [fsOf_not n1, List.lookup_cons]
    simp
def spI (C : Addr) (xs : List W) : Sp := fun vs H Q _ => ∃ a us, vs = .ref a :: us ∧ us.length = xs.length ∧ H a = some (exo a C none) ∧
  ∀ d, H d = none → ∀ H', H' a = some (exo a C (some d)) → H' d = some (exd d (fsOf xs us [])) → (∀ b, b ≠ a → b ≠ d → H' b = H b) → Q .non H'
structure XMk (X : Cx) (w : W) (xs : List W) : Prop where
  oc : OexC X.K (He.ga X.K (S w))
  nd : xs.Nodup
  ini : ∃ (fI : Addr) (fd : FuncData) (ps : List Str), PySem.W.findIn X.K (.ref (He.ga X.K (S w))) "__init__" = some (some (.ref fI)) ∧ PySem.W.typeIn X.K (.ref fI) = some (.type "function") ∧ FnOk X.prog X.w X.K X.mg X.base CX0 20 fI fd ps (spI (He.ga X.K (S w)) xs) ∧ Binds X.K fd ps []
section
variable {X : Cx} {cs : Nat → Option Addr} {pos pos2 : Pos} {g : Env → Sto → Option (List Val × Sto)}
def XObj (K : PySem.W.Frag) (F : Hp) (d : D) (cls : Value) (od : Option Addr) : Prop := match d with
  | .exc w xs ds => XcK K w xs ∧ cls = .ref (He.ga K (S w)) ∧ ∃ us, XDict F od xs us ∧ Dens K F ds us
  | _ => False
def tXm (K : PySem.W.Frag) (cs : Nat → Option Addr) (w : W) (xs : List W) (g : Env → Sto → Option (List Val × Sto)) : L2.St → Hp → XK → Prop := fun σ H Q => ∃ F B as env st vs s1 q, Rel K cs F B as env st σ H ∧ g env st = some (vs, s1) ∧ toDs vs s1 = some q ∧ q.1.length = xs.length ∧
  ∀ F' as' H' cls od, Rel K cs F' B as' env q.2 σ H' → Ext F as H F' as' H' → XObj K F' (.exc w xs q.1) cls od → Q cls od H'
theorem pmk_x {w : W} {x0 : W} {xs : List W} {z : Expr} {zs : List Expr} {p : Pos} (hx : XcK X.K w (x0 :: xs)) (m : XMk X w (x0 :: xs)) (hg : Gl X (S w)) (hm : X.mg (S w) = some (.ref (He.ga X.K (S w)))) (hr : Room 40 X.A) (ha : PA X (z :: zs) (tEs X.K cs g)) (hl : (x0 :: xs).length ≤ 100)
    (hdb : (S w == ("__debug__" : Str)) = false) (he : starEach (z :: zs) X.env = (false, eval z X.env) :: starEach zs X.env) (hpl : (backTo pos (starEach zs X.env)).any (·.1) = false) :
    PMk X (.Call (.Name (S w) p) (z :: zs) [] pos) (tXm X.K cs w (x0 :: xs) g) := by
  obtain ⟨oc, nd, fI, fd, ps, i1, i2, i3, i4⟩ := m
  have h := pmk_oex (pos := pos) (p := p) (ds := []) (dvs := []) oc i1 i2 i3 (X := X) (hr.mono (by omega)) i4 .nil (fun _ _ _ _ _ _ _ z => z.elim) hg hm ha hdb he hpl
  intro pins s σ H Q I q
  refine h pins s σ H Q I ?_
  obtain ⟨F, B, as, env, st, vs, s1, q0, r, e1, e2, hlen, k⟩ := q
  refine ⟨F, B, as, env, st, vs, s1, r, e1, fun F1 as1 H1 us r1 x1 v1 => ?_⟩
  have lus : us.length = (x0 :: xs).length := by
    obtain ⟨F2, r2, x2, q2⟩ := toDs_ok r1 e2 v1
    rw [q2.length, hlen]
  refine ⟨by rw [lus]; omega, fun a ha => ?_⟩
  refine ⟨a, us, by rw [List.append_nil], lus, upd_same, fun d hd H' g1 g2 g3 => ?_⟩
  have da : d ≠ a := fun e => by rw [e, upd_same] at hd; cases hd
  rw [upd_ne da] at hd
  refine ⟨rfl, d, _, g1, g2, hd, ?_⟩
  have eH : upd (del H' a) d (.xd (fsOf (x0 :: xs) us [])) = upd H1 d (.xd (fsOf (x0 :: xs) us [])) := by
    funext b
    by_cases hb : b = d
    · rw [hb, upd_same, upd_same]
    · rw [upd_ne hb, upd_ne hb]
      by_cases hb2 : b = a
      · rw [hb2, del_same, ha]
      · rw [del_ne hb2, g3 b hb2 hb, upd_ne hb2]
  rw [eH]
  obtain ⟨F2, r2, x2, q2⟩ := toDs_ok r1 e2 v1
  obtain ⟨r3, x3⟩ := r2.frozen (o := .xd (fsOf (x0 :: xs) us [])) hd
  refine k _ as1 _ _ _ r3 ((x1.trans x2).trans x3) ⟨hx, rfl, us, ⟨d, _, rfl, upd_same, flds_of nd lus⟩, Dens.mono x3.ff _ _ q2⟩
end
theorem pe_mkv {X : Cx} {e : Expr} {t : L2.St → Hp → XK → Prop} (h : PMk X e t) : PE X e (fun σ H Q => t σ H fun cls d H' => ∃ C, cls = .ref C ∧ ∀ a, H' a = none → Q (.ref a) (upd H' a (ExV a C d))) := by
  refine ⟨fun pins s σ H Q I q => wpAny_mono (h pins s σ H _ I q) (fun u s1 hu => ?_) fun _ _ z => z⟩
  obtain ⟨a, oe, vs, sI, H', cls, d, rfl, J, k, hne, ha, hz, hd, h1, na, os, ag, r, C, rfl, q1⟩ := hu
  refine ⟨.ref a, upd H' a (ExV a C d), J.landedT (o := ExV a C d) (B := sI.heap) (fun b o e _ => e) k (fun b o e _ => ⟨o.slots, k b o e⟩) os ag hne na ⟨⟨oe, vs, ha, hz.1, hz.2, hd⟩, ⟨oe, ha⟩, fun _ _ ⟨o, v, q, r⟩ k => ⟨o, v, k o q, r⟩⟩, rfl, q1 a na⟩
structure XNk (K : PySem.W.Frag) (C : Addr) : Prop where
  q : PySem.W.excIn K C veBm "ValueError.__new__" = true
  kC : PySem.W.keepIn K (.ref C) = true
  exC : PySem.W.subIn K (.ref C) (.type "BaseException") = some true
  tyC : PySem.W.typeIn K (.ref C) = some (.type "type")
def fMkx (w : W) (xs : List W) (g : Env → Sto → Option (List Val × Sto)) : Env → Sto → Option (Val × Sto) := fun env st => (g env st).bind fun r => (toDs r.1 r.2).bind fun q => if q.1.length = xs.length then some (.dat (.exc w xs q.1), q.2) else if xs.isEmpty && decide (q.1.length ≤ 100) then some (.dat (.exc w [] []), q.2) else none
section
variable {X : Cx} {cs : Nat → Option Addr} {pos pos2 : Pos} {g : Env → Sto → Option (List Val × Sto)}
theorem s_mkx {w x0 : W} {xs : List W} {z : Expr} {zs : List Expr} {p : Pos} (hx : XcK X.K w (x0 :: xs)) (m : XMk X w (x0 :: xs)) (hg : Gl X (S w)) (hm : X.mg (S w) = some (.ref (He.ga X.K (S w)))) (hr : Room 40 X.A) (ha : PA X (z :: zs) (tEs X.K cs g)) (hl : (x0 :: xs).length ≤ 100)
    (hdb : (S w == ("__debug__" : Str)) = false) (he : starEach (z :: zs) X.env = (false, eval z X.env) :: starEach zs X.env) (hpl : (backTo pos (starEach zs X.env)).any (·.1) = false) :
    PE X (.Call (.Name (S w) p) (z :: zs) [] pos) (tE X.K cs (fMkx w (x0 :: xs) g)) :=
  (pe_mkv (pmk_x hx m hg hm hr ha hl hdb he hpl)).weak fun σ H Q ⟨F, B, as, env, st, v, st', r, ev, k⟩ => by
  obtain ⟨⟨vs, s1⟩, e1, ev1⟩ := obnd ev
  obtain ⟨q, e2, ev2⟩ := obnd ev1
  split at ev2
  · rename_i hlen
    cases ev2
    refine ⟨F, B, as, env, st, vs, s1, q, r, e1, e2, hlen, fun F' as' H' cls od r' x' qx => ?_⟩
    obtain ⟨xk, rfl, us, d1, d2⟩ := qx
    refine ⟨_, rfl, fun a ha => ?_⟩
    obtain ⟨r3, x3⟩ := r'.frozen (o := ExV a (He.ga X.K (S w)) od) ha
    exact k _ _ _ _ r3 (x'.trans x3) ((Den.exc_iff (K := X.K)).mpr ⟨xk, a, od, us, rfl, upd_same, d1.mono x3.ff, Dens.mono x3.ff _ _ d2⟩)
  · simp at ev2
theorem s_mkx0 {w : W} {z : Expr} {zs : List Expr} {p : Pos} (hx : XcK X.K w []) (m : XNk X.K (He.ga X.K (S w))) (hg : Gl X (S w)) (hm : X.mg (S w) = some (.ref (He.ga X.K (S w)))) (ha : PA X (z :: zs) (tEs X.K cs g))
    (hdb : (S w == ("__debug__" : Str)) = false) (he : starEach (z :: zs) X.env = (false, eval z X.env) :: starEach zs X.env) (hpl : (backTo pos (starEach zs X.env)).any (·.1) = false) :
    PE X (.Call (.Name (S w) p) (z :: zs) [] pos) (tE X.K cs (fMkx w [] g)) :=
  (pe_mkv (pmk_ownA PySem.F.excBase_ValueError m.q hm m.kC (raises_own m.exC m.tyC) hg ha hdb he hpl)).weak fun σ H Q ⟨F, B, as, env, st, v, st', r, ev, k⟩ => by
  obtain ⟨⟨vs, s1⟩, e1, ev1⟩ := obnd ev
  obtain ⟨q, e2, ev2⟩ := obnd ev1
  have hq : q.1.length ≤ 100 ∧ (Val.dat (.exc w [] []), q.2) = (v, st') := by
    split at ev2
    · rename_i hlen
      cases ev2
      have : q.1 = [] := List.eq_nil_of_length_eq_zero hlen
      rw [this]
      exact ⟨by simp, rfl⟩
    · split at ev2
      · rename_i hlen
        simp only [List.isEmpty_nil, Bool.true_and, decide_eq_true_eq] at hlen
        cases ev2
        exact ⟨hlen, rfl⟩
      · cases ev2
  obtain ⟨hlen, hv⟩ := hq
  cases hv
  refine ⟨F, B, as, env, st, vs, s1, r, e1, fun F1 as1 H1 us r1 x1 v1 => ?_⟩
  obtain ⟨F2, r2, x2, q2⟩ := toDs_ok r1 e2 v1
  refine ⟨by rw [q2.length, sizeLine_eq]; omega, _, rfl, fun a ha => ?_⟩
  obtain ⟨r3, x3⟩ := r2.frozen (o := ExV a (He.ga X.K (S w)) none) ha
  exact k _ _ _ _ r3 ((x1.trans x2).trans x3) ((Den.exc_iff (K := X.K)).mpr ⟨hx, a, none, [], rfl, upd_same, ⟨rfl, rfl⟩, Dens.nil.mpr rfl⟩)
end
def iniB (N : List Str) (nm : List (Str × NameKind)) : List W → Nat → List Stmt → Bool
  | [], _, [] => true
  | x :: xs, i, .Assign [.Attribute (.Name y _) f _] (.Name z _) _ :: r => decide (N[0]? = some y) && decide (N[i]? = some z) && decide (f = S x) && decide (nm.lookup y = some .local) && decide (nm.lookup z = some .local) &&
      decide ((y == ("__debug__" : Str)) = false) && decide ((y == ("__classdict__" : Str)) = false) && decide ((z == ("__debug__" : Str)) = false) && decide ((z == ("__classdict__" : Str)) = false) && iniB N nm xs (i + 1) r
  | _, _, _ => false
section
variable {X : Cx}
def tI2 (C : Addr) (xs : List W) (i : Nat) : TS := fun D σ H => ∃ (a : Addr) (us : List V) (d : Addr) (fs : List (Str × V)), σ[0]? = some (some (.ref a)) ∧ (∀ j u, us[j]? = some u → σ[i + j]? = some (some u)) ∧ us.length = xs.length ∧
  d ≠ a ∧ H a = some (exo a C (some d)) ∧ H d = some (exd d fs) ∧ fs.length + xs.length ≤ 900 ∧ ∀ H', H' a = some (exo a C (some d)) → H' d = some (exd d (fsOf xs us fs)) → (∀ b, b ≠ a → b ≠ d → H' b = H b) → D.nx σ H'
theorem ini2 {C : Addr} (T : OexC X.K C) : ∀ {xs : List W} {i : Nat} {body : List Stmt}, (∀ x ∈ xs, PySem.W.findIn X.K (.ref C) (S x) = some none) → iniB X.N X.env.scope.names xs i body = true → PSs X body (tI2 C xs i)
  | [], i, body, hno, h => by
    cases body with
    | nil =>
      refine pss_nil.weak fun D σ H q => ?_
      obtain ⟨a, us, d, fs, e1, e2, e3, e4, e5, e6, e7, k⟩ := q
      cases us with
      | nil => exact k H e5 e6 fun _ _ _ => rfl
      | cons _ _ => cases e3
    | cons _ _ => simp [iniB] at h
  | x :: xs, i, [], hno, h => by simp [iniB] at h
  | x :: xs, i, st :: r, hno, h => by
    unfold iniB at h
    split at h
    case h_1 => rename_i e; cases e
    case h_3 => cases h
    rename_i i1 l1' n1' x' xs' i' y py f pf z pz ps r' ex er
    cases ex
    cases er
    simp only [Bool.and_eq_true, decide_eq_true_eq] at h
    obtain ⟨⟨⟨⟨⟨⟨⟨⟨⟨h1, h2⟩, h3⟩, h4⟩, h5⟩, h6⟩, h7⟩, h8⟩, h9⟩, h10⟩ := h
    subst h3
    have p1 : PE X (.Name y py) (tVar 0) := pe_var h1 (.inl h4) h6 h7
    have p2 : PE X (.Name z pz) (tVar i1) := pe_var h2 (.inl h5) h8 h9
    refine (pss_cons (ps_ost p1 p2) (ini2 T (fun x hx => hno x (List.mem_cons_of_mem _ hx)) h10)).weak fun D σ H ⟨a, us, d, fs, e1, e2, e3, e4, e5, e6, e7, k⟩ => ?_
    cases us with
    | nil => cases e3
    | cons u us =>
      have l1 : σ[i1]? = some (some u) := by simpa using e2 0 u rfl
      refine ⟨u, l1, _, e1, a, C, rfl, T, hno x List.mem_cons_self, .inr ⟨d, fs, e5, e6, by simp at e7; omega, ?_⟩⟩
      refine ⟨a, us, d, (S x, u) :: fs, e1, fun j v hj => by have := e2 (j + 1) v (by simpa using hj); rw [show i1 + 1 + j = i1 + (j + 1) by omega]; exact this, by simpa using e3, e4, ?_, upd_same, by simp at e7 ⊢; omega, fun H' g1 g2 g3 => k H' g1 (by simpa only [fsOf] using g2) fun b hb hd => ?_⟩
      · rw [upd_ne (Ne.symm e4)]; exact e5
      · rw [g3 b hb hd, upd_ne hd]
def tI1 (C : Addr) (xs : List W) : TS := fun D σ H => ∃ (a : Addr) (us : List V), σ[0]? = some (some (.ref a)) ∧ (∀ j u, us[j]? = some u → σ[1 + j]? = some (some u)) ∧ us.length = xs.length ∧ H a = some (exo a C none) ∧
  ∀ d, H d = none → ∀ H', H' a = some (exo a C (some d)) → H' d = some (exd d (fsOf xs us [])) → (∀ b, b ≠ a → b ≠ d → H' b = H b) → D.nx σ H'
theorem ini1 {C : Addr} (T : OexC X.K C) {x : W} {xs : List W} {body : List Stmt} (hno : ∀ y ∈ x :: xs, PySem.W.findIn X.K (.ref C) (S y) = some none) (h : iniB X.N X.env.scope.names (x :: xs) 1 body = true) (hl : xs.length ≤ 100) : PSs X body (tI1 C (x :: xs)) := by
  unfold iniB at h
  split at h
  case h_1 => rename_i e; cases e
  case h_3 => cases h
  rename_i x' xs' i' y py f pf z pz ps r' ex
  cases ex
  simp only [Bool.and_eq_true, decide_eq_true_eq] at h
  obtain ⟨⟨⟨⟨⟨⟨⟨⟨⟨h1, h2⟩, h3⟩, h4⟩, h5⟩, h6⟩, h7⟩, h8⟩, h9⟩, h10⟩ := h
  subst h3
  have p1 : PE X (.Name y py) (tVar 0) := pe_var h1 (.inl h4) h6 h7
  have p2 : PE X (.Name z pz) (tVar 1) := pe_var h2 (.inl h5) h8 h9
  refine (pss_cons (ps_ost p1 p2) (ini2 T (fun x hx => hno x (List.mem_cons_of_mem _ hx)) h10)).weak fun D σ H ⟨a, us, e1, e2, e3, e4, k⟩ => ?_
  cases us with
  | nil => cases e3
  | cons u us =>
    have l1 : σ[1]? = some (some u) := by simpa using e2 0 u rfl
    refine ⟨u, l1, _, e1, a, C, rfl, T, hno x List.mem_cons_self, .inl ⟨e4, fun d hd da => ?_⟩⟩
    refine ⟨a, us, d, [(S x, u)], e1, fun j v hj => by have := e2 (j + 1) v (by simpa using hj); rw [show 1 + 1 + j = 1 + (j + 1) by omega]; exact this, by simpa using e3, da, upd_same, ?_, by simp; omega, fun H' g1 g2 g3 => k d hd H' g1 (by simpa only [fsOf] using g2) fun b hb hd => ?_⟩
    · rw [upd_ne da]; exact upd_same
    · rw [g3 b hb hd, upd_ne hb, upd_ne hd]
theorem spI_len {C : Addr} {xs : List W} {vs : List V} {H : Hp} {Q : VK} {E : XK} (h : spI C xs vs H Q E) : vs.length = xs.length + 1 := by
  obtain ⟨a, us, rfl, h, _⟩ := h
  simp [h]
end
end NK
set_option Elab.async false
set_option linter.all false
set_option autoImplicit false
set_option maxRecDepth 100000
namespace NK
open PySem PySem.Spec PyProof.Rows L2
structure MC where
  N : List Str
  fs : List (Str × Nat × Nat)
  gs : List (Str × K1)
  fr : List Str
  cl : List CI
  xc : List (W × List W)
def atB (c : MC) (i : Nat) (x : W) : Bool := c.cl.any fun ci => ci.idx == i && ci.attrs.any fun y => decide (y = x)
def mkB (c : MC) (g : Nat) (y : Str) : Bool := c.cl.any fun ci => decide (ci.name = y) && (match ci.mkr with
  | some q => q.1 == g
  | none => false)
abbrev Nm := List (Str × NameKind)
def visB (nm : Nm) (x : Str) : Bool := match nm.lookup x with
  | some .local => true
  | some .cell => true
  | some .free => true
  | _ => false
def gloB (nm : Nm) (x : Str) : Bool := match nm.lookup x with
  | some .globalImplicit => true
  | _ => false
def locB (nm : Nm) (x : Str) : Bool := match nm.lookup x with
  | some .local => true
  | some .cell => true
  | _ => false
def plainN (x : Str) : Bool := decide ((x == ("__debug__" : Str)) = false) && decide ((x == ("__classdict__" : Str)) = false)
def gOk : D → K1 → Bool
  | .int i, .inl j => decide (i = j)
  | .str w, .inr v => decide (w = v)
  | _, _ => false
def relN (nm own : Nm) : Nm := own.map fun (n, k) => if (k == .free && nm.lookup n == some .cell) then (n, .cell) else (n, k)
def nSet : Expr → Bool
  | .Set _ _ _ => false
  | _ => true
def ownL (N : List Str) (own : List Nat) : List (Str × Nat) := own.filterMap fun i => (N[i]?).map fun x => (x, i)
def tgB (N : List Str) (nm : Nm) : List Nat → List Expr → Bool
  | [], [] => true
  | i :: is, .Name x _ :: xs => decide (N[i]? = some x) && locB nm x && tgB N nm is xs
  | _, _ => false
def tgtB (N : List Str) (nm : Nm) (tg : List Nat) (tup : Bool) (x : Expr) : Bool := match tup, tg, x with
  | false, [i], .Name y _ => decide (N[i]? = some y) && locB nm y
  | true, is, .Tuple xs _ _ => tgB N nm is xs
  | _, _, _ => false
def tupI : I → Bool
  | .enum _ => true | .zip _ _ => true
  | _ => false
def isTupE : Expr → Bool
  | .Tuple _ _ _ => true
  | _ => false
def isMaxD (b : Bi) (es : List E) (zs : List Expr) : Bool := match b, es, zs with
  | .maxD, [_, _], [] => true
  | _, _, _ => false
def argsE : Expr → List Expr
  | .Call (.Name _ _) xs [] _ => xs
  | _ => []
def isSset (c : MC) (b : Bi) (nm : Nm) (z : Expr) (zs : List Expr) : Bool := match b, z, zs with
  | .sset, .Call (.Name y _) [_] [] _, [] => decide (y = "set") && gloB nm y && (c.fr.any fun p => decide (p = y))
  | _, _, _ => false
def nameB (c : MC) (nm : Nm) (t : W) : Expr → Bool
  | .Name z _ => decide (z = S t) && gloB nm z && plainN z && xNames.contains t && (if t = wVal then c.fr.any fun p => decide (p = z) else c.xc.any fun p => decide (p.1 = t))
  | _ => false
def clsNB (c : MC) (nm : Nm) : List W → List Expr → Bool
  | [], [] => true
  | t :: ts, x :: xs => nameB c nm t x && clsNB c nm ts xs
  | _, _ => false
def tysB (c : MC) (nm : Nm) (ts : List W) (tup : Bool) (x : Expr) : Bool := match tup, ts, x with
  | false, [t], x => nameB c nm t x
  | true, ts, .Tuple xs _ _ => clsNB c nm ts xs && decide (ts.length ≤ 100) && decide (1 ≤ ts.length)
  | _, _, _ => false
mutual
def mE (c : MC) : E → Bool → Nm → Expr → Bool
  | .int i, _, _, x => match x with
    | .Constant (.int j) _ _ => decide (i = j)
    | _ => false
  | .bl b, _, _, x => match x with
    | .Constant (.bool j) _ _ => b == j
    | _ => false
  | .non, _, _, x => match x with
    | .Constant .none _ _ => true
    | _ => false
  | .str w, _, _, x => match x with
    | .Constant (.str s) _ _ => decide (s = S w)
    | _ => false
  | .var i, _, nm, x => match x with
    | .Name y _ => decide (c.N[i]? = some y) && visB nm y && plainN y
    | _ => false
  | .gl w d, _, nm, x => match x with
    | .Name y _ => gloB nm y && plainN y && c.gs.any fun p => decide (p.1 = y) && gOk d p.2
    | _ => false
  | .tup es, _, nm, x => match x with
    | .Tuple xs _ _ => mEs c es nm xs && decide (es.length ≤ 1000)
    | _ => false
  | .bin o a b, _, nm, x => match x with
    | .BinOp xa op xb _ => decide (op = opB o) && mE c a false nm xa && mE c b false nm xb
    | _ => false
  | .neg a, _, nm, x => match x with
    | .UnaryOp .USub xa _ => mE c a false nm xa
    | _ => false
  | .not a, t, nm, x => match x with
    | .UnaryOp .Not xa _ => mE c a t nm xa
    | _ => false
  | .and a b, t, nm, x => match x with
    | .BoolOp .And (xa :: xb :: r) p => mE c a t nm xa && mE c b t nm (match r with | [] => xb | _ => .BoolOp .And (xb :: r) p)
    | _ => false
  | .or a b, t, nm, x => match x with
    | .BoolOp .Or (xa :: xb :: r) p => mE c a t nm xa && mE c b t nm (match r with | [] => xb | _ => .BoolOp .Or (xb :: r) p)
    | _ => false
  | .cmp o a b, _, nm, x => match x with
    | .Compare xa [op] [xb] _ => decide (op = copB o) && mE c a false nm xa && mE c b false nm xb && !behindInMarks op xb
    | _ => false
  | .chain o o' a b e, _, nm, x => match x with
    | .Compare xa [p, q] [xb, xc] _ => decide (p = copB o) && decide (q = copB o') && mE c a false nm xa && mE c b false nm xb && mE c e false nm xc && !lastMarks [p, q] [xb, xc]
    | _ => false
  | .ite e a b, t, nm, x => match x with
    | .IfExp xe xa xb _ => !t && mE c e true nm xe && mE c a false nm xa && mE c b false nm xb
    | _ => false
  | .idx a i, _, nm, x => match x with
    | .Subscript xa xi _ => nSlice xi && mE c a false nm xa && mE c i false nm xi
    | _ => false
  | .slc a lo hi, _, nm, x => match x with
    | .Subscript xa (.Slice xl xh none _) _ => mE c a false nm xa && mP c lo nm xl && mP c hi nm xh
    | _ => false
  | .call f m es, _, nm, x => match x with
    | .Call (.Name y _) zs [] _ => gloB nm y && plainN y && (c.fs.any fun p => decide (p.1 = y) && p.2.1 == f) && mEs c es nm zs
    | _ => false
  | .callA f m es, _, nm, x => match x with
    | .Call (.Name y _) zs [] _ => gloB nm y && plainN y && (c.fs.any fun p => decide (p.1 = y) && p.2.1 == f) && mEs c es nm zs
    | _ => false
  | .bi b es, _, nm, x => match x with
    | .Call (.Name y _) (z :: zs) kws _ => decide (y = biN b) && gloB nm y && (c.fr.any fun p => decide (p = y)) && (match kws with
      | [] => (plainBi b && mEs c es nm (z :: zs)) || (isSset c b nm z zs && mEs c es nm (argsE z))
      | [⟨some a, k, _⟩] => decide (a = Str.ofString "default") && isMaxD b es zs && mEs c es nm [z, k]
      | _ => false)
    | _ => false
  | .mt m o es, _, nm, x => match x with
    | .Call (.Attribute xo y ap) xs [] p => decide (y = mtS m) && nSuper xo && (ap.endLine == p.line) && mE c o false nm xo && mEs c es nm xs && (match m, es with
      | .pop, [] => true | .clear, [] => true
      | .append, [_] => true | .popAt, [_] => true | .join, [_] => true | .update, [_] => true | .startswith, [_] => true | .split, [_] => true | .partition, [_] => true | .rpartition, [_] => true | .count, [_] => true | .index, [_] => true
      | .get, [_, _] => true | .pop2, [_, _] => true
      | _, _ => false)
    | _ => false
  | .isi a ts, _, nm, x => match x, ts with
    | .Call (.Name y _) [xa, .Name z _] [] _, [t] => decide (y = "isinstance") && decide (z = tyN t) && gloB nm y && gloB nm z && (c.fr.any fun p => decide (p = y)) && (c.fr.any fun p => decide (p = z)) && nStar xa && mE c a false nm xa
    | _, _ => false
  | .fz o, _, nm, x => mO c o nm x
  | .new o, _, nm, x => mO c o nm x
  | .tupV es, _, nm, x => match x with
    | .Tuple xs _ _ => mEs c es nm xs && decide (es.length ≤ 1000)
    | _ => false
  | .idxT a i, _, nm, x => match x with
    | .Subscript xa xi _ => nSlice xi && mE c a false nm xa && mE c i false nm xi
    | _ => false
  | .callT f m es, _, nm, x => match x with
    | .Call (.Name y _) (z :: zs) [] _ => gloB nm y && plainN y && (c.fs.any fun p => decide (p.1 = y) && p.2.1 == f) && mEs c es nm (z :: zs)
    | _ => false
  | .attr k a w, _, nm, x => match x with
    | .Attribute xa f _ => decide (f = S w) && nSuper xa && mE c a false nm xa && atB c k w
    | _ => false
  | .meth k f w o es, _, nm, x => match x with
    | .Call (.Attribute xo y ap) xs [] p => decide (y = S w) && nSuper xo && (ap.endLine == p.line) && mE c o false nm xo && mEs c es nm xs && decide (es.length < 25) && (c.cl.any fun ci => ci.idx == k && ci.ms.any fun q => decide (q.1 = w) && q.2.1 == f)
    | _ => false
  | .make g es, _, nm, x => match x with
    | .Call (.Name y _) (z :: zs) [] _ => gloB nm y && plainN y && mEs c es nm (z :: zs) && mkB c g y
    | _ => false
  | .isx a ts tup, _, nm, x => match x with
    | .Call (.Name y _) [xa, xt] [] _ => decide (y = "isinstance") && gloB nm y && (c.fr.any fun p => decide (p = y)) && nStar xa && mE c a false nm xa && tysB c nm ts tup xt
    | _ => false
  | .fldx a w, _, nm, x => match x with
    | .Attribute xa f _ => decide (f = S w) && nSuper xa && mE c a false nm xa
    | _ => false
  | .mkx w xs es, _, nm, x => match x with
    | .Call (.Name y _) (z :: zs) [] _ => decide (y = S w) && gloB nm y && plainN y && (c.xc.any fun p => decide (p = (w, xs))) && mEs c es nm (z :: zs) && decide (xs.length ≤ 100)
    | _ => false
def mEs (c : MC) : List E → Nm → List Expr → Bool
  | [], _, xs => match xs with
    | [] => true
    | _ => false
  | e :: es, nm, xs => match xs with
    | x :: xs => nStar x && mE c e false nm x && mEs c es nm xs
    | _ => false
def mP (c : MC) : Option E → Nm → Option Expr → Bool
  | none, _, x => match x with
    | none => true
    | _ => false
  | some e, nm, x => match x with
    | some x => mE c e false nm x
    | _ => false
def mC (c : MC) : Option E → Nm → List Expr → Bool
  | none, _, xs => match xs with
    | [] => true
    | _ => false
  | some e, nm, xs => match xs with
    | [x] => mE c e true nm x
    | _ => false
def mO (c : MC) : O → Nm → Expr → Bool
  | .lst es, nm, x => match x with
    | .List xs _ => mEs c es nm xs && decide (es.length ≤ 1000)
    | _ => false
  | .dic kvs, nm, x => match x with
    | .Dict ks vs _ => mKV c kvs nm ks vs && decide (ks.length ≤ 15)
    | _ => false
  | .dicT, nm, x => match x with
    | .Dict [] [] _ => true
    | _ => false
  | .comp elt tg tup it e own, nm, x => match x with
    | .ListComp xe [⟨xt, xi, ifs, 0⟩] sc p => nSet xi && (!tupI it || isTupE xt) && mI c it nm xi && decide ((ownL c.N own).map (·.2) = own) && blkC c.N ⟨.function, nm, false, false, []⟩ sc (ownL c.N own) && (tg.all fun i => own.contains i) &&
        tgtB c.N sc.names tg tup xt && mC c e (relN nm sc.names) ifs && mE c elt false (relN nm sc.names) xe
    | _ => false
  | .compP elt tg tup i e own, nm, x => match x with
    | .ListComp xe [⟨xt, .Name y py, ifs, 0⟩] sc p => decide (c.N[i]? = some y) && visB nm y && plainN y && decide ((ownL c.N own).map (·.2) = own) && blkC c.N ⟨.function, nm, false, false, []⟩ sc (ownL c.N own) && (tg.all fun i => own.contains i) &&
        tgtB c.N sc.names tg tup xt && mC c e (relN nm sc.names) ifs && mE c elt false (relN nm sc.names) xe
    | _ => false
  | .compD elt tg tup i e own, nm, x => match x with
    | .ListComp xe [⟨xt, .Name y py, ifs, 0⟩] sc p => decide (c.N[i]? = some y) && visB nm y && plainN y && decide ((ownL c.N own).map (·.2) = own) && blkC c.N ⟨.function, nm, false, false, []⟩ sc (ownL c.N own) && (tg.all fun i => own.contains i) &&
        tgtB c.N sc.names tg tup xt && mC c e (relN nm sc.names) ifs && mE c elt false (relN nm sc.names) xe
    | _ => false
  | .list a, nm, x => match x with
    | .Call (.Name y _) [xa] [] _ => decide (y = "list") && gloB nm y && (c.fr.any fun p => decide (p = y)) && nStar xa && mE c a false nm xa
    | _ => false
  | .dict a, nm, x => match x with
    | .Call (.Name y _) [xa] [] _ => decide (y = "dict") && gloB nm y && (c.fr.any fun p => decide (p = y)) && nStar xa && mE c a false nm xa
    | _ => false
  | .cut a lo hi, nm, x => match x with
    | .Subscript xa (.Slice xl xh none _) _ => mE c a false nm xa && mP c lo nm xl && mP c hi nm xh
    | _ => false
  | .cat a b, nm, x => match x with
    | .BinOp xa .Add xb _ => mE c a false nm xa && mE c b false nm xb
    | _ => false
  | .rep a b, nm, x => match x with
    | .BinOp xa .Mult xb _ => mE c a false nm xa && mE c b false nm xb
    | _ => false
  | .evn a, nm, x => match x with
    | .Subscript xa (.Slice none none (some (.Constant (.int i) _ _)) _) _ => decide (i = 2) && mE c a false nm xa
    | _ => false
  | .lkeys a, nm, x => match x with
    | .Call (.Name y _) [xa] [] _ => decide (y = "list") && gloB nm y && (c.fr.any fun p => decide (p = y)) && nStar xa && mE c a false nm xa
    | _ => false
  | .lrev a, nm, x => match x with
    | .Call (.Name y _) [.Call (.Name z _) [xa] [] _] [] _ => decide (y = "list") && gloB nm y && (c.fr.any fun p => decide (p = y)) && decide (z = "reversed") && gloB nm z && (c.fr.any fun p => decide (p = z)) && nStar xa && mE c a false nm xa
    | .Subscript xa (.Slice none none (some (.UnaryOp .USub (.Constant (.int i) _ _) _)) _) _ => decide (i = 1) && mE c a false nm xa
    | _ => false
def mKV (c : MC) : List E → Nm → List (Option Expr) → List Expr → Bool
  | [], _, ks, vs => ks.isEmpty && vs.isEmpty
  | k :: v :: r, nm, ks, vs => match ks, vs with
    | some xk :: ks, xv :: vs => mE c k false nm xk && mE c v false nm xv && mKV c r nm ks vs
    | _, _ => false
  | [_], _, _, _ => false
def mI (c : MC) : I → Nm → Expr → Bool
  | .e a, nm, x => mE c a false nm x
  | .rng es, nm, x => match x with
    | .Call (.Name y _) xs [] _ => decide (y = "range") && gloB nm y && (c.fr.any fun p => decide (p = y)) && mEs c es nm xs && (match xs with | [_] => true | [_, _] => true | [_, _, _] => true | _ => false)
    | _ => false
  | .enum a, nm, x => match x with
    | .Call (.Name y _) [xa] [] _ => decide (y = "enumerate") && gloB nm y && (c.fr.any fun p => decide (p = y)) && nStar xa && mE c a false nm xa
    | _ => false
  | .zip a b, nm, x => match x with
    | .Call (.Name y _) [xa, xb] [] _ => decide (y = "zip") && gloB nm y && (c.fr.any fun p => decide (p = y)) && nStar xa && nStar xb && mE c a false nm xa && mE c b false nm xb
    | _ => false
  | .rev a, nm, x => false
  | .revr es, nm, x => match x with
    | .Call (.Name y _) [.Call (.Name z _) [xa] [] _] [] _ => decide (y = "reversed") && gloB nm y && (c.fr.any fun p => decide (p = y)) && decide (z = "range") && gloB nm z && (c.fr.any fun p => decide (p = z)) && nStar xa && (match es with | [a] => mE c a false nm xa | _ => false)
    | _ => false
end
end NK
set_option Elab.async false
set_option linter.all false
set_option autoImplicit false
set_option maxRecDepth 100000
namespace NK
open PySem PySem.Spec PyProof.Rows L2
structure XcAt (X : Cx) (w : W) (xs : List W) : Prop where
  mg : X.mg (S w) = some (.ref (He.ga X.K (S w)))
  hg : PySem.W.nsIn X.K mainGlobals (S w) = some (some (.ref (He.ga X.K (S w))))
  xk : XcK X.K w xs
  mx : xs ≠ [] → XMk X w xs
  nx : xs = [] → XNk X.K (He.ga X.K (S w))
structure XOk (c : MC) (cs : Nat → Option Addr) (C : Calls) (d : Nat) (X : Cx) (nm : Nm) : Prop where
  nms : X.env.scope.names = nm
  knd : X.env.scope.kind = .function
  nN : X.N = c.N
  nd : c.N.Nodup
  calm : X.calm = true
  un : X.A.units + 200 < cLine
  rm : Room d X.A
  dv : DivRoom X
  fs : ∀ p ∈ c.fs, FnAt X cs d p.2.2 p.1 (C p.2.1) ∧ (∀ a s q, C p.2.1 a s = some q → a.length = p.2.2)
  gs : ∀ p ∈ c.gs, ∃ u, X.mg p.1 = some u ∧ RelV (k2V p.2) u
  fr : ∀ x ∈ c.fr, X.mg x = none
  cl : ∀ ci ∈ c.cl, (∃ Ca, cs ci.idx = some Ca ∧ Cls X.K Ca ∧ ∀ x ∈ ci.attrs, NoAttr X.K Ca (S x)) ∧ (∀ q ∈ ci.ms, MeAt X cs d q.2.2 ci.idx q.1 (C q.2.1) ∧ ∀ a s r, C q.2.1 a s = some r → a.length = q.2.2) ∧ ∀ q, ci.mkr = some q → MkAt X cs d q.2 ci.name (C q.1)
  xc : ∀ p ∈ c.xc, XcAt X p.1 p.2
  d40 : 40 ≤ d
def Ok (cs : Nat → Option Addr) (X : Cx) (t : Bool) (x : Expr) (f : Env → Sto → Option (Val × Sto)) : Prop := match t with
  | true => PT X x (tB X.K cs fun env st => (f env st).bind boolR)
  | false => PE X x (tE X.K cs f)
section
variable {c : MC} {cs : Nat → Option Addr} {C : Calls} {d : Nat} {X : Cx} {nm : Nm}
theorem Ok.plain {t : Bool} {x : Expr} {f : Env → Sto → Option (Val × Sto)} (h : PE X x (tE X.K cs f)) (he : ∀ whole, isTrue x X.env whole = (do let v ← whole; standAt x.pos; holding [v] (truthy v))) : Ok cs X t x f := by
  cases t
  · exact h
  · exact s_val h he
theorem vis_of (o : XOk c cs C d X nm) {y : Str} (h : visB nm y = true) : Vis X.env.scope y := by
  unfold Vis
  rw [o.nms]
  unfold visB at h
  split at h
  · rename_i e; exact .inl e
  · rename_i e; exact .inr (.inl e)
  · rename_i e; exact .inr (.inr e)
  · cases h
theorem loc_of {sc : Scope} {y : Str} (h : locB sc.names y = true) : L2.Loc sc y := by
  unfold L2.Loc
  unfold locB at h
  split at h
  · rename_i e; exact .inl e
  · rename_i e; exact .inr e
  · cases h
theorem gl_of (o : XOk c cs C d X nm) {y : Str} (h : gloB nm y = true) : Gl X y := by
  unfold Gl Env.kindOf
  rw [o.nms]
  unfold gloB at h
  split at h
  · assumption
  · cases h
theorem plainN_of {y : Str} (h : plainN y = true) : (y == ("__debug__" : Str)) = false ∧ (y == ("__classdict__" : Str)) = false := by
  unfold plainN at h
  rw [Bool.and_eq_true, decide_eq_true_eq, decide_eq_true_eq] at h
  exact h
theorem any_fr (o : XOk c cs C d X nm) {y : Str} (h : (c.fr.any fun p => decide (p = y)) = true) : X.mg y = none := by
  obtain ⟨p, hp, e⟩ := List.any_eq_true.mp h
  rw [← of_decide_eq_true e]
  exact o.fr p hp
theorem relN_keep {nm : Nm} {x : Str} {k : NameKind} (hk : k ≠ .free) : ∀ {own : Nm}, own.lookup x = some k → (relN nm own).lookup x = some k
  | [], h => by simp at h
  | (n, k') :: r, h => by
    unfold relN
    rw [List.map_cons]
    rw [List.lookup_cons] at h
    split at h
    · rename_i hx
      cases h
      have e : (k == NameKind.free) = false := by cases k <;> first | rfl | exact absurd rfl hk
      simp only [e, Bool.false_and, Bool.false_eq_true, if_false]
      rw [List.lookup_cons, hx]
    · rename_i hx
      have ih := relN_keep (nm := nm) hk h
      have e : ∀ z : NameKind, ((n, z) :: relN nm r).lookup x = (relN nm r).lookup x := fun z => by rw [List.lookup_cons, hx]
      show (((if (k' == .free && nm.lookup n == some .cell) then (n, .cell) else (n, k')) : Str × NameKind) :: relN nm r).lookup x = some k
      split
      · rw [e]; exact ih
      · rw [e]; exact ih
theorem star_any {pos : Pos} {env : PySem.Env} : ∀ {es : List Expr}, es.all nStar = true → ((backTo pos (starEach es env)).any (·.1)) = false
  | [], _ => rfl
  | e :: es, h => by
    rw [List.all_cons, Bool.and_eq_true] at h
    rw [noStar h.1]
    unfold backTo
    rw [List.map_cons, List.any_cons]
    simp only [Bool.false_or]
    exact star_any h.2
theorem blk_ok (o : XOk c cs C d X nm) {s : Shared} {H : Hp} {scope : Scope} {Ca : Addr} {cl : List (Str × Addr)} {fp : List Addr} (hk : scope.kind = .function) : XOk c cs C d (X.blk s H scope (compEnvC scope cl Ca X.env) fp) (relN nm scope.names) := by
  refine ⟨?_, hk, o.nN, o.nd, o.calm, o.un, o.rm, o.dv, fun p hp => ⟨⟨(o.fs p hp).1.ex⟩, (o.fs p hp).2⟩, o.gs, o.fr, fun ci hc => ⟨(o.cl ci hc).1, fun q hq => ⟨⟨((o.cl ci hc).2.1 q hq).1.ex⟩, ((o.cl ci hc).2.1 q hq).2⟩, (o.cl ci hc).2.2⟩, fun p hp => ⟨(o.xc p hp).mg, (o.xc p hp).hg, (o.xc p hp).xk, fun h => ⟨((o.xc p hp).mx h).oc, ((o.xc p hp).mx h).nd, ((o.xc p hp).mx h).ini⟩, (o.xc p hp).nx⟩, o.d40⟩
  show (relabel scope X.env).names = relN nm scope.names
  have e : ∀ n, X.env.kindOf n = nm.lookup n := fun n => by unfold Env.kindOf; rw [o.nms]
  unfold relabel relN
  simp only [o.knd, e, show (ScopeKind.function == ScopeKind.function) = true from rfl, Bool.and_true]
theorem loc_of2 {X : Cx} {nm : Nm} (hl : ∀ y, nm.lookup y = some .local → X.env.scope.names.lookup y = some .local) (hf : ∀ y, nm.lookup y = some .cell → X.env.scope.names.lookup y = some .cell ∧ X.fn y = true) {y : Str} (h : locB nm y = true) : L2.Loc X.env.scope y ∧ (X.fn y = true ∨ X.env.scope.names.lookup y = some .local) := by
  unfold L2.Loc
  unfold locB at h
  split at h
  · rename_i e; exact ⟨.inl (hl y e), .inr (hl y e)⟩
  · rename_i e; exact ⟨.inr (hf y e).1, .inl (hf y e).2⟩
  · cases h
theorem tgB_ok {X : Cx} {nm : Nm} (hN : X.N.Nodup) (hl : ∀ y, nm.lookup y = some .local → X.env.scope.names.lookup y = some .local) (hf : ∀ y, nm.lookup y = some .cell → X.env.scope.names.lookup y = some .cell ∧ X.fn y = true) : ∀ {is : List Nat} {xs : List Expr}, tgB X.N nm is xs = true → PGs X xs (gNames is) ∧ (assignEach xs X.env).length = is.length ∧ (assignEach xs X.env).findIdx? (·.1) = none
  | [], [], _ => ⟨pgs_nil, rfl, rfl⟩
  | i :: is, [], h => by simp [tgB] at h
  | [], _ :: _, h => by simp [tgB] at h
  | i :: is, x :: xs, h => by
    cases x with
    | Name y p =>
      simp only [tgB, Bool.and_eq_true, decide_eq_true_eq] at h
      obtain ⟨⟨h1, h2⟩, h3⟩ := h
      obtain ⟨a, b, c⟩ := tgB_ok hN hl hf h3
      obtain ⟨l1, l2⟩ := loc_of2 hl hf h2
      refine ⟨pgs_cons (pg_name hN h1 l1 l2) a rfl, ?_, ?_⟩
      · show (_ :: assignEach xs X.env).length = _
        rw [List.length_cons, b]; rfl
      · show ((false, assign (.Name y p) X.env) :: assignEach xs X.env).findIdx? (·.1) = none
        rw [List.findIdx?_cons, c]
        rfl
    | _ => simp [tgB] at h
def gTgt (K : PySem.W.Frag) (tg : List Nat) (tup : Bool) : TG := match tup, tg with
  | false, [i] => gName i
  | _, is => gTL K is
theorem tgt_ok2 {X : Cx} {cs : Nat → Option Addr} {nm : Nm} (hN : X.N.Nodup) (hc : X.calm = true) (hl : ∀ y, nm.lookup y = some .local → X.env.scope.names.lookup y = some .local) (hf : ∀ y, nm.lookup y = some .cell → X.env.scope.names.lookup y = some .cell ∧ X.fn y = true) {tg : List Nat} {tup : Bool} {x : Expr} (h : tgtB X.N nm tg tup x = true) :
    PG X x (gTgt X.K tg tup) ∧ TgOk X.K cs (gTgt X.K tg tup) (fun d e => bindT tg tup d e) tg := by
  unfold tgtB at h
  split at h
  · rename_i i y p
    simp only [Bool.and_eq_true, decide_eq_true_eq] at h
    obtain ⟨l1, l2⟩ := loc_of2 hl hf h.2
    exact ⟨pg_name hN h.1 l1 l2, tg_name⟩
  · rename_i is xs k p
    obtain ⟨a, b, c⟩ := tgB_ok hN hl hf h
    exact ⟨pg_tl hc a b c, tg_tup⟩
  · cases h
theorem tgt_blk (o : XOk c cs C d X nm) {s : Shared} {H : Hp} {scope : Scope} {Ca : Addr} {cl : List (Str × Addr)} {fp : List Addr} (hk : scope.kind = .function) {tg : List Nat} {tup : Bool} {x : Expr} (h : tgtB c.N scope.names tg tup x = true) :
    PG (X.blk s H scope (compEnvC scope cl Ca X.env) fp) x (gTgt X.K tg tup) ∧ TgOk X.K cs (gTgt X.K tg tup) (fun d e => bindT tg tup d e) tg := by
  have ob := blk_ok o (s := s) (H := H) (scope := scope) (Ca := Ca) (cl := cl) (fp := fp) hk
  exact tgt_ok2 (X := X.blk s H scope (compEnvC scope cl Ca X.env) fp) (by rw [ob.nN]; exact ob.nd) ob.calm (nm := scope.names) (fun y e => by rw [ob.nms]; exact relN_keep (by decide) e) (fun y e => ⟨by rw [ob.nms]; exact relN_keep (by decide) e, by show (scope.names.lookup y == some .cell) = true; rw [e]; rfl⟩) (by rw [ob.nN]; exact h)
theorem blkC_names {N : List Str} {sc sc' scope : Scope} {own : List (Str × Nat)} (e : sc'.names = sc.names) (h : blkC N sc' scope own = true) : blkC N sc scope own = true := by
  unfold blkC at h ⊢
  rw [e] at h
  exact h
end
end NK
set_option Elab.async false
set_option linter.all false
set_option autoImplicit false
set_option maxRecDepth 100000
namespace NK
open PySem PySem.Spec PyProof.Rows L2
section
variable {c : MC} {cs : Nat → Option Addr} {C : Calls} {d : Nat}
theorem s_one {X : Cx} {a : Expr} {op : BoolOp} {pos : Pos} {t : TE} (h : PE X a t) : PE X (.BoolOp op [a] pos) t := pe_one h
theorem pw_of {X : Cx} {op : BoolOp} {vs : List Expr} {pos : Pos} {t : TT} (h : PT X (.BoolOp op vs pos) t) : PW X (.BoolOp op vs pos) t := ⟨fun wh pins s σ H Q I q => h.run pins s σ H Q I q⟩
theorem pt_of {X : Cx} {op : BoolOp} {vs : List Expr} {pos : Pos} {t : TT} (h : PW X (.BoolOp op vs pos) t) : PT X (.BoolOp op vs pos) t := ⟨fun pins s σ H Q I q => h.run _ pins s σ H Q I q⟩
theorem fs_of {X : Cx} {nm : Nm} (o : XOk c cs C d X nm) {y : Str} {f : Nat} (h : (c.fs.any fun p => decide (p.1 = y) && p.2.1 == f) = true) : ∃ n, FnAt X cs d n y (C f) ∧ ∀ a s q, C f a s = some q → a.length = n := by
  obtain ⟨p, hp, e⟩ := List.any_eq_true.mp h
  rw [Bool.and_eq_true, decide_eq_true_eq, beq_iff_eq] at e
  obtain ⟨e1, e2⟩ := e
  have := o.fs p hp
  rw [e1, e2] at this
  exact ⟨_, this.1, this.2⟩
theorem evEs_len : ∀ {es : List E} {env : Env} {st st' : Sto} {vs : List Val}, evEs C es env st = some (vs, st') → vs.length = es.length
  | [], env, st, st', vs, h => by
    simp only [evEs] at h; cases h; rfl
  | e :: es, env, st, st', vs, h => by
    simp only [evEs] at h
    obtain ⟨r, h1, h⟩ := obnd h
    obtain ⟨q, h2, h⟩ := omap h
    cases h
    rw [List.length_cons, List.length_cons, evEs_len h2]
theorem mEs_star : ∀ {es : List E} {xs : List Expr} {nm : Nm}, mEs c es nm xs = true → xs.all nStar = true ∧ xs.length = es.length
  | [], [], _, _ => ⟨rfl, rfl⟩
  | [], _ :: _, _, h => by simp [mEs] at h
  | e :: es, [], _, h => by simp [mEs] at h
  | e :: es, x :: xs, nm, h => by
    simp only [mEs, Bool.and_eq_true] at h
    obtain ⟨a, b⟩ := mEs_star h.2
    exact ⟨by rw [List.all_cons, h.1.1, a]; rfl, by rw [List.length_cons, List.length_cons, b]⟩
theorem lim1000 {n : Nat} (h : n ≤ 1000) : n ≤ LIM := Nat.le_trans h (by decide)
theorem call_eq {f : Nat} {m : List Bool} {es : List E} : (fun env st => (fCallV C f m (evEs C es) env st).bind frz) = evE C (.call f m es) := by
  funext env st
  simp only [fCallV, evE, Option.bind_assoc]
  congr 1
theorem callA_eq {f : Nat} {m : List Bool} {es : List E} : (fun env st => (fCallV C f m (evEs C es) env st).bind own) = evE C (.callA f m es) := by
  funext env st
  simp only [fCallV, evE, Option.bind_assoc]
  congr 1
theorem callT_eq {f : Nat} {m : List Bool} {es : List E} : (fun env st => (fCallV C f m (evEs C es) env st).bind takT) = evE C (.callT f m es) := by
  funext env st
  simp only [fCallV, evE, Option.bind_assoc]
  congr 1
theorem tupV_eq {es : List E} : fTupV (evEs C es) = evE C (.tupV es) := by
  funext env st
  simp only [fTupV, evE]
theorem idxT_eq {a i : E} : fIdxT (evE C a) (evE C i) = evE C (.idxT a i) := by
  funext env st
  simp only [fIdxT, evE]
theorem isi_eq {a : E} {t : Ty} : fIsi t (evE C a) = evE C (.isi a [t]) := by
  funext env st
  simp only [fIsi, evE, anyTy]
  congr 1
  funext r
  congr 1
  funext q
  cases isTy q t <;> simp
theorem mE_one {e : E} {nm : Nm} {xs : List Expr} (h : mEs c [e] nm xs = true) : ∃ x, xs = [x] ∧ nStar x = true ∧ mE c e false nm x = true := by
  match xs, h with
  | [], h => simp [mEs] at h
  | [x], h =>
    simp only [mEs, Bool.and_eq_true] at h
    exact ⟨x, rfl, h.1.1, h.1.2⟩
  | _ :: _ :: _, h => simp [mEs] at h
theorem mE_two {e e' : E} {nm : Nm} {xs : List Expr} (h : mEs c [e, e'] nm xs = true) : ∃ x y, xs = [x, y] ∧ nStar x = true ∧ mE c e false nm x = true ∧ nStar y = true ∧ mE c e' false nm y = true := by
  match xs, h with
  | [], h => simp [mEs] at h
  | x :: xs, h =>
    rw [mEs] at h
    simp only [Bool.and_eq_true] at h
    obtain ⟨y, rfl, h3, h4⟩ := mE_one h.2
    exact ⟨x, y, rfl, h.1.1, h.1.2, h3, h4⟩
theorem nSet_of {X : Cx} {x : Expr} (h : nSet x = true) : ∀ v, foldedSetIterable x X.env v = pure v := fun v => by
  cases x <;> first | rfl | simp [nSet] at h
theorem at_of {X : Cx} {nm : Nm} (o : XOk c cs C d X nm) {k : Nat} {w : W} (h : atB c k w = true) : ∃ Ca, cs k = some Ca ∧ Cls X.K Ca ∧ NoAttr X.K Ca (S w) := by
  obtain ⟨ci, hc, e⟩ := List.any_eq_true.mp h
  rw [Bool.and_eq_true, beq_iff_eq] at e
  obtain ⟨rfl, e2⟩ := e
  obtain ⟨y, hy, e3⟩ := List.any_eq_true.mp e2
  rw [decide_eq_true_eq] at e3
  subst e3
  obtain ⟨⟨Ca, h1, h2, h3⟩, _⟩ := o.cl ci hc
  exact ⟨Ca, h1, h2, h3 y hy⟩
theorem ms_of {X : Cx} {nm : Nm} (o : XOk c cs C d X nm) {k f : Nat} {w : W} (h : (c.cl.any fun ci => ci.idx == k && ci.ms.any fun q => decide (q.1 = w) && q.2.1 == f) = true) : ∃ n, MeAt X cs d n k w (C f) ∧ ∀ a s r, C f a s = some r → a.length = n := by
  obtain ⟨ci, hc, e⟩ := List.any_eq_true.mp h
  rw [Bool.and_eq_true, beq_iff_eq] at e
  obtain ⟨rfl, e2⟩ := e
  obtain ⟨q, hq, e3⟩ := List.any_eq_true.mp e2
  rw [Bool.and_eq_true, decide_eq_true_eq, beq_iff_eq] at e3
  obtain ⟨rfl, rfl⟩ := e3
  exact ⟨_, ((o.cl ci hc).2.1 q hq).1, ((o.cl ci hc).2.1 q hq).2⟩
theorem mk_of {X : Cx} {nm : Nm} (o : XOk c cs C d X nm) {g : Nat} {y : Str} (h : mkB c g y = true) : ∃ n, MkAt X cs d n y (C g) := by
  obtain ⟨ci, hc, e⟩ := List.any_eq_true.mp h
  rw [Bool.and_eq_true, decide_eq_true_eq] at e
  obtain ⟨rfl, e2⟩ := e
  split at e2
  · rename_i q hq
    rw [beq_iff_eq] at e2
    subst e2
    exact ⟨_, (o.cl ci hc).2.2 q hq⟩
  · cases e2
theorem attr_eq {k : Nat} {a : E} {w : W} : fAttr k (evE C a) w = evE C (.attr k a w) := by
  funext env st; rfl
theorem meth_eq {k f : Nat} {w : W} {a : E} {es : List E} : fMeth k w (C f) (evE C a) (evEs C es) = evE C (.meth k f w a es) := by
  funext env st; rfl
theorem make_eq {g : Nat} {es : List E} : fMake (C g) (evEs C es) = evE C (.make g es) := by
  funext env st; rfl
theorem star_all {pos : Pos} {env : PySem.Env} : ∀ {es : List Expr}, es.all nStar = true → ((backTo pos (starEach es env)).all (!·.1)) = true
  | [], _ => rfl
  | e :: es, h => by
    rw [List.all_cons, Bool.and_eq_true] at h
    rw [noStar h.1]
    unfold backTo
    rw [List.map_cons, List.all_cons]
    simp only [Bool.not_false, Bool.true_and]
    exact star_all h.2
theorem maxD_eq {a b : E} : fMaxD (evE C a) (evE C b) = evE C (.bi .maxD [a, b]) := by
  funext env st
  simp only [fMaxD, evE, evEs]
  cases evE C a env st with
  | none => rfl
  | some r =>
    simp only [Option.bind_some]
    cases evE C b env r.2 with
    | none => rfl
    | some q => rfl
theorem mEs_one {e : E} {es : List E} {nm : Nm} {x : Expr} (h : mEs c (e :: es) nm [x] = true) : es = [] ∧ nStar x = true ∧ mE c e false nm x = true := by
  simp only [mEs, Bool.and_eq_true] at h
  cases es with
  | nil => exact ⟨rfl, h.1.1, h.1.2⟩
  | cons _ _ => simp [mEs] at h
theorem sset_eq {a : E} : fSSet (evE C a) = evE C (.bi .sset [a]) := by
  funext env st
  simp only [fSSet, evE, evEs]
  cases evE C a env st with
  | none => rfl
  | some r => rfl
theorem mKV_len : ∀ {kvs : List E} {nm : Nm} {ks : List (Option Expr)} {vs : List Expr}, mKV c kvs nm ks vs = true → 2 * ks.length = kvs.length ∧ ks.length = vs.length ∧ ks.all (·.isSome) = true
  | [], nm, ks, vs, h => by
    simp only [mKV, Bool.and_eq_true, List.isEmpty_iff] at h
    obtain ⟨rfl, rfl⟩ := h
    exact ⟨rfl, rfl, rfl⟩
  | [_], nm, ks, vs, h => by simp [mKV] at h
  | k :: v :: r, nm, ks, vs, h => by
    simp only [mKV] at h
    split at h
    · simp only [Bool.and_eq_true] at h
      obtain ⟨a, b, d⟩ := mKV_len h.2
      refine ⟨by simp only [List.length_cons]; omega, by simp only [List.length_cons]; omega, by simp [d]⟩
    · cases h
theorem dlook_none {ks : List K1} : ∀ {ds : List D} {k : K1}, ks.length = ds.length → (dlook ks ds k).isSome = false → k ∉ ks := by
  induction ks with
  | nil => intro ds k _ _ h; simp at h
  | cons a ks ih =>
    intro ds k hl h
    cases ds with
    | nil => simp at hl
    | cons d ds =>
      simp only [dlook] at h
      split at h
      · cases h
      · rename_i hne
        intro hm
        rcases List.mem_cons.mp hm with e | hm
        · exact hne e.symm
        · exact ih (by simpa using hl) h hm
theorem evKV_len : ∀ {kvs : List E} {env : Env} {st : Sto} {r : List K1 × List D} {st' : Sto}, evKV C kvs env st = some (r, st') → 2 * r.1.length = kvs.length ∧ r.1.Nodup ∧ r.1.length = r.2.length
  | [], env, st, r, st', h => by
    simp only [evKV] at h
    cases h
    exact ⟨rfl, List.nodup_nil, rfl⟩
  | [_], env, st, r, st', h => by simp [evKV] at h
  | k :: v :: rest, env, st, r, st', h => by
    simp only [evKV] at h
    obtain ⟨x, _, h⟩ := obnd h
    obtain ⟨y, _, h⟩ := obnd h
    obtain ⟨p, _, h⟩ := obnd h
    obtain ⟨t, ht, h⟩ := obnd h
    obtain ⟨kx, _, h⟩ := obnd h
    split at h
    · cases h
    rename_i hn
    cases h
    obtain ⟨a, b, d⟩ := evKV_len (r := t.1) (st' := t.2) ht
    refine ⟨by simp only [List.length_cons]; omega, List.nodup_cons.mpr ⟨dlook_none d (by simpa using hn), b⟩, by simp only [List.length_cons]; omega⟩
theorem name_ok {X : Cx} {nm : Nm} (o : XOk c cs C d X nm) {t : W} {x : Expr} (h : nameB c nm t x = true) : XTy X.K t ∧ nStar x = true ∧ PE X x (tC (clW X.K t)) := by
  unfold nameB at h
  split at h
  case h_2 => cases h
  rename_i z p
  simp only [Bool.and_eq_true, decide_eq_true_eq] at h
  obtain ⟨⟨⟨⟨h1, h2⟩, h3⟩, h4⟩, h5⟩ := h
  subst h1
  refine ⟨⟨by simpa using h4, ?_⟩, rfl, ?_⟩
  · split at h5
    · rename_i ht
      exact .inl ht
    · obtain ⟨q, hq, e⟩ := List.any_eq_true.mp h5
      rw [decide_eq_true_eq] at e
      have m := (o.xc q hq).hg
      rw [e] at m
      exact .inr m
  unfold clW
  split at h5
  · rename_i ht
    subst ht
    rw [if_pos rfl]
    exact pe_bltn (gl_of o h2) (any_fr o h5) PyProof.Rows.Boot.«ValueError» rfl (by decide +kernel) (plainN_of h3).1
  · rename_i ht
    rw [if_neg ht]
    obtain ⟨q, hq, e⟩ := List.any_eq_true.mp h5
    rw [decide_eq_true_eq] at e
    have m := (o.xc q hq).mg
    rw [e] at m
    exact pe_glob (gl_of o h2) m rfl (plainN_of h3).1
theorem names_ok {X : Cx} {nm : Nm} (o : XOk c cs C d X nm) : ∀ {ts : List W} {xs : List Expr}, clsNB c nm ts xs = true → (∀ t ∈ ts, XTy X.K t) ∧ PA X xs (fun σ H Q => Q (ts.map (clW X.K)) H)
  | [], [], _ => ⟨fun _ h => (nomatch h), pa_nil⟩
  | [], _ :: _, h => by simp [clsNB] at h
  | _ :: _, [], h => by simp [clsNB] at h
  | t :: ts, x :: xs, h => by
    simp only [clsNB, Bool.and_eq_true] at h
    obtain ⟨h1, h2, h3⟩ := name_ok o h.1
    obtain ⟨h4, h5⟩ := names_ok o h.2
    exact ⟨fun z hz => by rcases List.mem_cons.mp hz with e | e; · rw [e]; exact h1
                          · exact h4 z e, pa_cons h3 h5 (noStar h2)⟩
theorem tys_ok {X : Cx} {nm : Nm} (o : XOk c cs C d X nm) {f : Env → Sto → Option (Val × Sto)} {ts : List W} {tup : Bool} {xa xt : Expr} {p pos : Pos} (hg : Gl X "isinstance") (hm : X.mg "isinstance" = none) (he : PE X xa (tE X.K cs f)) (hs : nStar xa = true) (h : tysB c nm ts tup xt = true) :
    PE X (.Call (.Name "isinstance" p) [xa, xt] [] pos) (tE X.K cs (fIsX ts f)) := by
  unfold tysB at h
  split at h
  · rename_i t x
    obtain ⟨h1, h2, h3⟩ := name_ok o h
    exact s_isx hg hm he hs h1 h2 h3
  · rename_i ts xs n ps
    simp only [Bool.and_eq_true, decide_eq_true_eq] at h
    obtain ⟨h4, h5⟩ := names_ok o h.1.1
    exact s_isxT h.1.2 hg hm he hs h4 h5
  · cases h
theorem isx_eq {a : E} {ts : List W} {tup : Bool} : fIsX ts (evE C a) = evE C (.isx a ts tup) := by funext env st; simp only [evE, fIsX]
theorem mkx_eq {w : W} {xs : List W} {es : List E} : fMkx w xs (evEs C es) = evE C (.mkx w xs es) := by funext env st; simp only [evE, fMkx]
theorem fldx_eq {a : E} {w : W} : fFldX w (evE C a) = evE C (.fldx a w) := by funext env st; simp only [evE, fFldX]
set_option maxHeartbeats 1000000 in
mutual
theorem mE_ok : ∀ (e : E) {t : Bool} {nm : Nm} {x : Expr} {X : Cx}, XOk c cs C d X nm → mE c e t nm x = true → Ok cs X t x (evE C e)
  | .int i, t, nm, x, X, o, h => by
    simp only [mE] at h
    split at h
    · rw [decide_eq_true_eq] at h
      subst h
      exact Ok.plain (s_const pe_int fun F => Den.int_iff.mpr rfl) fun _ => rfl
    · cases h
  | .bl b, t, nm, x, X, o, h => by
    simp only [mE] at h
    split at h
    · have := eq_of_beq h
      subst this
      exact Ok.plain (s_const pe_bl fun F => Den.bl_iff.mpr rfl) fun _ => rfl
    · cases h
  | .non, t, nm, x, X, o, h => by
    simp only [mE] at h
    split at h
    · exact Ok.plain (s_const pe_non fun F => Den.non_iff.mpr rfl) fun _ => rfl
    · cases h
  | .str w, t, nm, x, X, o, h => by
    simp only [mE] at h
    split at h
    · rw [decide_eq_true_eq] at h
      subst h
      exact Ok.plain (s_const pe_str fun F => Den.str_iff.mpr rfl) fun _ => rfl
    · cases h
  | .var i, t, nm, x, X, o, h => by
    simp only [mE] at h
    split at h
    · rw [Bool.and_eq_true, Bool.and_eq_true, decide_eq_true_eq] at h
      obtain ⟨p1, p2⟩ := plainN_of h.2
      exact Ok.plain (s_var (pe_var (by rw [o.nN]; exact h.1.1) (vis_of o h.1.2) p1 p2)) fun _ => rfl
    · cases h
  | .gl w k, t, nm, x, X, o, h => by
    simp only [mE] at h
    split at h
    · rw [Bool.and_eq_true, Bool.and_eq_true] at h
      obtain ⟨⟨h1, h2⟩, h3⟩ := h
      obtain ⟨p1, p2⟩ := plainN_of h2
      obtain ⟨p, hp, e⟩ := List.any_eq_true.mp h3
      rw [Bool.and_eq_true, decide_eq_true_eq] at e
      obtain ⟨e1, e2⟩ := e
      obtain ⟨u, hu, ru⟩ := o.gs p hp
      rw [e1] at hu
      refine Ok.plain (s_const (pe_glob (gl_of o h1) hu ru p1) fun F => ?_) fun _ => rfl
      unfold gOk at e2
      split at e2
      · rename_i hk
        rw [decide_eq_true_eq] at e2
        subst e2
        rw [hk]
        exact Den.int_iff.mpr rfl
      · rename_i hk
        rw [decide_eq_true_eq] at e2
        subst e2
        rw [hk]
        exact Den.str_iff.mpr rfl
      · cases e2
    · cases h
  | .tup es, t, nm, x, X, o, h => by
    simp only [mE] at h
    split at h
    · rw [Bool.and_eq_true, decide_eq_true_eq] at h
      exact Ok.plain (s_tup (mEs_ok es o h.1) fun env st vs st' e => by rw [evEs_len e]; exact lim1000 h.2) fun _ => rfl
    · cases h
  | .bin op a b, t, nm, x, X, o, h => by
    simp only [mE] at h
    split at h
    · simp only [Bool.and_eq_true, decide_eq_true_eq] at h
      obtain ⟨⟨h1, h2⟩, h3⟩ := h
      subst h1
      exact Ok.plain (s_bin o.dv (mE_ok a o h2) (mE_ok b o h3)) fun _ => rfl
    · cases h
  | .neg a, t, nm, x, X, o, h => by
    simp only [mE] at h
    split at h
    · exact Ok.plain (s_neg (mE_ok a o h)) fun _ => rfl
    · cases h
  | .not a, t, nm, x, X, o, h => by
    simp only [mE] at h
    split at h
    · cases t
      · exact s_not (mE_ok a o h)
      · exact s_notT (mE_ok a o h)
    · cases h
  | .and a b, t, nm, x, X, o, h => by
    simp only [mE] at h
    split at h
    · rename_i xa xb r p
      rw [Bool.and_eq_true] at h
      have ha := mE_ok a o h.1
      have hb := mE_ok b o h.2
      cases t
      · cases r with
        | nil => exact s_and ha (s_one hb)
        | cons z r => exact s_and ha hb
      · cases r with
        | nil => exact pt_of (s_andW ha (pw_and1 hb))
        | cons z r => exact pt_of (s_andW ha (pw_of hb))
    · cases h
  | .or a b, t, nm, x, X, o, h => by
    simp only [mE] at h
    split at h
    · rename_i xa xb r p
      rw [Bool.and_eq_true] at h
      have ha := mE_ok a o h.1
      have hb := mE_ok b o h.2
      cases t
      · cases r with
        | nil => exact s_or ha (s_one hb)
        | cons z r => exact s_or ha hb
      · cases r with
        | nil => exact pt_of (s_orW ha (pw_or1 hb))
        | cons z r => exact pt_of (s_orW ha (pw_of hb))
    · cases h
  | .cmp op a b, t, nm, x, X, o, h => by
    simp only [mE] at h
    split at h
    · simp only [Bool.and_eq_true, decide_eq_true_eq] at h
      obtain ⟨⟨⟨h1, h2⟩, h3⟩, h4⟩ := h
      subst h1
      cases t
      · exact s_cmp o.un (mE_ok a o h2) (mE_ok b o h3) (by simpa using h4)
      · exact s_cmpT o.un (mE_ok a o h2) (mE_ok b o h3) (by simpa using h4)
    · cases h
  | .chain op op' a b e, t, nm, x, X, o, h => by
    simp only [mE] at h
    split at h
    · simp only [Bool.and_eq_true, decide_eq_true_eq] at h
      obtain ⟨⟨⟨⟨⟨h1, h1'⟩, h2⟩, h3⟩, h4⟩, h5⟩ := h
      subst h1
      subst h1'
      cases t
      · exact s_chain o.un (mE_ok a o h2) (mE_ok b o h3) (mE_ok e o h4) (by simpa using h5)
      · exact s_chainT o.un (mE_ok a o h2) (mE_ok b o h3) (mE_ok e o h4) (by simpa using h5)
    · cases h
  | .ite e a b, t, nm, x, X, o, h => by
    simp only [mE] at h
    split at h
    · simp only [Bool.and_eq_true] at h
      obtain ⟨⟨⟨h1, h2⟩, h3⟩, h4⟩ := h
      cases t
      · exact s_ite (mE_ok e o h2) (mE_ok a o h3) (mE_ok b o h4)
      · cases h1
    · cases h
  | .idx a i, t, nm, x, X, o, h => by
    simp only [mE] at h
    split at h
    · simp only [Bool.and_eq_true] at h
      exact Ok.plain (s_idx o.un (mE_ok a o h.1.2) (mE_ok i o h.2) h.1.1) fun _ => rfl
    · cases h
  | .slc a lo hi, t, nm, x, X, o, h => by
    simp only [mE] at h
    split at h
    · simp only [Bool.and_eq_true] at h
      exact Ok.plain (s_slc (mE_ok a o h.1.1) (mP_ok lo o h.1.2) (mP_ok hi o h.2)) fun _ => rfl
    · cases h
  | .call f m es, t, nm, x, X, o, h => by
    simp only [mE] at h
    split at h
    · rename_i y p zs p'
      simp only [Bool.and_eq_true] at h
      obtain ⟨⟨⟨h1, h2⟩, h3⟩, h4⟩ := h
      obtain ⟨n, hf, hn⟩ := fs_of o (by simpa using h3)
      rw [← call_eq]
      cases zs with
      | nil =>
        cases es with
        | nil => exact Ok.plain (s_call0 hf hn o.rm (gl_of o h1) (plainN_of h2).1) fun _ => rfl
        | cons _ _ => simp [mEs] at h4
      | cons z zs =>
        obtain ⟨hs, hl⟩ := mEs_star h4
        rw [List.all_cons, Bool.and_eq_true] at hs
        exact Ok.plain (s_call hf hn o.rm (gl_of o h1) (mEs_ok es o h4) (plainN_of h2).1 (noStar hs.1) (star_any hs.2)) fun _ => rfl
    · cases h
  | .callT f m es, t, nm, x, X, o, h => by
    simp only [mE] at h
    split at h
    · rename_i y p z zs p'
      simp only [Bool.and_eq_true] at h
      obtain ⟨⟨⟨h1, h2⟩, h3⟩, h4⟩ := h
      obtain ⟨n, hf, hn⟩ := fs_of o (by simpa using h3)
      rw [← callT_eq]
      obtain ⟨hs, hl⟩ := mEs_star h4
      rw [List.all_cons, Bool.and_eq_true] at hs
      exact Ok.plain (s_callT hf hn o.rm (gl_of o h1) (mEs_ok es o h4) (plainN_of h2).1 (noStar hs.1) (star_any hs.2)) fun _ => rfl
    · cases h
  | .tupV es, t, nm, x, X, o, h => by
    simp only [mE] at h
    split at h
    · rw [Bool.and_eq_true, decide_eq_true_eq] at h
      rw [← tupV_eq]
      exact Ok.plain (s_tupV (mEs_ok es o h.1) fun env st vs st' e => by rw [evEs_len e]; exact lim1000 h.2) fun _ => rfl
    · cases h
  | .idxT a i, t, nm, x, X, o, h => by
    simp only [mE] at h
    split at h
    · simp only [Bool.and_eq_true] at h
      rw [← idxT_eq]
      exact Ok.plain (s_idxT (mE_ok a o h.1.2) (mE_ok i o h.2) h.1.1) fun _ => rfl
    · cases h
  | .callA f m es, t, nm, x, X, o, h => by
    simp only [mE] at h
    split at h
    · rename_i y p zs p'
      simp only [Bool.and_eq_true] at h
      obtain ⟨⟨⟨h1, h2⟩, h3⟩, h4⟩ := h
      obtain ⟨n, hf, hn⟩ := fs_of o (by simpa using h3)
      rw [← callA_eq]
      cases zs with
      | nil =>
        cases es with
        | nil => exact Ok.plain (s_callA0 hf hn o.rm (gl_of o h1) (plainN_of h2).1) fun _ => rfl
        | cons _ _ => simp [mEs] at h4
      | cons z zs =>
        obtain ⟨hs, hl⟩ := mEs_star h4
        rw [List.all_cons, Bool.and_eq_true] at hs
        exact Ok.plain (s_callA hf hn o.rm (gl_of o h1) (mEs_ok es o h4) (plainN_of h2).1 (noStar hs.1) (star_any hs.2)) fun _ => rfl
    · cases h
  | .bi b es, t, nm, x, X, o, h => by
    simp only [mE] at h
    split at h
    · rename_i y p z zs kws p'
      simp only [Bool.and_eq_true, decide_eq_true_eq] at h
      obtain ⟨⟨⟨h1, h2⟩, h3⟩, h4⟩ := h
      subst h1
      split at h4
      · rw [Bool.or_eq_true, Bool.and_eq_true, Bool.and_eq_true] at h4
        rcases h4 with h4 | ⟨g1, g2⟩
        case inr =>
          unfold isSset at g1
          split at g1
          · rename_i y2 p2 xe p3
            simp only [Bool.and_eq_true, decide_eq_true_eq] at g1
            obtain ⟨⟨k1, k2⟩, k3⟩ := g1
            subst k1
            cases es with
            | nil => simp [mEs, argsE] at g2
            | cons e es =>
              obtain ⟨k4, k5, k6⟩ := mEs_one g2
              subst k4
              rw [← sset_eq]
              exact Ok.plain (s_sset o.calm (gl_of o h2) (any_fr o h3) (gl_of o k2) (any_fr o k3) (mE_ok e o k6) k5) fun _ => rfl
          · cases g1
        obtain ⟨hs, hl⟩ := mEs_star h4.2
        rw [List.all_cons, Bool.and_eq_true] at hs
        exact Ok.plain (s_bi h4.1 o.calm (gl_of o h2) (any_fr o h3) (mEs_ok es o h4.2) (noStar hs.1) (star_any hs.2)) fun _ => rfl
      · rename_i a kx kp
        simp only [Bool.and_eq_true, decide_eq_true_eq] at h4
        obtain ⟨⟨g1, g2⟩, g3⟩ := h4
        unfold isMaxD at g2
        split at g2
        · rename_i ea ed
          obtain ⟨x1, x2, e12, hs, he, hs2, he2⟩ := mE_two g3
          cases e12
          rw [← maxD_eq]
          exact Ok.plain (s_maxD g1 o.calm (gl_of o h2) (any_fr o h3) (mE_ok ea o he) (mE_ok ed o he2) hs) fun _ => rfl
        · cases g2
      · cases h4
    · cases h
  | .mt m a es, t, nm, x, X, o, h => by
    simp only [mE] at h
    split at h
    · rename_i xo y ap xs p
      simp only [Bool.and_eq_true, decide_eq_true_eq] at h
      obtain ⟨⟨⟨⟨⟨h1, h2⟩, h3⟩, h4⟩, h5⟩, h6⟩ := h
      subst h1
      have hl : (ap.endLine == p.line) = true := h3
      have ho := mE_ok a o h4
      split at h6
      · cases xs <;> simp only [mEs, Bool.false_eq_true] at h5
        exact Ok.plain (s_mt0 ho h2 hl fun _ _ _ _ => mt_pop_ok) fun _ => rfl
      · cases xs <;> simp only [mEs, Bool.false_eq_true] at h5
        exact Ok.plain (s_mt0 ho h2 hl fun _ _ _ _ => mt_clear_ok) fun _ => rfl
      · rename_i e1
        obtain ⟨x1, rfl, hs, he⟩ := mE_one h5
        exact Ok.plain (s_mt1 ho (mE_ok e1 o he) h2 hs hl fun _ _ _ _ _ => mt_append_ok) fun _ => rfl
      · rename_i e1
        obtain ⟨x1, rfl, hs, he⟩ := mE_one h5
        exact Ok.plain (s_mt1 ho (mE_ok e1 o he) h2 hs hl fun _ _ _ _ _ => mt_popAt_ok) fun _ => rfl
      · rename_i e1
        obtain ⟨x1, rfl, hs, he⟩ := mE_one h5
        exact Ok.plain (s_mt1 ho (mE_ok e1 o he) h2 hs hl fun _ _ _ _ _ => mt_join_ok) fun _ => rfl
      · rename_i e1
        obtain ⟨x1, rfl, hs, he⟩ := mE_one h5
        exact Ok.plain (s_mt1 ho (mE_ok e1 o he) h2 hs hl fun _ _ _ _ _ => mt_update_ok) fun _ => rfl
      · rename_i e1
        obtain ⟨x1, rfl, hs, he⟩ := mE_one h5
        exact Ok.plain (s_mt1 ho (mE_ok e1 o he) h2 hs hl fun _ _ _ _ _ => mt_startswith_ok) fun _ => rfl
      · rename_i e1
        obtain ⟨x1, rfl, hs, he⟩ := mE_one h5
        exact Ok.plain (s_mt1 ho (mE_ok e1 o he) h2 hs hl fun _ _ _ _ _ => mt_split_ok) fun _ => rfl
      · rename_i e1
        obtain ⟨x1, rfl, hs, he⟩ := mE_one h5
        exact Ok.plain (s_mt1 ho (mE_ok e1 o he) h2 hs hl fun _ _ _ _ _ => mt_partition_ok) fun _ => rfl
      · rename_i e1
        obtain ⟨x1, rfl, hs, he⟩ := mE_one h5
        exact Ok.plain (s_mt1 ho (mE_ok e1 o he) h2 hs hl fun _ _ _ _ _ => mt_rpartition_ok) fun _ => rfl
      · rename_i e1
        obtain ⟨x1, rfl, hs, he⟩ := mE_one h5
        exact Ok.plain (s_mt1 ho (mE_ok e1 o he) h2 hs hl fun _ _ _ _ _ => mt_count_ok) fun _ => rfl
      · rename_i e1
        obtain ⟨x1, rfl, hs, he⟩ := mE_one h5
        exact Ok.plain (s_mt1 ho (mE_ok e1 o he) h2 hs hl fun _ _ _ _ _ => mt_index_ok) fun _ => rfl
      · rename_i e1 e2
        obtain ⟨x1, x2, rfl, hs, he, hs2, he2⟩ := mE_two h5
        exact Ok.plain (s_get o.un ho (mE_ok e1 o he) (mE_ok e2 o he2) h2 hs hs2 hl) fun _ => rfl
      · rename_i e1 e2
        obtain ⟨x1, x2, rfl, hs, he, hs2, he2⟩ := mE_two h5
        exact Ok.plain (s_mt2 ho (mE_ok e1 o he) (mE_ok e2 o he2) h2 hs hs2 hl fun _ _ _ _ _ _ => mt_pop2_ok (by have := o.un; omega)) fun _ => rfl
      · cases h6
    · cases h
  | .isi a ts, t, nm, x, X, o, h => by
    simp only [mE] at h
    split at h
    · rename_i y py xa z pz pc t'
      simp only [Bool.and_eq_true, decide_eq_true_eq] at h
      obtain ⟨⟨⟨⟨⟨⟨⟨h1, h2⟩, h3⟩, h4⟩, h5⟩, h6⟩, h7⟩, h8⟩ := h
      subst h1
      subst h2
      rw [← isi_eq]
      exact Ok.plain (s_isi (gl_of o h3) (any_fr o h5) (gl_of o h4) (any_fr o h6) (mE_ok a o h8) h7) fun _ => rfl
    · cases h
  | .fz e, t, nm, x, X, o, h => by
    simp only [mE] at h
    obtain ⟨h1, h2⟩ := mO_ok e o h
    exact Ok.plain (s_fz h1) (h2 _)
  | .new e, t, nm, x, X, o, h => by
    simp only [mE] at h
    obtain ⟨h1, h2⟩ := mO_ok e o h
    exact Ok.plain (s_new h1) (h2 _)
  | .attr k a w, t, nm, x, X, o, h => by
    simp only [mE] at h
    split at h
    · simp only [Bool.and_eq_true, decide_eq_true_eq] at h
      obtain ⟨⟨⟨h1, h2⟩, h3⟩, h4⟩ := h
      subst h1
      obtain ⟨Ca, g1, g2, g3⟩ := at_of o h4
      rw [← attr_eq]
      exact Ok.plain (s_attr g1 g2 g3 (mE_ok a o h3) (noSuper h2 _)) fun _ => rfl
    · cases h
  | .meth k f w a es, t, nm, x, X, o, h => by
    simp only [mE] at h
    split at h
    · rename_i xo y ap xs p
      simp only [Bool.and_eq_true, decide_eq_true_eq] at h
      obtain ⟨⟨⟨⟨⟨⟨h1, h2⟩, h3⟩, h4⟩, h5⟩, h6⟩, h7⟩ := h
      subst h1
      obtain ⟨n, g1, g2⟩ := ms_of o h7
      rw [← meth_eq]
      obtain ⟨hs, hl⟩ := mEs_star h5
      cases xs with
      | nil =>
        cases es with
        | nil => exact Ok.plain (s_meth0 g1 g2 o.rm (mE_ok a o h4) (noSuper h2 _) h3) fun _ => rfl
        | cons _ _ => simp [mEs] at h5
      | cons z zs =>
        have hs2 := hs
        rw [List.all_cons, Bool.and_eq_true] at hs2
        exact Ok.plain (s_meth g1 g2 o.rm (mE_ok a o h4) (mEs_ok es o h5) (noStar hs2.1) (star_any hs2.2) (noSuper h2 _) h3 (star_all hs) (by omega)) fun _ => rfl
    · cases h
  | .make g es, t, nm, x, X, o, h => by
    simp only [mE] at h
    split at h
    · simp only [Bool.and_eq_true] at h
      obtain ⟨⟨⟨h1, h2⟩, h3⟩, h4⟩ := h
      obtain ⟨n, g1⟩ := mk_of o h4
      rw [← make_eq]
      obtain ⟨hs, hl⟩ := mEs_star h3
      rw [List.all_cons, Bool.and_eq_true] at hs
      exact Ok.plain (s_make g1 o.rm (gl_of o h1) (mEs_ok es o h3) (plainN_of h2).1 (noStar hs.1) (star_any hs.2)) fun _ => rfl
    · cases h
  | .isx a ts tup, t, nm, x, X, o, h => by
    simp only [mE] at h
    split at h
    · rename_i y py xa xt pc
      simp only [Bool.and_eq_true, decide_eq_true_eq] at h
      obtain ⟨⟨⟨⟨⟨h1, h2⟩, h3⟩, h4⟩, h5⟩, h6⟩ := h
      subst h1
      rw [← isx_eq]
      exact Ok.plain (tys_ok o (gl_of o h2) (any_fr o h3) (mE_ok a o h5) h4 h6) fun _ => rfl
    · cases h
  | .fldx a w, t, nm, x, X, o, h => by
    simp only [mE] at h
    split at h
    · simp only [Bool.and_eq_true, decide_eq_true_eq] at h
      obtain ⟨⟨h1, h2⟩, h3⟩ := h
      subst h1
      rw [← fldx_eq]
      exact Ok.plain (s_fldx (mE_ok a o h3) (noSuper h2 _)) fun _ => rfl
    · cases h
  | .mkx w xs es, t, nm, x, X, o, h => by
    simp only [mE] at h
    split at h
    · rename_i y py z zs pc
      simp only [Bool.and_eq_true, decide_eq_true_eq] at h
      obtain ⟨⟨⟨⟨⟨h1, h2⟩, h3⟩, h4⟩, h5⟩, h6⟩ := h
      subst h1
      obtain ⟨p, hp, e⟩ := List.any_eq_true.mp h4
      rw [decide_eq_true_eq] at e
      subst e
      obtain ⟨hs, hl⟩ := mEs_star h5
      rw [List.all_cons, Bool.and_eq_true] at hs
      have xa := o.xc _ hp
      rw [← mkx_eq]
      cases xs with
      | nil => exact Ok.plain (s_mkx0 xa.xk (xa.nx rfl) (gl_of o h2) xa.mg (mEs_ok es o h5) (plainN_of h3).1 (noStar hs.1) (star_any hs.2)) fun _ => rfl
      | cons x0 xs => exact Ok.plain (s_mkx xa.xk (xa.mx (by simp)) (gl_of o h2) xa.mg (o.rm.mono o.d40) (mEs_ok es o h5) h6 (plainN_of h3).1 (noStar hs.1) (star_any hs.2)) fun _ => rfl
    · cases h
theorem mEs_ok : ∀ (es : List E) {nm : Nm} {xs : List Expr} {X : Cx}, XOk c cs C d X nm → mEs c es nm xs = true → PA X xs (tEs X.K cs (evEs C es))
  | [], nm, xs, X, o, h => by
    simp only [mEs] at h
    split at h
    · exact s_nil
    · cases h
  | e :: es, nm, xs, X, o, h => by
    simp only [mEs] at h
    split at h
    · simp only [Bool.and_eq_true] at h
      exact s_cons (mE_ok e o h.1.2) (mEs_ok es o h.2) h.1.1
    · cases h
theorem mP_ok : ∀ (e : Option E) {nm : Nm} {x : Option Expr} {X : Cx}, XOk c cs C d X nm → mP c e nm x = true → PO X x (tP X.K cs (evP C e))
  | none, nm, x, X, o, h => by
    simp only [mP] at h
    split at h
    · exact s_po0
    · cases h
  | some e, nm, x, X, o, h => by
    simp only [mP] at h
    split at h
    · exact s_po1 (mE_ok e o h)
    · cases h
theorem mC_ok : ∀ (e : Option E) {nm : Nm} {xs : List Expr} {X : Cx}, XOk c cs C d X nm → mC c e nm xs = true → PTs X xs (tB X.K cs fun env st => evC C e env st)
  | none, nm, xs, X, o, h => by
    simp only [mC] at h
    split at h
    · exact ⟨fun pins s σ H Q I ⟨F, B, as, env, st, b, st', r, ev, k⟩ => pts_nil.run pins s σ H Q I (by
        simp only [evC] at ev
        cases ev
        exact k F as H r r.refl)⟩
    · cases h
  | some e, nm, xs, X, o, h => by
    simp only [mC] at h
    split at h
    · exact pts_one (mE_ok e o h)
    · cases h
theorem mO_ok : ∀ (e : O) {nm : Nm} {x : Expr} {X : Cx}, XOk c cs C d X nm → mO c e nm x = true → PE X x (tO X.K cs (evO C e)) ∧ ∀ (env : PySem.Env) whole, isTrue x env whole = (do let v ← whole; standAt x.pos; holding [v] (truthy v))
  | .lst es, nm, x, X, o, h => by
    simp only [mO] at h
    split at h
    · rw [Bool.and_eq_true, decide_eq_true_eq] at h
      exact ⟨s_lst (mEs_ok es o h.1) fun env st vs st' e => by rw [evEs_len e]; exact lim1000 h.2, fun _ _ => rfl⟩
    · cases h
  | .dic kvs, nm, x, X, o, h => by
    simp only [mO] at h
    split at h
    · rename_i ks vs p
      rw [Bool.and_eq_true, decide_eq_true_eq] at h
      obtain ⟨h1, h2⟩ := h
      refine ⟨?_, fun _ _ => rfl⟩
      cases ks with
      | nil =>
        obtain ⟨l1, l2, l3⟩ := mKV_len h1
        have e : kvs = [] := List.eq_nil_of_length_eq_zero (by simpa using l1.symm)
        subst e
        have e2 : vs = [] := List.eq_nil_of_length_eq_zero (by simpa using l2.symm)
        subst e2
        exact s_dic0
      | cons k0 ks0 =>
        obtain ⟨l1, l2, l3⟩ := mKV_len h1
        obtain ⟨trs, t1, t2⟩ := mKV_ok kvs (pos := p) o h1
        refine s_dic t1 t2 l3 l2 (by simp) h2 fun env st r st' e => ?_
        obtain ⟨m1, m2, m3⟩ := evKV_len e
        exact ⟨by omega, m2⟩
    · cases h
  | .dicT, nm, x, X, o, h => by
    simp only [mO] at h
    split at h
    · exact ⟨s_dicT, fun _ _ => rfl⟩
    · cases h
  | .comp elt tg tup it e own, nm, x, X, o, h => by
    simp only [mO] at h
    split at h
    · rename_i xe xt xi ifs sc p
      simp only [Bool.and_eq_true, decide_eq_true_eq] at h
      obtain ⟨⟨⟨⟨⟨⟨⟨⟨h1, h0⟩, h2⟩, h3⟩, h4⟩, h5⟩, h6⟩, h7⟩, h8⟩ := h
      have hi := mI_ok it (tg := xt) o h2 h0
      have hb : BlkOk X.N X.env.scope sc (ownL c.N own) := by
        rw [o.nN]
        exact blkOk_by (blkC_names (sc := X.env.scope) o.nms.symm h4)
      have hk := hb.kind
      have ho := fun (s : Shared) (H : Hp) (Ca : Addr) (cl : List (Str × Addr)) (fp : List Addr) => blk_ok o (s := s) (H := H) (scope := sc) (Ca := Ca) (cl := cl) (fp := fp) hk
      have hg := fun (s : Shared) (H : Hp) (Ca : Addr) (cl : List (Str × Addr)) (fp : List Addr) => tgt_blk (cs := cs) o (s := s) (H := H) (scope := sc) (Ca := Ca) (cl := cl) (fp := fp) hk h6
      refine ⟨?_, fun _ _ => rfl⟩
      have hT : TgOk X.K cs (gTgt X.K tg tup) (fun d e => bindT tg tup d e) tg := (hg X.s_0 X.H_0 0 [] []).2
      have hL := (pe_lc (pos := p) (g := gTgt X.K tg tup) (te := tE X.K cs (evE C elt)) (tt := tB X.K cs fun env st => evC C e env st) o.calm (by rw [o.nN]; exact o.nd) hi hb (fun s H Ca cl fp => (hg s H Ca cl fp).1) (fun s H Ca cl fp => mC_ok e (ho s H Ca cl fp) h7) (fun s H Ca cl fp => mE_ok elt (ho s H Ca cl fp) h8) (nSet_of h1))
      rw [h3] at hL
      refine hL.weak (comp_of hT fun i hi => ?_)
      have := List.all_eq_true.mp h5 i hi
      simpa using this
    · cases h
  | .compP elt tg tup i e own, nm, x, X, o, h => by
    simp only [mO] at h
    split at h
    · rename_i xe xt y py ifs sc p
      simp only [Bool.and_eq_true, decide_eq_true_eq] at h
      obtain ⟨⟨⟨⟨⟨⟨⟨⟨h1, h0⟩, h2⟩, h3⟩, h4⟩, h5⟩, h6⟩, h7⟩, h8⟩ := h
      have hv : mE c (.var i) false nm (.Name y py) = true := by simp only [mE, Bool.and_eq_true, decide_eq_true_eq]; exact ⟨⟨h1, h0⟩, h2⟩
      have he0 : evE C (.var i) = fVar i := by funext env st; rfl
      have hPE := mE_ok (.var i) o hv
      have hi : PI X xt (.Name y py) (tIG X.K cs (fPl i) (gPl i)) := s_pl (by rw [← he0]; exact hPE)
      have hb : BlkOk X.N X.env.scope sc (ownL c.N own) := by
        rw [o.nN]
        exact blkOk_by (blkC_names (sc := X.env.scope) o.nms.symm h4)
      have hk := hb.kind
      have ho := fun (s : Shared) (H : Hp) (Ca : Addr) (cl : List (Str × Addr)) (fp : List Addr) => blk_ok o (s := s) (H := H) (scope := sc) (Ca := Ca) (cl := cl) (fp := fp) hk
      have hg := fun (s : Shared) (H : Hp) (Ca : Addr) (cl : List (Str × Addr)) (fp : List Addr) => tgt_blk (cs := cs) o (s := s) (H := H) (scope := sc) (Ca := Ca) (cl := cl) (fp := fp) hk h6
      refine ⟨?_, fun _ _ => rfl⟩
      have hT : TgOk X.K cs (gTgt X.K tg tup) (fun d e => bindT tg tup d e) tg := (hg X.s_0 X.H_0 0 [] []).2
      have hL := (pe_lc (pos := p) (g := gTgt X.K tg tup) (te := tE X.K cs (evE C elt)) (tt := tB X.K cs fun env st => evC C e env st) o.calm (by rw [o.nN]; exact o.nd) hi hb (fun s H Ca cl fp => (hg s H Ca cl fp).1) (fun s H Ca cl fp => mC_ok e (ho s H Ca cl fp) h7) (fun s H Ca cl fp => mE_ok elt (ho s H Ca cl fp) h8) (nSet_of rfl))
      rw [h3] at hL
      have hev : evO C (.compP elt tg tup i e own) = fCompG (fPl i) (gPl i) own (fun d e => bindT tg tup d e) (fun e' s => evC C e e' s) (fun e s => evE C elt e s) := by
        funext env st
        simp only [evO, fCompG, fPl]
        cases hp : plV env i st with
        | none => rfl
        | some r => simp only [Option.bind_some, Option.map_some, gPl_of hp]
      rw [hev]
      refine hL.weak (comp_ofG hT (fun i hi => ?_) gPl_0)
      have := List.all_eq_true.mp h5 i hi
      simpa using this
    · cases h
  | .compD elt tg tup i e own, nm, x, X, o, h => by
    simp only [mO] at h
    split at h
    · rename_i xe xt y py ifs sc p
      simp only [Bool.and_eq_true, decide_eq_true_eq] at h
      obtain ⟨⟨⟨⟨⟨⟨⟨⟨h1, h0⟩, h2⟩, h3⟩, h4⟩, h5⟩, h6⟩, h7⟩, h8⟩ := h
      have hv : mE c (.var i) false nm (.Name y py) = true := by simp only [mE, Bool.and_eq_true, decide_eq_true_eq]; exact ⟨⟨h1, h0⟩, h2⟩
      have hvar : PE X (.Name y py) (tVar i) := by
        obtain ⟨p1, p2⟩ := plainN_of h2
        exact pe_var (by rw [o.nN]; exact h1) (vis_of o h0) p1 p2
      have hi : PI X xt (.Name y py) fun σ H R => Zk i σ H ∧ tIG X.K cs (fKy i) anyG σ H R := s_ky hvar
      have hb : BlkOk X.N X.env.scope sc (ownL c.N own) := by
        rw [o.nN]
        exact blkOk_by (blkC_names (sc := X.env.scope) o.nms.symm h4)
      have hk := hb.kind
      have ho := fun (s : Shared) (H : Hp) (Ca : Addr) (cl : List (Str × Addr)) (fp : List Addr) => blk_ok o (s := s) (H := H) (scope := sc) (Ca := Ca) (cl := cl) (fp := fp) hk
      have hg := fun (s : Shared) (H : Hp) (Ca : Addr) (cl : List (Str × Addr)) (fp : List Addr) => tgt_blk (cs := cs) o (s := s) (H := H) (scope := sc) (Ca := Ca) (cl := cl) (fp := fp) hk h6
      refine ⟨?_, fun _ _ => rfl⟩
      have hT : TgOk X.K cs (gTgt X.K tg tup) (fun d e => bindT tg tup d e) tg := (hg X.s_0 X.H_0 0 [] []).2
      have hL := (pe_lc (pos := p) (g := gTgt X.K tg tup) (te := tE X.K cs (evE C elt)) (tt := tB X.K cs fun env st => evC C e env st) o.calm (by rw [o.nN]; exact o.nd) hi hb (fun s H Ca cl fp => (hg s H Ca cl fp).1) (fun s H Ca cl fp => mC_ok e (ho s H Ca cl fp) h7) (fun s H Ca cl fp => mE_ok elt (ho s H Ca cl fp) h8) (nSet_of rfl))
      rw [h3] at hL
      have hev : evO C (.compD elt tg tup i e own) = fCompG (fKy i) anyG own (fun d e => bindT tg tup d e) (fun e' s => evC C e e' s) (fun e s => evE C elt e s) := by
        rw [fCompG_any]
        funext env st
        simp only [evO, fComp, fKy]
        cases hp : kyV env i with
        | none => rfl
        | some r => rfl
      rw [hev]
      refine lock_of (i := i) (fun env st o st' ev => ?_) (hL.weak (comp_ofGZ (Z := Zk i) hT (fun i hi => ?_) fun _ _ _ _ _ => trivial))
      · obtain ⟨⟨ds, s1⟩, hfi, _⟩ := obnd ev
        obtain ⟨ds', hk, eds⟩ := omap hfi
        exact ⟨ds', hk⟩
      have := List.all_eq_true.mp h5 i hi
      simpa using this
    · cases h
  | .list a, nm, x, X, o, h => by
    simp only [mO] at h
    split at h
    · simp only [Bool.and_eq_true, decide_eq_true_eq] at h
      obtain ⟨⟨⟨⟨h1, h2⟩, h3⟩, h4⟩, h5⟩ := h
      subst h1
      exact ⟨s_list o.calm (gl_of o h2) (any_fr o h3) (mE_ok a o h5) h4, fun _ _ => rfl⟩
    · cases h
  | .dict a, nm, x, X, o, h => by
    simp only [mO] at h
    split at h
    · simp only [Bool.and_eq_true, decide_eq_true_eq] at h
      obtain ⟨⟨⟨⟨h1, h2⟩, h3⟩, h4⟩, h5⟩ := h
      subst h1
      exact ⟨s_dict o.calm (gl_of o h2) (any_fr o h3) (mE_ok a o h5) h4, fun _ _ => rfl⟩
    · cases h
  | .cut a lo hi, nm, x, X, o, h => by
    simp only [mO] at h
    split at h
    · simp only [Bool.and_eq_true] at h
      exact ⟨s_cut (mE_ok a o h.1.1) (mP_ok lo o h.1.2) (mP_ok hi o h.2), fun _ _ => rfl⟩
    · cases h
  | .cat a b, nm, x, X, o, h => by
    simp only [mO] at h
    split at h
    · simp only [Bool.and_eq_true] at h
      exact ⟨s_cat (mE_ok a o h.1) (mE_ok b o h.2), fun _ _ => rfl⟩
    · cases h
  | .evn a, nm, x, X, o, h => by
    simp only [mO] at h
    split at h
    · simp only [Bool.and_eq_true, decide_eq_true_eq] at h
      obtain ⟨h1, h2⟩ := h
      subst h1
      exact ⟨s_evn (mE_ok a o h2), fun _ _ => rfl⟩
    · cases h
  | .lkeys a, nm, x, X, o, h => by
    simp only [mO] at h
    split at h
    · simp only [Bool.and_eq_true, decide_eq_true_eq] at h
      obtain ⟨⟨⟨⟨h1, h2⟩, h3⟩, h4⟩, h5⟩ := h
      subst h1
      exact ⟨s_lkeys o.calm (gl_of o h2) (any_fr o h3) (mE_ok a o h5) h4, fun _ _ => rfl⟩
    · cases h
  | .lrev a, nm, x, X, o, h => by
    simp only [mO] at h
    split at h
    · simp only [Bool.and_eq_true, decide_eq_true_eq] at h
      obtain ⟨⟨⟨⟨⟨⟨⟨h1, h2⟩, h3⟩, h4⟩, h5⟩, h6⟩, h7⟩, h8⟩ := h
      subst h1 h4
      exact ⟨s_lrev o.calm (gl_of o h2) (any_fr o h3) (gl_of o h5) (any_fr o h6) (mE_ok a o h8) h7, fun _ _ => rfl⟩
    · simp only [Bool.and_eq_true, decide_eq_true_eq] at h
      obtain ⟨h1, h2⟩ := h
      subst h1
      exact ⟨s_revL (mE_ok a o h2), fun _ _ => rfl⟩
    · cases h
  | .rep a b, nm, x, X, o, h => by
    simp only [mO] at h
    split at h
    · simp only [Bool.and_eq_true] at h
      exact ⟨s_rep (mE_ok a o h.1) (mE_ok b o h.2), fun _ _ => rfl⟩
    · cases h
theorem mKV_ok : ∀ (kvs : List E) {nm : Nm} {ks : List (Option Expr)} {vs : List Expr} {pos : Pos} {X : Cx}, XOk c cs C d X nm → mKV c kvs nm ks vs = true → ∃ trs, PPs X pos ks vs trs ∧ tKVok X cs trs (evKV C kvs)
  | [], nm, ks, vs, pos, X, o, h => by
    simp only [mKV, Bool.and_eq_true, List.isEmpty_iff] at h
    obtain ⟨rfl, rfl⟩ := h
    exact ⟨[], pps_nil, kv_nil⟩
  | [_], nm, ks, vs, pos, X, o, h => by simp [mKV] at h
  | k :: v :: r, nm, ks, vs, pos, X, o, h => by
    simp only [mKV] at h
    split at h
    · simp only [Bool.and_eq_true] at h
      obtain ⟨⟨h1, h2⟩, h3⟩ := h
      obtain ⟨trs, t1, t2⟩ := mKV_ok r (pos := pos) o h3
      exact ⟨_, pps_cons (mE_ok k o h1) (mE_ok v o h2) t1, kv_cons t2⟩
    · cases h
theorem mI_ok : ∀ (e : I) {nm : Nm} {x tg : Expr} {X : Cx}, XOk c cs C d X nm → mI c e nm x = true → (!tupI e || isTupE tg) = true → PI X tg x (tI X.K cs (evI C e))
  | .e a, nm, x, tg, X, o, h, _ => by
    simp only [mI] at h
    exact s_it (mE_ok a o h)
  | .rng es, nm, x, tg, X, o, h, _ => by
    simp only [mI] at h
    split at h
    · rename_i y py xs p
      simp only [Bool.and_eq_true, decide_eq_true_eq] at h
      obtain ⟨⟨⟨⟨h1, h2⟩, h3⟩, h4⟩, h5⟩ := h
      subst h1
      obtain ⟨hs, hl⟩ := mEs_star h4
      have hes := mEs_ok es o h4
      split at h5
      · simp only [List.all_cons, Bool.and_eq_true] at hs
        exact s_rng1 (gl_of o h2) (any_fr o h3) hes hs.1 fun env st vs st' e => by rw [evEs_len e, ← hl]; rfl
      · simp only [List.all_cons, Bool.and_eq_true] at hs
        exact s_rng2 (gl_of o h2) (any_fr o h3) hes hs.1 hs.2.1 fun env st vs st' e => by rw [evEs_len e, ← hl]; rfl
      · simp only [List.all_cons, Bool.and_eq_true] at hs
        exact s_rng3 (gl_of o h2) (any_fr o h3) hes hs.1 hs.2.1 hs.2.2.1 fun env st vs st' e => by rw [evEs_len e, ← hl]; rfl
      · cases h5
    · cases h
  | .enum a, nm, x, tg, X, o, h, ht => by
    simp only [mI] at h
    split at h
    · simp only [Bool.and_eq_true, decide_eq_true_eq] at h
      obtain ⟨⟨⟨⟨h1, h2⟩, h3⟩, h4⟩, h5⟩ := h
      subst h1
      cases tg <;> first | (exfalso; revert ht; simp [tupI, isTupE]; done) | skip
      exact s_enum (gl_of o h2) (any_fr o h3) (mE_ok a o h5) h4
    · cases h
  | .zip a b, nm, x, tg, X, o, h, ht => by
    simp only [mI] at h
    split at h
    · simp only [Bool.and_eq_true, decide_eq_true_eq] at h
      obtain ⟨⟨⟨⟨⟨⟨h1, h2⟩, h3⟩, h4⟩, h5⟩, h6⟩, h7⟩ := h
      subst h1
      cases tg <;> first | (exfalso; revert ht; simp [tupI, isTupE]; done) | skip
      exact s_zip (gl_of o h2) (any_fr o h3) (mE_ok a o h6) (mE_ok b o h7) h4 h5
    · cases h
  | .rev a, nm, x, tg, X, o, h, _ => by simp [mI] at h
  | .revr [], nm, x, tg, X, o, h, _ => by
    simp only [mI] at h
    split at h
    · simp at h
    · cases h
  | .revr [a], nm, x, tg, X, o, h, _ => by
    simp only [mI] at h
    split at h
    · simp only [Bool.and_eq_true, decide_eq_true_eq] at h
      obtain ⟨⟨⟨⟨⟨⟨⟨h1, h2⟩, h3⟩, h4⟩, h5⟩, h6⟩, h7⟩, h8⟩ := h
      subst h1 h4
      have e : evI C (.revr [a]) = fRevr fun env st => (evE C a env st).bind fun r => some ([r.1], r.2) := by
        funext env st
        simp only [evI, fRevr, evEs, Option.map_some]
      rw [e]
      exact s_revr1 (gl_of o h2) (any_fr o h3) (gl_of o h5) (any_fr o h6) (mE_ok a o h8) h7
    · cases h
  | .revr (_ :: _ :: _), nm, x, tg, X, o, h, _ => by
    simp only [mI] at h
    split at h
    · simp at h
    · cases h
end
end
end NK
set_option Elab.async false
set_option linter.all false
set_option autoImplicit false
set_option maxRecDepth 100000
namespace NK
open PySem PySem.Spec PyProof.Rows L2
def nComp : Expr → Bool
  | .ListComp _ _ _ _ => false
  | .SetComp _ _ _ _ => false
  | .DictComp _ _ _ _ _ => false
  | _ => true
def nTup : Expr → Bool
  | .Tuple _ _ _ => false
  | _ => true
def isComp : E → Bool
  | .fz (.comp _ _ _ _ _ _) => true
  | .new (.comp _ _ _ _ _ _) => true
  | .fz (.compP _ _ _ _ _ _) => true
  | .new (.compP _ _ _ _ _ _) => true
  | _ => false
def swB (nm : Nm) (y : Str) (py : Pos) : Expr → Bool
  | .ListComp _ _ sc p => decide (nm.lookup y = some .local) && (py.line == p.line) && !(sc.names.any fun (n, k) => n == y && (k == .local || k == .cell))
  | _ => false
def nSw (nm : Nm) (y : Str) (x : Expr) : Bool := nComp x || decide (nm.lookup y = some .cell)
def parB (nm : Nm) (x y : Str) (px py : Pos) (xa xb : Expr) : Bool :=
  decide (nm.lookup x = some .local) && decide (nm.lookup y = some .local) && decide (px.line = py.line) && decide (x ≠ y) && nStar xa && nStar xb && !([xa, xb].all (foldedForSure 8)) && !([xa, xb].all (constantsAlone 8))
def isRaise : Stmt → Bool
  | .Raise _ _ _ => true
  | _ => false
mutual
def mS (c : MC) : St → Nm → Stmt → Bool
  | .set i e, nm, s => match s with
    | .Assign [.Name y py] x p => decide (c.N[i]? = some y) && locB nm y && mE c e false nm x && (nSw nm y x || (isComp e && swB nm y py x))
    | _ => false
  | .setT is e, nm, s => match s with
    | .Assign [.Tuple ts k pt] x p => tgB c.N nm is ts && mE c e false nm x && nComp x && nTup x
    | _ => false
  | .setU is e, nm, s => match s with
    | .Assign [.Tuple ts k pt] x p => tgB c.N nm is ts && mE c e false nm x && nComp x && nTup x
    | _ => false
  | .par i j a b, nm, s => match s with
    | .Assign [.Tuple [.Name x px, .Name y py] k pt] (.Tuple [xa, xb] k2 pt2) p => decide (c.N[i]? = some x) && decide (c.N[j]? = some y) && decide (i ≠ j) && parB nm x y px py xa xb && mE c a false nm xa && mE c b false nm xb
    | _ => false
  | .sub o k v, nm, s => match s with
    | .Assign [.Subscript xo xk pt] xv p => nSlice xk && nComp xv && mE c o false nm xo && mE c k false nm xk && mE c v false nm xv
    | _ => false
  | .aug i o e, nm, s => match s with
    | .AugAssign (.Name y py) op x p => decide (c.N[i]? = some y) && locB nm y && decide (op = opB o) && mE c e false nm x
    | _ => false
  | .ext i e, nm, s => match s with
    | .AugAssign (.Name y py) .Add x p => decide (c.N[i]? = some y) && locB nm y && mE c e false nm x
    | _ => false
  | .expr e, nm, s => match s with
    | .Expr x p => nComp x && mE c e false nm x
    | _ => false
  | .ifS e a b, nm, s => match s with
    | .If x xs ys p => mE c e true nm x && mSs c a nm xs && mSs c b nm ys
    | _ => false
  | .wh e b, nm, s => match s with
    | .While x xs [] p => mE c e true nm x && mSs c b nm xs
    | _ => false
  | .forS tg tup it b, nm, s => match s with
    | .For t x xs [] p => tgtB c.N nm tg tup t && nSet x && (!tupI it || isTupE t) && mI c it nm x && mSs c b nm xs
    | _ => false
  | .forP tg tup i b, nm, s => match s with
    | .For t (.Name y py) xs [] p => tgtB c.N nm tg tup t && decide (c.N[i]? = some y) && visB nm y && plainN y && mSs c b nm xs
    | _ => false
  | .forD tg tup i b, nm, s => match s with
    | .For t (.Name y py) xs [] p => tgtB c.N nm tg tup t && decide (c.N[i]? = some y) && visB nm y && plainN y && mSs c b nm xs
    | _ => false
  | .forK tg tup i j k b, nm, s => match s with
    | .For t (.Subscript (.Subscript (.Name y _) (.Name z _) _) (.Constant (.int n) _ _) _) xs [] p => tgtB c.N nm tg tup t && decide (c.N[i]? = some y) && visB nm y && plainN y && decide (c.N[j]? = some z) && visB nm z && plainN z && decide (n = (k : Int)) && mSs c b nm xs
    | _ => false
  | .ret e, nm, s => match s with
    | .Return (some x) p => mE c e false nm x
    | _ => false
  | .retN, nm, s => match s with
    | .Return none p => true
    | _ => false
  | .pass, nm, s => match s with
    | .Pass p => true
    | _ => false
  | .nev, nm, s => isRaise s
  | .frz i, nm, s => false
  | .setA k o w v, nm, s => match s with
    | .Assign [.Attribute xo f pt] xv p => decide (f = S w) && nComp xv && mE c o false nm xo && mE c v false nm xv && atB c k w
    | _ => false
  | .augA k o w op v, nm, s => match s with
    | .AugAssign (.Attribute xo f pt) op' xv p => decide (f = S w) && decide (op' = opB op) && mE c o false nm xo && mE c v false nm xv && atB c k w
    | _ => false
def mSs (c : MC) : List St → Nm → List Stmt → Bool
  | [], nm, xs => match xs with
    | [] => true
    | _ => false
  | s :: ss, nm, xs => match s with
    | .frz i => mSs c ss nm xs
    | _ => match xs with
      | x :: xs => mS c s nm x && mSs c ss nm xs
      | [] => false
end
structure SOk (c : MC) (cs : Nat → Option Addr) (C : Calls) (d : Nat) (X : Cx) (nm : Nm) : Prop extends XOk c cs C d X nm where
  fn : ∀ y, X.fn y = true
  ps : PassesOwn (model X.prog X.w) X.A X.env X.xe
section
variable {c : MC} {cs : Nat → Option Addr} {C : Calls} {d : Nat} {X : Cx} {nm : Nm}
theorem sw_of {x : Expr} {t : Option Expr} {l : Nat} {env : PySem.Env} (h : nComp x = true) : swapsWith x t l env = pure false := by
  cases x <;> first | rfl | simp [nComp] at h
theorem swN_of (o : XOk c cs C d X nm) {x : Expr} {y : Str} {py : Pos} {l : Nat} (h : nSw nm y x = true) : swapsWith x (some (.Name y py)) l X.env = pure false := by
  unfold nSw at h
  rw [Bool.or_eq_true, decide_eq_true_eq] at h
  rcases h with h | h
  · exact sw_of h
  · have k : X.env.kindOf y = some .cell := by unfold Env.kindOf; rw [o.nms]; exact h
    have k2 : (X.env.kindOf y == some NameKind.local) = false := by rw [k]; rfl
    cases x <;> first | rfl | (unfold swapsWith; simp only [k2, Bool.and_false, Bool.false_and] <;> rfl)
theorem swS_of {x t : Expr} {l : Nat} {env : PySem.Env} (h : nComp x = true) : swapsWithSole [t] x l env = pure false := sw_of h
theorem stores_of {x t : Expr} {env : PySem.Env} (h : nTup x = true) : swappedStores [t] x env = pure none := by
  cases t <;> cases x <;> first | rfl | simp [nTup] at h
theorem stores_sub {x o k : Expr} {p : Pos} {env : PySem.Env} : swappedStores [.Subscript o k p] x env = pure none := by
  cases x <;> rfl
theorem par_stores (o : XOk c cs C d X nm) {x y : Str} {px py pt p2 : Pos} {k k2 : Nat} {xa xb : Expr} (h : parB nm x y px py xa xb = true) : swappedStores [.Tuple [.Name x px, .Name y py] k pt] (.Tuple [xa, xb] k2 p2) X.env = pure (some [x, y]) := by
  unfold parB at h
  simp only [Bool.and_eq_true, decide_eq_true_eq, Bool.not_eq_true'] at h
  obtain ⟨⟨⟨⟨⟨⟨⟨h1, h2⟩, h3⟩, h4⟩, h5⟩, h6⟩, h7⟩, h8⟩ := h
  have kx : X.env.kindOf x = some .local := by unfold Env.kindOf; rw [o.nms]; exact h1
  have ky : X.env.kindOf y = some .local := by unfold Env.kindOf; rw [o.nms]; exact h2
  have bk : X.env.blockKind = .function := by unfold Env.blockKind; rw [o.knd]; rfl
  have st : ([xa, xb].any fun | .Starred .. => true | _ => false) = false := by
    cases xa <;> cases xb <;> first | rfl | simp [nStar] at h5 h6
  have xy : (x == y) = false := by simpa using h4
  have er : (List.eraseDups [x, y]).length = 2 := by
    have hyx : (y == x) = false := by simpa using Ne.symm h4
    simp [List.eraseDups_cons, xy, hyx]
  unfold swappedStores
  have e1 : (px.line == px.line) = true := by simp
  simp [bk, st, kx, ky, h3, h7, h8, e1, Expr.pos, er]
  intro hh
  exfalso
  rcases hh with hh | hh
  · cases xa <;> first | exact Bool.false_ne_true hh | exact Bool.false_ne_true h5
  · cases xb <;> first | exact Bool.false_ne_true hh | exact Bool.false_ne_true h6
theorem loc_st (o : SOk c cs C d X nm) {y : Str} (h : locB nm y = true) : L2.Loc X.env.scope y := by
  have := o.nms
  subst this
  exact loc_of h
theorem s_setLc (o : SOk c cs C d X nm) {e : O} {f : Env → Sto → Option (Val × Sto)} {i : Nat} {y : Str} {py p : Pos} {x : Expr} (w : ∀ σ H Q, tE X.K cs f σ H Q → tO X.K cs (evO C e) σ H Q) (he : ∃ elt tg tup it cc own, e = .comp elt tg tup it cc own) (hm : mO c e nm x = true) (hi : c.N[i]? = some y) (hs : swB nm y py x = true) :
    PS X (.Assign [.Name y py] x p) (tS X.K cs (fSet i f)) := by
  obtain ⟨elt, tg, tup, it, e, own, rfl⟩ := he
  simp only [mO] at hm
  split at hm
  · rename_i xe xt xi ifs sc p'
    simp only [Bool.and_eq_true, decide_eq_true_eq] at hm
    obtain ⟨⟨⟨⟨⟨⟨⟨⟨h1, h0⟩, h2⟩, h3⟩, h4⟩, h5⟩, h6⟩, h7⟩, h8⟩ := hm
    simp only [swB, Bool.and_eq_true, decide_eq_true_eq, Bool.not_eq_true'] at hs
    obtain ⟨⟨g1, g2⟩, g3⟩ := hs
    have o' := o.toXOk
    have hi' := mI_ok it (tg := xt) o' h2 h0
    have hb : BlkOk X.N X.env.scope sc (ownL c.N own) := by
      rw [o.nN]
      exact blkOk_by (blkC_names (sc := X.env.scope) o.nms.symm h4)
    have hk := hb.kind
    have ho := fun (s : Shared) (H : Hp) (Ca : Addr) (cl : List (Str × Addr)) (fp : List Addr) => blk_ok o' (s := s) (H := H) (scope := sc) (Ca := Ca) (cl := cl) (fp := fp) hk
    have hg := fun (s : Shared) (H : Hp) (Ca : Addr) (cl : List (Str × Addr)) (fp : List Addr) => tgt_blk (cs := cs) o' (s := s) (H := H) (scope := sc) (Ca := Ca) (cl := cl) (fp := fp) hk h6
    have hT : TgOk X.K cs (gTgt X.K tg tup) (fun d e => bindT tg tup d e) tg := (hg X.s_0 X.H_0 0 [] []).2
    have hL := (ps_setLc (i := i) (y := y) (py := py) (spos := p) (pos := p') (g := gTgt X.K tg tup) (te := tE X.K cs (evE C elt)) (tt := tB X.K cs fun env st => evC C e env st) o.calm (by rw [o.nN]; exact o.nd) (by rw [o.nN]; exact hi) (by rw [o.nms]; exact g1)
      (sw_true o.knd (by rw [o.nms]; exact g1) g2 g3) hi' hb (fun s H Ca cl fp => (hg s H Ca cl fp).1) (fun s H Ca cl fp => mC_ok e (ho s H Ca cl fp) h7) (fun s H Ca cl fp => mE_ok elt (ho s H Ca cl fp) h8) (nSet_of h1))
    rw [h3] at hL
    refine hL.weak fun D σ H hw => ?_
    have h9 := set_of (X := X) (i := i) D σ H hw
    refine comp_of hT (fun i hi => ?_) σ H _ (w σ H _ h9)
    have := List.all_eq_true.mp h5 i hi
    simpa using this
  · cases hm
theorem s_setLcP (o : SOk c cs C d X nm) {e : O} {f : Env → Sto → Option (Val × Sto)} {i : Nat} {y : Str} {py p : Pos} {x : Expr} (w : ∀ σ H Q, tE X.K cs f σ H Q → tO X.K cs (evO C e) σ H Q) (he : ∃ elt tg tup j cc own, e = .compP elt tg tup j cc own) (hm : mO c e nm x = true) (hi : c.N[i]? = some y) (hs : swB nm y py x = true) :
    PS X (.Assign [.Name y py] x p) (tS X.K cs (fSet i f)) := by
  obtain ⟨elt, tg, tup, j, e, own, rfl⟩ := he
  simp only [mO] at hm
  split at hm
  · rename_i xe xt z pz ifs sc p'
    simp only [Bool.and_eq_true, decide_eq_true_eq] at hm
    obtain ⟨⟨⟨⟨⟨⟨⟨⟨h1, h0⟩, h2⟩, h3⟩, h4⟩, h5⟩, h6⟩, h7⟩, h8⟩ := hm
    simp only [swB, Bool.and_eq_true, decide_eq_true_eq, Bool.not_eq_true'] at hs
    obtain ⟨⟨g1, g2⟩, g3⟩ := hs
    have o' := o.toXOk
    have hv : mE c (.var j) false nm (.Name z pz) = true := by simp only [mE, Bool.and_eq_true, decide_eq_true_eq]; exact ⟨⟨h1, h0⟩, h2⟩
    have he0 : evE C (.var j) = fVar j := by funext env st; rfl
    have hPE := mE_ok (.var j) o' hv
    have hi' : PI X xt (.Name z pz) (tIG X.K cs (fPl j) (gPl j)) := s_pl (by rw [← he0]; exact hPE)
    have hb : BlkOk X.N X.env.scope sc (ownL c.N own) := by
      rw [o.nN]
      exact blkOk_by (blkC_names (sc := X.env.scope) o.nms.symm h4)
    have hk := hb.kind
    have ho := fun (s : Shared) (H : Hp) (Ca : Addr) (cl : List (Str × Addr)) (fp : List Addr) => blk_ok o' (s := s) (H := H) (scope := sc) (Ca := Ca) (cl := cl) (fp := fp) hk
    have hg := fun (s : Shared) (H : Hp) (Ca : Addr) (cl : List (Str × Addr)) (fp : List Addr) => tgt_blk (cs := cs) o' (s := s) (H := H) (scope := sc) (Ca := Ca) (cl := cl) (fp := fp) hk h6
    have hT : TgOk X.K cs (gTgt X.K tg tup) (fun d e => bindT tg tup d e) tg := (hg X.s_0 X.H_0 0 [] []).2
    have hL := (ps_setLc (i := i) (y := y) (py := py) (spos := p) (pos := p') (g := gTgt X.K tg tup) (te := tE X.K cs (evE C elt)) (tt := tB X.K cs fun env st => evC C e env st) o.calm (by rw [o.nN]; exact o.nd) (by rw [o.nN]; exact hi) (by rw [o.nms]; exact g1)
      (sw_true o.knd (by rw [o.nms]; exact g1) g2 g3) hi' hb (fun s H Ca cl fp => (hg s H Ca cl fp).1) (fun s H Ca cl fp => mC_ok e (ho s H Ca cl fp) h7) (fun s H Ca cl fp => mE_ok elt (ho s H Ca cl fp) h8) (nSet_of rfl))
    rw [h3] at hL
    have hev : evO C (.compP elt tg tup j e own) = fCompG (fPl j) (gPl j) own (fun d e => bindT tg tup d e) (fun e' s => evC C e e' s) (fun e s => evE C elt e s) := by
      funext env st
      simp only [evO, fCompG, fPl]
      cases hp : plV env j st with
      | none => rfl
      | some r => simp only [Option.bind_some, Option.map_some, gPl_of hp]
    rw [hev] at w
    refine hL.weak fun D σ H hw => ?_
    have h9 := set_of (X := X) (i := i) D σ H hw
    refine comp_ofG hT (fun i hi => ?_) gPl_0 σ H _ (w σ H _ h9)
    have := List.all_eq_true.mp h5 i hi
    simpa using this
  · cases hm
set_option maxHeartbeats 1000000 in
mutual
theorem mS_ok : ∀ (s : St) {x : Stmt}, SOk c cs C d X nm → mS c s nm x = true → PS X x (tS X.K cs (evS C s))
  | .set i e, x, o, h => by
    simp only [mS] at h
    split at h
    · simp only [Bool.and_eq_true, Bool.or_eq_true, decide_eq_true_eq] at h
      obtain ⟨⟨⟨h1, h2⟩, h3⟩, h4⟩ := h
      rcases h4 with h4 | ⟨h4, h5⟩
      · exact s_set (by rw [o.nN]; exact o.nd) (by rw [o.nN]; exact h1) (loc_st o h2) (mE_ok e o.toXOk h3) (swN_of o.toXOk h4) (.inl (o.fn _))
      · cases e with
        | fz e =>
          simp only [mE] at h3
          have he : (∃ elt tg tup it cc own, e = .comp elt tg tup it cc own) ∨ ∃ elt tg tup j cc own, e = .compP elt tg tup j cc own := by
            cases e <;> first | exact .inl ⟨_, _, _, _, _, _, rfl⟩ | exact .inr ⟨_, _, _, _, _, _, rfl⟩ | simp [isComp] at h4
          rcases he with he | he
          · exact s_setLc o fz_of he h3 h1 h5
          · exact s_setLcP o fz_of he h3 h1 h5
        | new e =>
          simp only [mE] at h3
          have he : (∃ elt tg tup it cc own, e = .comp elt tg tup it cc own) ∨ ∃ elt tg tup j cc own, e = .compP elt tg tup j cc own := by
            cases e <;> first | exact .inl ⟨_, _, _, _, _, _, rfl⟩ | exact .inr ⟨_, _, _, _, _, _, rfl⟩ | simp [isComp] at h4
          rcases he with he | he
          · exact s_setLc o new_of he h3 h1 h5
          · exact s_setLcP o new_of he h3 h1 h5
        | _ => simp [isComp] at h4
    · cases h
  | .setT is e, x, o, h => by
    simp only [mS] at h
    split at h
    · simp only [Bool.and_eq_true] at h
      obtain ⟨⟨⟨h1, h2⟩, h3⟩, h4⟩ := h
      have hN : X.N.Nodup := by rw [o.nN]; exact o.nd
      obtain ⟨a, b, e'⟩ := tgB_ok (X := X) (nm := nm) hN (fun y e => by rw [o.nms]; exact e) (fun y e => ⟨by rw [o.nms]; exact e, o.fn y⟩) (by rw [o.nN]; exact h1)
      exact s_unp (mE_ok e o.toXOk h2) (pg_tl o.calm a b e') (swS_of h3) (stores_of h4)
    · cases h
  | .setU is e, x, o, h => by
    simp only [mS] at h
    split at h
    · simp only [Bool.and_eq_true] at h
      obtain ⟨⟨⟨h1, h2⟩, h3⟩, h4⟩ := h
      have hN : X.N.Nodup := by rw [o.nN]; exact o.nd
      obtain ⟨a, b, e'⟩ := tgB_ok (X := X) (nm := nm) hN (fun y e => by rw [o.nms]; exact e) (fun y e => ⟨by rw [o.nms]; exact e, o.fn y⟩) (by rw [o.nN]; exact h1)
      exact s_unV (mE_ok e o.toXOk h2) (pg_tl o.calm a b e') (swS_of h3) (stores_of h4)
    · cases h
  | .par i j a b, x, o, h => by
    simp only [mS] at h
    split at h
    · simp only [Bool.and_eq_true, decide_eq_true_eq] at h
      obtain ⟨⟨⟨⟨⟨h1, h2⟩, h3⟩, h4⟩, h5⟩, h6⟩ := h
      have hp := h4
      unfold parB at hp
      simp only [Bool.and_eq_true, decide_eq_true_eq, Bool.not_eq_true'] at hp
      obtain ⟨⟨⟨⟨⟨⟨⟨g1, g2⟩, g3⟩, g4⟩, g5⟩, g6⟩, g7⟩, g8⟩ := hp
      exact s_par o.calm (by rw [o.nN]; exact o.nd) (by rw [o.nN]; exact h1) (by rw [o.nN]; exact h2) h3 (by rw [o.nms]; exact g1) (by rw [o.nms]; exact g2) (mE_ok a o.toXOk h5) (mE_ok b o.toXOk h6) g5 g6 (par_stores o.toXOk h4)
    · cases h
  | .sub e k v, x, o, h => by
    simp only [mS] at h
    split at h
    · simp only [Bool.and_eq_true] at h
      obtain ⟨⟨⟨⟨h1, h2⟩, h3⟩, h4⟩, h5⟩ := h
      exact s_sub o.un (mE_ok e o.toXOk h3) (mE_ok k o.toXOk h4) (mE_ok v o.toXOk h5) h1 (sw_of h2) stores_sub
    · cases h
  | .aug i op e, x, o, h => by
    simp only [mS] at h
    split at h
    · simp only [Bool.and_eq_true, decide_eq_true_eq] at h
      obtain ⟨⟨⟨h1, h2⟩, h3⟩, h4⟩ := h
      subst h3
      exact s_aug (by rw [o.nN]; exact o.nd) (by rw [o.nN]; exact h1) (loc_st o h2) (mE_ok e o.toXOk h4) (.inl (o.fn _))
    · cases h
  | .ext i e, x, o, h => by
    simp only [mS] at h
    split at h
    · simp only [Bool.and_eq_true, decide_eq_true_eq] at h
      obtain ⟨⟨h1, h2⟩, h4⟩ := h
      exact s_ext (by rw [o.nN]; exact o.nd) (by rw [o.nN]; exact h1) (loc_st o h2) (mE_ok e o.toXOk h4) (.inl (o.fn _))
    · cases h
  | .expr e, x, o, h => by
    simp only [mS] at h
    split at h
    · simp only [Bool.and_eq_true] at h
      exact s_expr (mE_ok e o.toXOk h.2) (sw_of h.1)
    · cases h
  | .ifS e a b, x, o, h => by
    simp only [mS] at h
    split at h
    · simp only [Bool.and_eq_true] at h
      exact s_if (mE_ok e o.toXOk h.1.1) (mSs_ok a o h.1.2) (mSs_ok b o h.2)
    · cases h
  | .wh e b, x, o, h => by
    simp only [mS] at h
    split at h
    · simp only [Bool.and_eq_true] at h
      exact s_while o.ps (mE_ok e o.toXOk h.1) (mSs_ok b o h.2)
    · cases h
  | .forS tg tup it b, x, o, h => by
    simp only [mS] at h
    split at h
    · simp only [Bool.and_eq_true] at h
      obtain ⟨⟨⟨⟨h1, h2⟩, h0⟩, h3⟩, h4⟩ := h
      have hN : X.N.Nodup := by rw [o.nN]; exact o.nd
      obtain ⟨g1, g2⟩ := tgt_ok2 (X := X) (cs := cs) (nm := nm) hN o.calm (fun y e => by rw [o.nms]; exact e) (fun y e => ⟨by rw [o.nms]; exact e, o.fn y⟩) (by rw [o.nN]; exact h1)
      exact s_for o.ps o.calm (mI_ok it o.toXOk h3 h0) g1 g2 (mSs_ok b o h4) (nSet_of h2)
    · cases h
  | .forP tg tup i b, x, o, h => by
    simp only [mS] at h
    split at h
    · rename_i t y py xs p
      simp only [Bool.and_eq_true, decide_eq_true_eq] at h
      obtain ⟨⟨⟨⟨h1, h2⟩, h0⟩, h3⟩, h4⟩ := h
      have hN : X.N.Nodup := by rw [o.nN]; exact o.nd
      obtain ⟨g1, g2⟩ := tgt_ok2 (X := X) (cs := cs) (nm := nm) hN o.calm (fun y e => by rw [o.nms]; exact e) (fun y e => ⟨by rw [o.nms]; exact e, o.fn y⟩) (by rw [o.nN]; exact h1)
      have hv : mE c (.var i) false nm (.Name y py) = true := by simp only [mE, Bool.and_eq_true, decide_eq_true_eq]; exact ⟨⟨h2, h0⟩, h3⟩
      have he0 : evE C (.var i) = fVar i := by funext env st; rfl
      have hPE := mE_ok (.var i) o.toXOk hv
      have hi : PI X t (.Name y py) (tIG X.K cs (fPl i) (gPl i)) := s_pl (by rw [← he0]; exact hPE)
      have hev : evS C (.forP tg tup i b) = fForG (fPl i) (gPl i) (fun d e => bindT tg tup d e) (fun e s => evSs C b e s) := by
        funext env st
        simp only [evS, fForG, fPl]
        cases hp : plV env i st with
        | none => rfl
        | some r => simp only [Option.bind_some, Option.map_some, gPl_of hp]
      rw [hev]
      exact s_forG o.ps o.calm hi g1 g2 (mSs_ok b o h4) (nSet_of rfl) gPl_0
    · cases h
  | .forD tg tup i b, x, o, h => by
    simp only [mS] at h
    split at h
    · rename_i t y py xs p
      simp only [Bool.and_eq_true, decide_eq_true_eq] at h
      obtain ⟨⟨⟨⟨h1, h2⟩, h0⟩, h3⟩, h4⟩ := h
      have hN : X.N.Nodup := by rw [o.nN]; exact o.nd
      obtain ⟨g1, g2⟩ := tgt_ok2 (X := X) (cs := cs) (nm := nm) hN o.calm (fun y e => by rw [o.nms]; exact e) (fun y e => ⟨by rw [o.nms]; exact e, o.fn y⟩) (by rw [o.nN]; exact h1)
      have hvar : PE X (.Name y py) (tVar i) := by
        obtain ⟨p1, p2⟩ := plainN_of h3
        exact pe_var (by rw [o.nN]; exact h2) (vis_of o.toXOk h0) p1 p2
      have hev : evS C (.forD tg tup i b) = fFor (fKy i) (fun d e => bindT tg tup d e) (fun e s => evSs C b e s) := by
        funext env st
        simp only [evS, fFor, fKy]
        cases hp : kyV env i with
        | none => rfl
        | some r => rfl
      rw [hev]
      exact s_forD o.ps o.calm hvar g1 g2 (mSs_ok b o h4) (nSet_of rfl)
    · cases h
  | .forK tg tup i j k b, x, o, h => by
    simp only [mS] at h
    split at h
    · rename_i t y py z pz p1 n k0 pk p2 xs p
      simp only [Bool.and_eq_true, decide_eq_true_eq] at h
      obtain ⟨⟨⟨⟨⟨⟨⟨⟨h1, h2⟩, h0⟩, h3⟩, j2⟩, j0⟩, j3⟩, hn⟩, h4⟩ := h
      subst hn
      have hN : X.N.Nodup := by rw [o.nN]; exact o.nd
      obtain ⟨g1, g2⟩ := tgt_ok2 (X := X) (cs := cs) (nm := nm) hN o.calm (fun y e => by rw [o.nms]; exact e) (fun y e => ⟨by rw [o.nms]; exact e, o.fn y⟩) (by rw [o.nN]; exact h1)
      have hvar : PE X (.Name y py) (tVar i) := by
        obtain ⟨p1, p2⟩ := plainN_of h3
        exact pe_var (by rw [o.nN]; exact h2) (vis_of o.toXOk h0) p1 p2
      have hvar2 : PE X (.Name z pz) (tVar j) := by
        obtain ⟨p1, p2⟩ := plainN_of j3
        exact pe_var (by rw [o.nN]; exact j2) (vis_of o.toXOk j0) p1 p2
      have hev : evS C (.forK tg tup i j k b) = fFor (fLo (kyP i j k)) (fun d e => bindT tg tup d e) (fun e s => evSs C b e s) := by
        funext env st
        simp only [evS, fFor, fLo]
        cases hp : kyP i j k env with
        | none => rfl
        | some r => rfl
      rw [hev]
      exact s_forW o.ps o.calm (locd_pt (by have := o.un; omega) hvar hvar2) g1 g2 (mSs_ok b o h4) (nSet_of rfl)
    · cases h
  | .ret e, x, o, h => by
    simp only [mS] at h
    split at h
    · exact s_ret (mE_ok e o.toXOk h)
    · cases h
  | .retN, x, o, h => by
    simp only [mS] at h
    split at h
    · exact s_retN
    · cases h
  | .pass, x, o, h => by
    simp only [mS] at h
    split at h
    · exact s_pass
    · cases h
  | .nev, x, o, h => s_nev
  | .frz i, x, o, h => by
    simp [mS] at h
  | .setA k e w v, x, o, h => by
    simp only [mS] at h
    split at h
    · simp only [Bool.and_eq_true, decide_eq_true_eq] at h
      obtain ⟨⟨⟨⟨h1, h2⟩, h3⟩, h4⟩, h5⟩ := h
      subst h1
      obtain ⟨Ca, g1, g2, g3⟩ := at_of o.toXOk h5
      have hev : evS C (.setA k e w v) = fSetA k (evE C e) w (evE C v) := by funext env st; simp only [evS, fSetA]
      rw [hev]
      exact s_setA g1 g2 g3 (mE_ok e o.toXOk h3) (mE_ok v o.toXOk h4) (sw_of h2)
    · cases h
  | .augA k e w op v, x, o, h => by
    simp only [mS] at h
    split at h
    · simp only [Bool.and_eq_true, decide_eq_true_eq] at h
      obtain ⟨⟨⟨⟨h1, h2⟩, h3⟩, h4⟩, h5⟩ := h
      subst h1
      subst h2
      obtain ⟨Ca, g1, g2, g3⟩ := at_of o.toXOk h5
      have hev : evS C (.augA k e w op v) = fAugA k (evE C e) w op (evE C v) := by funext env st; simp only [evS, fAugA]
      rw [hev]
      exact s_augA g1 g2 g3 (mE_ok e o.toXOk h3) (mE_ok v o.toXOk h4)
    · cases h
theorem mSs_ok : ∀ (ss : List St) {xs : List Stmt}, SOk c cs C d X nm → mSs c ss nm xs = true → PSs X xs (tS X.K cs (evSs C ss))
  | [], xs, o, h => by
    simp only [mSs] at h
    split at h
    · exact ss_nil
    · cases h
  | s :: ss, xs, o, h => by
    simp only [mSs] at h
    split at h
    · exact ss_frz (mSs_ok ss o h)
    · split at h
      · simp only [Bool.and_eq_true] at h
        exact ss_cons (mS_ok s o h.1) (mSs_ok ss o h.2)
      · cases h
end
end
end NK
set_option Elab.async false
set_option linter.all false
set_option autoImplicit false
set_option maxRecDepth 100000
namespace L2
open PySem PySem.Spec PyProof.Rows
theorem PS.or {X : Cx} {st : Stmt} {t u : TS} (h1 : PS X st t) (h2 : PS X st u) : PS X st (fun D σ H => t D σ H ∨ u D σ H) := ⟨fun pins s σ H D I q => q.elim (fun q => h1.run pins s σ H D I q) fun q => h2.run pins s σ H D I q⟩
theorem PSs.or {X : Cx} {st : List Stmt} {t u : TS} (h1 : PSs X st t) (h2 : PSs X st u) : PSs X st (fun D σ H => t D σ H ∨ u D σ H) := ⟨fun pins s σ H D I q => q.elim (fun q => h1.run pins s σ H D I q) fun q => h2.run pins s σ H D I q⟩
section
variable {X : Cx} {pins : List (Addr × Obj)} {σ : St} {H : Hp} {s : Shared}
theorem Inv.suiteT (I : Inv X pins σ H s) {a : Addr} : Inv (X.suite a (X.pn ++ pins)) [] σ H s :=
  ⟨I.ok.suite _ _, I.os, I.bare, I.base, I.loc, I.cell, I.free, I.freeC, fun p hp => I.pin p (by rw [List.append_nil] at hp; exact hp), I.hok, I.len⟩
theorem Inv.unsuiteT {a : Addr} {pn' : List (Addr × Obj)} (I : Inv (X.suite a (X.pn ++ pins)) pn' σ H s) (ok : X.Ok) : Inv X pins σ H s :=
  ⟨ok, I.os, I.bare, I.base, I.loc, I.cell, I.free, I.freeC, fun p hp => I.pin p (List.mem_append_left _ hp), I.hok, I.len⟩
end
def wKp (K : PySem.W.Frag) (c : Value) (i : Nat) (ts : TS) (D : Ends) : WX := fun cls d σ H =>
  ∃ C, cls = .ref C ∧ PySem.W.exmOne K cls c = some true ∧ ∀ a, H a = none → i < σ.length → ts { nx := fun σ' H' => D.nx (σ'.set i none) H', rt := D.rt, bk := fun σ' H' => D.bk (σ'.set i none) H', ct := fun σ' H' => D.ct (σ'.set i none) H' } (σ.set i (some (.ref a))) (upd H a (NK.ExV a C d))
section
variable {X : Cx} {x n : Str} {c : Value} {i : Nat} {body suite : List Stmt} {b₀ : Stmt} {np pos pos' : Pos} {tb : WX → TS} {ts : TS}
theorem ps_try_keep (hs : X.stack = X.env :: X.outer) (hf : X.env.frame = some X.env.locals) (hN : X.N.Nodup) (hi : X.N[i]? = some n) (hln : X.env.kindOf n = some .local) (hc : Names X x c)
    (hb : ∀ (W : WX) (pn : List (Addr × Obj)) (xe : Value → Shared → Prop), Takes (X.tr pn xe) W → PassesOwn (model X.prog X.w) X.A X.env xe → PSs (X.tr pn xe) body (tb W))
    (hsu : ∀ (a : Addr) (pn : List (Addr × Obj)), PSs (X.suite a pn) (b₀ :: suite) ts) :
    PS X (.Try body [.ExceptHandler (some (.Name x np)) (some n) (b₀ :: suite) pos'] [] [] pos) (fun D σ H => tb (wKp X.K c i ts D) D σ H) := by
  refine ⟨fun pins s σ H D I h => ?_⟩
  have ok := I.ok
  have hfr : X.A.frames = some (X.env :: X.outer) := by rw [ok.frames, hs]
  have hloc : Loc X.env.scope n := .inl hln
  refine wpAny_Try_except ?_
  refine wpAny_mono ((hb (wKp X.K c i ts D) (X.pn ++ pins) (fun e s₁ => wpAny (model X.prog X.w) X.A (noteFrame e X.env) (fun _ s₂ => wpAny (model X.prog X.w) X.A (setFlight e none) (fun _ s₃ =>
    wpAny (model X.prog X.w) X.A (handleBy e X.env [.ExceptHandler (some (.Name x np)) (some n) (b₀ :: suite) pos']) (SP X pins D) X.xe s₃) X.xe s₂) X.xe s₁) (fun u s' xx => ?_) PassesOwn.looking).run [] s σ H D (I.toTry _) h) (fun f s1 hsp => ?_) (fun e s1 he => he)
  · -- the catch
    obtain ⟨a, B, sI, pins', σ', H', cls, d, rfl, J', nb, up, sky, na, os, ag, C, rfl, hb1, hyes⟩ := xx
    have J : Inv X pins σ' H' sI := J'.ofTry ok
    have sky' : Sky B (X.env :: X.outer) a (Zc (.ref C) d) X.env.locals s'.heap := by rw [← hs]; exact sky
    show wpAny (model X.prog X.w) X.A (noteFrame (.ref a) X.env) _ _ _
    refine Sky.land Zc.steady hfr hf sky' fun h3 fl3 up3 => ?_
    have J3 : Inv X pins σ' H' { s' with heap := h3 } := J.landed nb fl3.1 (up.trans up3) os ag
    obtain ⟨oe3, vs3, he3, hz3, hd3⟩ := fl3.there
    have notFr : ∀ {h : Heap} {o : Obj} {vs : Array Value}, h.FunFrames B (X.env :: X.outer) → h.get? a = some o → o.data = .fields vs → a ∉ frs (X.env :: X.outer) := fun {h o vs} ff e dd hm => by
      obtain ⟨_, o', e', hnf⟩ := ff.mem hm
      rw [e] at e'; cases e'
      exact hnf _ dd
    have nfr := notFr fl3.2.2.1 he3 hd3
    have nL : a ≠ X.env.locals := fun z => nfr (List.mem_filterMap.mpr ⟨X.env, List.mem_cons_self, by rw [hf, z]⟩)
    have nF : a ∉ X.fs := fun hm => by
      obtain ⟨e, he, q⟩ := List.mem_filterMap.mp hm
      exact nfr (List.mem_filterMap.mpr ⟨e, List.mem_cons_of_mem _ he, q⟩)
    have aI : sI.heap.get? a = none := by
      cases q : sI.heap.get? a with
      | none => rfl
      | some o =>
        have z := nb a o q (by rw [hs]; exact nfr)
        rw [fl3.2.1] at z
        cases z
    have S3 := J3.suite he3 hd3 na nL nF
    refine wpAny_handleBy_cons (codeAny_handlers_test ?_) (by intro q; cases q)
    have LT : PySem.W.Looks (model X.prog X.w) h3 (typeOf (.ref a)) (.ref C) := fun A Q E s k q => wpAny_typeOf_ref (k _ _ he3) (by rw [hz3.1]; exact q)
    have LM := PySem.W.exm_one (M := model X.prog X.w) (J3.kIn) LT hb1
    have test : ∀ {Q : Value → Shared → Prop} {E : Value → Shared → Prop}, Q c { s' with heap := h3 } → wpAny (model X.prog X.w) (X.A.mark (some (.ref a))) (eval (.Name x np) X.env) Q E { s' with heap := h3 } := fun {Q E} q => by
      obtain ⟨hg, hdbg, hm | ⟨hm, hv, hnn⟩⟩ := hc
      · exact ld_glob (X := X.suite a ((a, oe3) :: (X.pn ++ pins))) S3 hg hm q hdbg
      · exact ld_blt (X := X.suite a ((a, oe3) :: (X.pn ++ pins))) S3 hg hm hv q hnn hdbg
    refine test (LM.here ?_)
    refine codeAny_handlers_suite_as ?_
    refine HandSPX.lands_againZ fl3 fun h4 fl4 up4 => ?_
    obtain ⟨oe4, vs4, he4, hz4, hd4⟩ := fl4.there
    have J4 : Inv X pins σ' (upd H' a (NK.ExV a C d)) { s' with heap := h4 } := J.landedT nb fl4.1 ((up.trans up3).trans up4) os ag aI na
      ⟨⟨oe4, vs4, he4, hz4.1, hz4.2, hd4⟩, ⟨oe4, he4⟩, fun _ _ ⟨o, v, q, r⟩ k => ⟨o, v, k o q, r⟩⟩
    refine store_ok (X := X.suite a (X.pn ++ pins)) (v := .ref a) J4.suiteT hN hi hloc rfl (fun s5 S5 => ?_) (.inr hln)
    refine wpAny_mono ((hsu a (X.pn ++ pins)).run [] s5 _ _ _ S5 (hyes a na (by have z := J.len; obtain ⟨hl, _⟩ := List.getElem?_eq_some_iff.mp hi; omega))) (fun f s6 hsp => ?_) (fun _ _ z => False.elim z)
    have end_ : ∀ {σ6 : St} {H6 : Hp} {Q : Shared → Prop}, Inv (X.suite a (X.pn ++ pins)) [] σ6 H6 s6 → (∀ s7, Inv X pins (σ6.set i none) H6 s7 → Q s7) →
        wpAny (model X.prog X.w) X.A (do bindName X.env n .none; unbindBehindTheSuite X.env n pos') (fun _ s7 => Q s7) X.xe s6 := fun {σ6 H6 Q} S6 hq => gone_ok (S6.unsuiteT ok) hN hi hln hq
    cases f with
    | next =>
      obtain ⟨σ6, H6, S6, q6⟩ := hsp
      exact end_ S6 fun s7 J7 => ⟨_, _, J7, q6⟩
    | brk =>
      obtain ⟨σ6, H6, S6, q6⟩ := hsp
      exact end_ S6 fun s7 J7 => ⟨_, _, J7, q6⟩
    | cont =>
      obtain ⟨σ6, H6, S6, q6⟩ := hsp
      exact end_ S6 fun s7 J7 => ⟨_, _, J7, q6⟩
    | ret u =>
      obtain ⟨v6, σ6, H6, S6, r6, q6⟩ := hsp
      exact end_ S6 fun s7 J7 => ⟨_, _, _, J7, r6, q6⟩
  · cases f with
    | next =>
      obtain ⟨σ', H', J', q⟩ := hsp
      exact wpAny_execs_nil ⟨σ', H', J'.ofTry ok, q⟩
    | brk =>
      obtain ⟨σ', H', J', q⟩ := hsp
      exact ⟨σ', H', J'.ofTry ok, q⟩
    | cont =>
      obtain ⟨σ', H', J', q⟩ := hsp
      exact ⟨σ', H', J'.ofTry ok, q⟩
    | ret u =>
      obtain ⟨v, σ', H', J', r, q⟩ := hsp
      exact ⟨v, σ', H', J'.ofTry ok, r, q⟩
end
end L2
set_option Elab.async false
set_option linter.all false
set_option autoImplicit false
set_option maxRecDepth 100000
namespace NK
open PySem PySem.Spec PyProof.Rows L2
def spX (K : PySem.W.Frag) (cs : Nat → Option Addr) (n : Nat) (rf : List Val → Sto → Option (D × Sto)) : Sp := fun vs H Q E => ∃ F B args d, RSt K cs F B [] [] H ∧ Paired (VOk K F B []) args vs ∧ args.length = n ∧ rf args [] = some (d, []) ∧
  ∀ F' H' cls od, RSt K cs F' B [] [] H' → Ext F [] H F' [] H' → XObj K F' d cls od → E cls od H'
theorem spX_len {K : PySem.W.Frag} {cs : Nat → Option Addr} {n : Nat} {rf : List Val → Sto → Option (D × Sto)} {vs : List V} {H : Hp} {Q : VK} {E : XK} (h : spX K cs n rf vs H Q E) : vs.length = n := by
  obtain ⟨F, B, args, d, _, p, l, _⟩ := h
  rw [← l]; exact (Paired.len p).symm
def tRS (K : PySem.W.Frag) (cs : Nat → Option Addr) (Z : WX) (rr : Env → Sto → Option RX) : TS := fun _ σ H => ∃ F B as env st x, Rel K cs F B as env st σ H ∧ rr env st = some x ∧
  ∀ F' as' H' σ' cls od, Rel K cs F' B as' x.2.1 x.2.2 σ' H' → Ext F as H F' as' H' → XObj K F' x.1 cls od → Z cls od σ' H'
def tRC (K : PySem.W.Frag) (cs : Nat → Option Addr) (Z : WX) (rr : Env → Sto → Option (D × Sto)) : TE := fun σ H _ => ∃ F B as env st x, Rel K cs F B as env st σ H ∧ rr env st = some x ∧
  ∀ F' as' H' cls od, Rel K cs F' B as' env x.2 σ H' → Ext F as H F' as' H' → XObj K F' x.1 cls od → Z cls od σ H'
structure RfAt (X : Cx) (cs : Nat → Option Addr) (d : Nat) (n : Nat) (x : Str) (rf : List Val → Sto → Option (D × Sto)) : Prop where
  ex : ∃ (fa : Addr) (fd : FuncData) (ps : List Str), X.mg x = some (.ref fa) ∧ PySem.W.keepIn X.K (.ref fa) = true ∧ Binds X.K fd ps [] ∧ FnOk X.prog X.w X.K X.mg X.base (L2.CX X.prog X.w) d fa fd ps (spX X.K cs n rf)
def spXM (K : PySem.W.Frag) (cs : Nat → Option Addr) (n : Nat) (rf : List Val → Sto → Option (D × Sto)) : Sp := fun vs H Q E => ∃ F B as args st x, RSt K cs F B as st H ∧ Paired (VOk K F B as) args vs ∧ args.length = n ∧ rf args st = some x ∧
  ∀ F' as' H' cls od, RSt K cs F' B as' x.2 H' → Ext F as H F' as' H' → XObj K F' x.1 cls od → E cls od H'
theorem spXM_len {K : PySem.W.Frag} {cs : Nat → Option Addr} {n : Nat} {rf : List Val → Sto → Option (D × Sto)} {vs : List V} {H : Hp} {Q : VK} {E : XK} (h : spXM K cs n rf vs H Q E) : vs.length = n := by
  obtain ⟨F, B, as, args, st, x, _, p, l, _⟩ := h
  rw [← l]; exact (Paired.len p).symm
structure RmAt (X : Cx) (cs : Nat → Option Addr) (d n : Nat) (c : Nat) (x : W) (rf : List Val → Sto → Option (D × Sto)) : Prop where
  ex : ∃ (C fa : Addr), cs c = some C ∧ Cls X.K C ∧ Meth X.K C (S x) fa ∧ FnR X.prog X.w X.K X.mg X.base (L2.CX X.prog X.w) d fa (spXM X.K cs n rf)
def RkAt (X : Cx) (cs : Nat → Option Addr) (d n : Nat) (x : Str) (rf : List Val → Sto → Option (D × Sto)) : Prop := (∀ a s, rf a s = none) ∨ ∃ k c g fa C, d = k + 1 ∧ cs c = some C ∧ Mk X.K C fa ∧ X.mg x = some (.ref C) ∧ FnR X.prog X.w X.K X.mg X.base (L2.CX X.prog X.w) k fa (spXM X.K cs (n + 1) g) ∧
  ∀ a s q, rf a s = some q → a.length = n ∧ g (.ref s.length :: a) (s ++ [.ins c []]) = some q
section
variable {X : Cx} {cs : Nat → Option Addr} {Z : WX} {e : Expr} {pos pos2 : Pos} {ff gg : Env → Sto → Option Out} {r1 r2 : Env → Sto → Option RX} {g : Env → Sto → Option (List Val × Sto)}
theorem rs_nil : PSs X [] (tRS X.K cs Z fun _ _ => none) := pss_nil.weak fun D σ H ⟨F, B, as, env, st, x, r, ev, k⟩ => by cases ev
theorem rs_no {s : Stmt} : PS X s (tRS X.K cs Z fun _ _ => none) := ps_never.weak fun D σ H ⟨F, B, as, env, st, x, r, ev, k⟩ => by cases ev
def fRSeq (r1 : Env → Sto → Option RX) (ff : Env → Sto → Option Out) (r2 : Env → Sto → Option RX) : Env → Sto → Option RX := fun env st => match r1 env st with
  | some x => some x
  | none => (ff env st).bind fun o => match o with
    | .nx e s => r2 e s
    | .rt _ _ => none
theorem rs_cons {s : Stmt} {rest : List Stmt} (h1 : PS X s (tS X.K cs ff)) (h2 : PS X s (tRS X.K cs Z r1)) (h3 : PSs X rest (tRS X.K cs Z r2)) : PSs X (s :: rest) (tRS X.K cs Z (fRSeq r1 ff r2)) := (pss_cons (h1.or h2) h3).weak fun D σ H ⟨F, B, as, env, st, x, r, ev, k⟩ => by
  unfold fRSeq at ev
  split at ev
  · rename_i y hy
    cases ev
    exact .inr ⟨F, B, as, env, st, _, r, hy, k⟩
  · obtain ⟨o, e1, ev1⟩ := obnd ev
    cases o with
    | rt v s => cases ev1
    | nx e s =>
      refine .inl ⟨F, B, as, env, st, _, r, e1, fun e' s' eo F1 as1 H1 σ1 r1 x1 => ?_, fun v s' eo => by cases eo⟩
      cases eo
      exact ⟨F1, B, as1, _, _, x, r1, ev1, fun F' as' H' σ' cls od r' x' q => k F' as' H' σ' cls od r' (x1.trans x') q⟩
theorem rs_if {c : Env → Sto → Option (Bool × Sto)} {a b : List Stmt} (hc : PT X e (tB X.K cs c)) (ha : PSs X a (tRS X.K cs Z r1)) (hb : PSs X b (tRS X.K cs Z r2)) : PS X (.If e a b pos) (tRS X.K cs Z fun env st => (c env st).bind fun r => if r.1 then r1 env r.2 else r2 env r.2) := (ps_if hc ha hb).weak fun D σ H ⟨F, B, as, env, st, x, r, ev, k⟩ => by
  obtain ⟨⟨b, s1⟩, e1, ev1⟩ := obnd ev
  refine ⟨F, B, as, env, st, b, s1, r, e1, fun F1 as1 H1 q1 x1 => ?_⟩
  dsimp only at ev1
  cases b
  · rw [if_neg Bool.false_ne_true] at ev1 ⊢
    exact ⟨F1, B, as1, env, s1, x, q1, ev1, fun F' as' H' σ' cls od r' x' q => k F' as' H' σ' cls od r' (x1.trans x') q⟩
  · rw [if_pos rfl] at ev1 ⊢
    exact ⟨F1, B, as1, env, s1, x, q1, ev1, fun F' as' H' σ' cls od r' x' q => k F' as' H' σ' cls od r' (x1.trans x') q⟩
theorem rs_for {fi : Env → Sto → Option (List D × Sto)} {bind : D → Env → Option Env} {t : TG} {tgl : List Nat} {tg it : Expr} {b : List Stmt} (hp : PassesOwn (model X.prog X.w) X.A X.env X.xe) (hc : X.calm = true) (hi : PI X tg it (tI X.K cs fi)) (hg : PG X tg t) (ht : TgOk X.K cs t bind tgl) (hb : PSs X b (tS X.K cs ff)) (hr : PSs X b (tRS X.K cs Z r1))
    (hs : ∀ x, foldedSetIterable it X.env x = pure x) : PS X (.For tg it b [] pos) (tRS X.K cs Z fun env st => (fi env st).bind fun r => rvFor bind r1 ff r.1 env r.2) := (ps_for hp hc hi hg (hb.or hr) hs).weak fun D σ H ⟨F, B, as, env, st, x, r, ev, k⟩ => by
  obtain ⟨⟨ds, s1⟩, hfi, ev1⟩ := obnd ev
  refine ⟨F, B, as, env, st, ds, s1, r, hfi, fun F1 as1 H1 J q1 x1 Y hlen => ?_⟩
  refine ⟨fun i m σ2 H2 => m = ds.length - i ∧ i ≤ ds.length ∧ ∃ F2 as2 env2 st2, Rel X.K cs F2 B as2 env2 st2 σ2 H2 ∧ Ext F1 as1 H1 F2 as2 H2 ∧ rvFor bind r1 ff (ds.drop i) env2 st2 = some x, ⟨ds.length, by omega, Nat.zero_le _, F1, as1, env, s1, q1, q1.refl, ev1⟩, ?_⟩
  rintro i m σ2 H2 ⟨rfl, hi, F2, as2, env2, st2, r2, x2, hf⟩
  by_cases hlt : i < ds.length
  · have hd : ds[i]? = some ds[i] := List.getElem?_eq_getElem hlt
    generalize hdd : ds[i] = d at hd
    rw [List.drop_eq_getElem_cons hlt, hdd] at hf
    simp only [rvFor] at hf
    obtain ⟨e1, hb1, hf⟩ := obnd hf
    refine .inr ⟨Y.go i d x2.ff x2.pre trivial r2.toRSt hd, _, fun σ' H' p => ⟨ds.length - (i + 1), by omega, rfl, hlt, p⟩, fun y H3 hy => ?_⟩
    obtain ⟨F3, r3, x3, qx⟩ := Y.yld i d y H3 x2.ff x2.pre trivial r2.toRSt hd hy
    refine ht (r2.slots x3 r3) qx hb1 fun σ' r4 _ => ?_
    split at hf
    · rename_i z hz
      cases hf
      exact .inr ⟨F3, B, as2, e1, st2, _, r4, hz, fun F' as' H' σ' cls od r' x' q => k F' as' H' σ' cls od r' ((x1.trans x2).trans (x3.trans x')) q⟩
    · obtain ⟨o2, hb2, hf⟩ := obnd hf
      cases o2 with
      | rt v s => cases hf
      | nx e4 s4 =>
        refine .inl ⟨F3, B, as2, e1, st2, _, r4, hb2, fun e5 s5 eo F4 as4 H4 σ4 r5 x4 => ?_, fun v s4 eo => by cases eo⟩
        cases eo
        exact ⟨F4, as4, _, _, r5, (x2.trans x3).trans x4, hf⟩
  · have hie : i = ds.length := by omega
    subst hie
    rw [List.drop_length] at hf
    simp [rvFor] at hf
theorem rs_while {c : Env → Sto → Option (Bool × Sto)} {b : List Stmt} (hp : PassesOwn (model X.prog X.w) X.A X.env X.xe) (hc : PT X e (tB X.K cs c)) (hb : PSs X b (tS X.K cs ff)) (hr : PSs X b (tRS X.K cs Z r1)) : PS X (.While e b [] pos) (tRS X.K cs Z fun env st => rvWh c r1 ff env st) := (ps_while hp hc (hb.or hr)).weak fun D σ H ⟨F, B, as, env, st, x, r, ev, k⟩ => by
  obtain ⟨n, hn⟩ := rvWh_some c r1 ff ev
  refine ⟨fun m σ2 H2 => ∃ F2 as2 env2 st2, Rel X.K cs F2 B as2 env2 st2 σ2 H2 ∧ Ext F as H F2 as2 H2 ∧ rvWhI c r1 ff m env2 st2 = some x, ⟨n, F, as, env, st, r, r.refl, hn⟩, fun m σ2 H2 ⟨F2, as2, env2, st2, r2, x2, hm⟩ => ?_⟩
  cases m with
  | zero => simp [rvWhI] at hm
  | succ m =>
    simp only [rvWhI] at hm
    obtain ⟨⟨b, s1⟩, e1, hm⟩ := obnd hm
    refine ⟨F2, B, as2, env2, st2, b, s1, r2, e1, fun F3 as3 H3 r3 x3 => ?_⟩
    dsimp only at hm
    cases b
    · rw [if_neg Bool.false_ne_true] at hm
      cases hm
    · rw [if_pos rfl] at hm
      refine ⟨_, fun σ4 H4 h => h, ?_⟩
      split at hm
      · rename_i y hy
        cases hm
        exact .inr ⟨F3, B, as3, env2, s1, _, r3, hy, fun F' as' H' σ' cls od r' x' q => k F' as' H' σ' cls od r' ((x2.trans x3).trans x') q⟩
      · obtain ⟨o2, e2, hm⟩ := obnd hm
        cases o2 with
        | rt v s => cases hm
        | nx e4 s4 =>
          refine .inl ⟨F3, B, as3, env2, s1, _, r3, e2, fun e5 s5 eo F4 as4 H4 σ4 r4 x4 => ?_, fun v s4 eo => by cases eo⟩
          cases eo
          exact ⟨m, Nat.lt_succ_self _, F4, as4, _, _, r4, (x2.trans x3).trans x4, hm⟩
theorem pe_rcall {f : Nat} {m : List Bool} {n d : Nat} {y : Str} {z : Expr} {zs : List Expr} {p : Pos} {R : RCalls} (tk : Takes X Z) (A : RfAt X cs d n y (R f)) (hR : ∀ a s q, R f a s = some q → a.length = n ∧ q.2 = []) (hr : Room d X.A) (hg : Gl X y) (ha : PA X (z :: zs) (tEs X.K cs g))
    (hdb : (y == ("__debug__" : Str)) = false) (he : starEach (z :: zs) X.env = (false, eval z X.env) :: starEach zs X.env) (hpl : (backTo pos (starEach zs X.env)).any (·.1) = false) :
    PE X (.Call (.Name y p) (z :: zs) [] pos) (tRC X.K cs Z fun env st => (g env st).bind fun r => (callR R f m r.1 r.2).map fun d => (d, r.2)) := by
  obtain ⟨fa, fd, ps, h1, h2, h3, h4⟩ := A.ex
  refine (pe_callS (E := WE Z) h4 hr hg h1 h2 h3 (fun σ => passAt tk σ) ha hdb he hpl).weak fun σ H Q ⟨F, B, as, env, st, x, r, ev, k⟩ => ?_
  obtain ⟨⟨vs, s1⟩, e1, ev1⟩ := obnd ev
  obtain ⟨d0, e2, ev2⟩ := omap ev1
  subst ev2
  unfold callR at e2
  obtain ⟨⟨args, imp, bor⟩, hp, e3⟩ := obnd e2
  dsimp only at e3 hp e2
  split at e3
  case isFalse => cases e3
  rename_i hi
  subst hi
  obtain ⟨⟨d1, os⟩, e4, e5⟩ := omap e3
  dsimp only at e5
  subst e5
  obtain ⟨l1, l2⟩ := hR _ _ _ e4
  dsimp only at l2
  subst l2
  refine ⟨F, B, as, env, st, vs, s1, r, e1, fun F1 as1 H1 us r1 x1 v1 => ?_⟩
  have ht : takeSt s1 [] = some [] := rfl
  have hd : RSt X.K cs F1 (lend B H1 as1 bor) [] [] H1 := handed r1.toRSt ht List.nodup_nil (fun _ _ z => nomatch z)
  refine ⟨F1, lend B H1 as1 bor, args, _, hd, prep_ok r1.toRSt (lend_mono r1.toRSt) hp v1 (fun j l hj => by simp at hj) (fun l hl a ha => ?_), l1, e4, fun F' H' cls od r' x' q => ?_⟩
  · unfold lend
    exact if_pos (List.mem_filterMap.mpr ⟨l, hl, ha⟩)
  · obtain ⟨r2, x2⟩ := taken r1.toRSt ht List.nodup_nil r' x' rfl rfl
    exact k F' as1 H' cls od (r1.slots x2 r2) (x1.trans x2) q
theorem pe_rbin {op : Operator} {e1 e2 : Expr} {f : Env → Sto → Option (Val × Sto)} {rr : Env → Sto → Option (D × Sto)} (h1 : PE X e1 (tE X.K cs f)) (h2 : PE X e2 (tRC X.K cs Z rr)) : PE X (.BinOp e1 op e2 pos) (tRC X.K cs Z fun env st => (f env st).bind fun r => rr env r.2) := by
  have hop : OpR X (binaryOp op) (fun _ _ _ _ => False) := by
    intro pins s σ H x y v u Q I rx ry h
    exact h.elim
  refine (pe_op hop h1 h2).weak fun σ H Q ⟨F, B, as, env, st, x, r, ev, k⟩ => ?_
  obtain ⟨⟨v, s1⟩, e1, ev1⟩ := obnd ev
  exact ⟨F, B, as, env, st, v, s1, r, e1, fun F1 as1 H1 u r1 x1 v1 => ⟨F1, B, as1, env, s1, x, r1, ev1, fun F' as' H' cls od r' x' q => k F' as' H' cls od r' (x1.trans x') q⟩⟩
def fRM (c : Nat) (x : W) (rf : List Val → Sto → Option (D × Sto)) (f : Env → Sto → Option (Val × Sto)) (g : Env → Sto → Option (List Val × Sto)) : Env → Sto → Option (D × Sto) := fun env st => (f env st).bind fun r => (insV c r.1 r.2).bind fun fs => if (fs.lookup x).isSome then none else (g env r.2).bind fun q => rf (r.1 :: q.1) q.2
theorem rmeth_of {c n : Nat} {x : W} {rf : List Val → Sto → Option (D × Sto)} {f : Env → Sto → Option (Val × Sto)} {C : Addr} {E : XK} (hc : cs c = some C) (hn : ∀ a s q, rf a s = some q → a.length = n) (hZ : ∀ cls od σ H, Z cls od σ H → E cls od H) : ∀ σ H Q, tRC X.K cs Z (fRM c x rf f g) σ H Q → tMethR C (S x) (spXM X.K cs n rf) E (tE X.K cs f) (tEs X.K cs g) σ H Q := fun σ H Q ⟨F, B, as, env, st, v, r, ev, k⟩ => by
  obtain ⟨⟨v0, s0⟩, e0, ev1⟩ := obnd ev
  obtain ⟨fs, e1, ev2⟩ := obnd ev1
  dsimp only at ev2
  split at ev2
  · cases ev2
  rename_i hno
  obtain ⟨⟨vs, s1⟩, e2, ev3⟩ := obnd ev2
  refine ⟨F, B, as, env, st, v0, s0, r, e0, fun F1 as1 H1 u r1 x1 w1 => ?_⟩
  obtain ⟨l, a, C', dx, gs, rfl, hs, ea, rfl, ec, eh, ef⟩ := ins_at r1.toRSt e1 w1
  rw [hc] at ec
  cases ec
  refine ⟨a, dx, gs, rfl, eh, (fs_look ef x).2 (Option.not_isSome_iff_eq_none.mp hno), F1, B, as1, env, s0, vs, s1, r1, e2, fun F2 as2 H2 us r2 x2 w2 => ?_⟩
  refine ⟨F2, B, as2, .ref l :: vs, s1, v, r2.toRSt, .cons (w1.ext x2) w2, hn _ _ _ ev3, ev3, fun F3 as3 H3 cls od r3 x3 q3 => ?_⟩
  exact hZ _ _ σ _ (k F3 as3 H3 cls od (r2.slots x3 r3) ((x1.trans x2).trans x3) q3)
theorem pe_rmeth {c d n : Nat} {x : W} {rf : List Val → Sto → Option (D × Sto)} {f : Env → Sto → Option (Val × Sto)} {apos : Pos} {o : Expr} {es : List Expr} {E : XK} (hx : RmAt X cs d n c x rf) (hn : ∀ a s q, rf a s = some q → a.length = n) (hr : Room d X.A) (hZ : ∀ cls od σ H, Z cls od σ H → E cls od H) (hE : Passes (L2.CX X.prog X.w) X E) (ho : PE X o (tE X.K cs f)) (ha : PA X (e :: es) (tEs X.K cs g))
    (hst : starEach (e :: es) X.env = (false, eval e X.env) :: starEach es X.env) (hpl : (backTo pos (starEach es X.env)).any (·.1) = false)
    (hb : attributeBase o (S x) X.env (eval o X.env) = eval o X.env) (hl : (apos.endLine == pos.line) = true) (hs : (backTo pos (starEach (e :: es) X.env)).all (!·.1) = true) (hn30 : (e :: es).length < 30) :
    PE X (.Call (.Attribute o (S x) apos) (e :: es) [] pos) (tRC X.K cs Z (fRM c x rf f g)) := by
  obtain ⟨C, fa, hc, hC, hm, hF⟩ := hx.ex
  exact (pe_methR (E := E) ho hC hm hF hr hE ha hst hpl (meth_tree hb hl hs hn30)).weak (rmeth_of hc hn hZ)
theorem pe_rmeth0 {c d n : Nat} {x : W} {rf : List Val → Sto → Option (D × Sto)} {f : Env → Sto → Option (Val × Sto)} {apos : Pos} {o : Expr} {E : XK} (hx : RmAt X cs d n c x rf) (hn : ∀ a s q, rf a s = some q → a.length = n) (hr : Room d X.A) (hZ : ∀ cls od σ H, Z cls od σ H → E cls od H) (hE : Passes (L2.CX X.prog X.w) X E) (ho : PE X o (tE X.K cs f))
    (hb : attributeBase o (S x) X.env (eval o X.env) = eval o X.env) (hl : (apos.endLine == pos.line) = true) :
    PE X (.Call (.Attribute o (S x) apos) [] [] pos) (tRC X.K cs Z (fRM c x rf f fun _ st => some ([], st))) := by
  obtain ⟨C, fa, hc, hC, hm, hF⟩ := hx.ex
  refine ⟨fun pins s σ H Q I h => ?_⟩
  have h2 := rmeth_of (E := E) hc hn hZ σ H Q h
  refine PySem.W.methodCall_KW (thn (ho.run pins s σ H _ I h2) fun u s1 ⟨x, H1, I1, rx, a, dx, fs, ex, ea, l, q⟩ => ?_) (meth_tree hb hl rfl (by simp))
  subst ex
  obtain rfl : u = Value.ref a := rx
  refine getmeth_ok I1 ea hC hm l ?_
  have q' : spXM X.K cs n rf [.ref a] H1 Q E := by
    obtain ⟨F, B, as, env, st, vs, st', r, ev, k⟩ := q
    cases ev
    exact k F as H1 [] r r.refl .nil
  exact PySem.W.callWith_K0 (first := [.ref a]) I1.kIn hm.kp (wpAny_call (run_fnR (us := [.ref a]) (vs := [.ref a]) hF hr hE I1 (.cons rfl .nil) q'))
theorem rmake_of {rf g' : List Val → Sto → Option (D × Sto)} {c n : Nat} {C : Addr} {E : XK} (hc : cs c = some C) (hZ : ∀ cls od σ H, Z cls od σ H → E cls od H) (hf : ∀ a s q, rf a s = some q → a.length = n ∧ g' (.ref s.length :: a) (s ++ [.ins c []]) = some q) :
    ∀ σ H Q, tRC X.K cs Z (fun env st => (g env st).bind fun q => rf q.1 q.2) σ H Q → StX.tMakeR C (spXM X.K cs (n + 1) g') E (tEs X.K cs g) σ H Q := fun σ H Q ⟨F, B, as, env, st, v, r, ev, k⟩ => by
  obtain ⟨⟨vs, s1⟩, e1, e3⟩ := obnd ev
  obtain ⟨hl, hg⟩ := hf _ _ _ e3
  refine ⟨F, B, as, env, st, vs, s1, r, e1, fun F1 as1 H1 us r1 x1 w1 => ?_⟩
  intro x dx hx hdx hne
  obtain ⟨ra, xa⟩ := r1.toRSt.extra (o := .own x) hdx
  have hx2 : (upd H1 dx (.own x)) x = none := by rw [upd_ne (Ne.symm hne)]; exact hx
  obtain ⟨rb, xb⟩ := ra.own (o := .ins c []) (ho := .ins C dx []) hx2 ⟨C, dx, [], hc, rfl, .nil⟩
  have xab := xa.trans xb
  have hlen : as1.length = s1.length := r1.toRSt.len
  have hself : (as1 ++ [x])[s1.length]? = some x := by
    rw [List.getElem?_append_right (by omega), hlen, Nat.sub_self]; rfl
  refine ⟨F1, B, as1 ++ [x], .ref s1.length :: vs, s1 ++ [.ins c []], v, rb, .cons ⟨x, hself, rfl⟩ ?_, by simp [hl], hg, fun F3 as3 H3 cls od r3 x3 q3 => ?_⟩
  · exact Paired.mapP w1 fun p q h => h.ext xab
  · exact hZ _ _ σ _ (k F3 as3 H3 cls od (r1.slots (xab.trans x3) r3) ((x1.trans xab).trans x3) q3)
theorem pe_rmake {d n : Nat} {x : Str} {rf : List Val → Sto → Option (D × Sto)} {p : Pos} {es : List Expr} {E : XK} (hx : RkAt X cs d n x rf) (hr : Room d X.A) (hZ : ∀ cls od σ H, Z cls od σ H → E cls od H) (hE : Passes (L2.CX X.prog X.w) X E) (hg : Gl X x) (ha : PA X (e :: es) (tEs X.K cs g)) (hd : (x == ("__debug__" : Str)) = false)
    (hst : starEach (e :: es) X.env = (false, eval e X.env) :: starEach es X.env) (hpl : (backTo pos (starEach es X.env)).any (·.1) = false) :
    PE X (.Call (.Name x p) (e :: es) [] pos) (tRC X.K cs Z fun env st => (g env st).bind fun q => rf q.1 q.2) := by
  rcases hx with hx | ⟨k, c, g', fa, C, rfl, hc, hM, hm, hF, hf⟩
  · refine ⟨fun pins s σ H Q I ⟨F, B, as, env, st, v, r, ev, k⟩ => ?_⟩
    exfalso
    obtain ⟨q, _, e3⟩ := obnd ev
    rw [hx] at e3
    cases e3
  · exact (StX.pe_makeR (E := E) hM hF hr hg hm hE ha hd hst hpl).weak (rmake_of hc hZ hf)
theorem rs_rse {w x0 : W} {xs : List W} {z : Expr} {zs : List Expr} {p : Pos} (tk : Takes X Z) (hc : X.calm = true) (hx : XcK X.K w (x0 :: xs)) (mx : XMk X w (x0 :: xs)) (hg : Gl X (S w)) (hm : X.mg (S w) = some (.ref (He.ga X.K (S w)))) (hr : Room 40 X.A) (ha : PA X (z :: zs) (tEs X.K cs g)) (hl : (x0 :: xs).length ≤ 100)
    (hdb : (S w == ("__debug__" : Str)) = false) (he : starEach (z :: zs) X.env = (false, eval z X.env) :: starEach zs X.env) (hpl : (backTo pos (starEach zs X.env)).any (·.1) = false) :
    PS X (.Raise (some (.Call (.Name (S w) p) (z :: zs) [] pos)) none pos2) (tRS X.K cs Z fun env st => (g env st).bind fun r => (toDs r.1 r.2).bind fun q => if q.1.length = (x0 :: xs).length then some (.exc w (x0 :: xs) q.1, env, q.2) else none) :=
  (ps_raise hc tk (pmk_x hx mx hg hm hr ha hl hdb he hpl)).weak fun D σ H ⟨F, B, as, env, st, x, r, ev, k⟩ => by
  obtain ⟨⟨vs, s1⟩, e1, ev1⟩ := obnd ev
  obtain ⟨q, e2, ev2⟩ := obnd ev1
  split at ev2
  case isFalse => cases ev2
  rename_i hlen
  cases ev2
  exact ⟨F, B, as, env, st, vs, s1, q, r, e1, e2, hlen, fun F' as' H' cls od r' x' q' => k F' as' H' σ cls od r' x' q'⟩
end
def calE0 (mth : Bool) : E → Bool
  | .call _ _ es => !es.isEmpty
  | .meth _ _ _ _ _ => mth
  | .make _ es => mth && !es.isEmpty
  | _ => false
def calE (mth : Bool) : E → Bool
  | .bin _ _ b => calE0 mth b
  | e => calE0 mth e
def calB (mth : Bool) (s : St) : Bool := match exprOf s with
  | some e => calE mth e
  | none => false
mutual
def mR (c : MC) (mth : Bool) : RaS → Nm → Stmt → Bool
  | .nrm s, nm, x => mS c s nm x
  | .cal s, nm, x => mS c s nm x && calB mth s
  | .rse w xs es, nm, x => match x with
    | .Raise (some (.Call (.Name y _) (z :: zs) [] _)) none _ => decide (y = S w) && gloB nm y && plainN y && (c.xc.any fun p => decide (p = (w, xs))) && mEs c es nm (z :: zs) && !xs.isEmpty && decide (xs.length ≤ 100)
    | _ => false
  | .ifS e a b, nm, x => match x with
    | .If x xs ys p => mE c e true nm x && mRs c mth a nm xs && mRs c mth b nm ys
    | _ => false
  | .forS tg tup it b, nm, x => match x with
    | .For t x xs [] p => tgtB c.N nm tg tup t && nSet x && (!tupI it || isTupE t) && mI c it nm x && mRs c mth b nm xs
    | _ => false
  | .wh e b, nm, x => match x with
    | .While x xs [] p => mE c e true nm x && mRs c mth b nm xs
    | _ => false
def mRs (c : MC) (mth : Bool) : List RaS → Nm → List Stmt → Bool
  | [], nm, xs => match xs with
    | [] => true
    | _ => false
  | s :: ss, nm, xs => match xs with
    | x :: xs => mR c mth s nm x && mRs c mth ss nm xs
    | [] => false
end
mutual
theorem mR_nrm {c : MC} {mth : Bool} : ∀ (s : RaS) {nm : Nm} {x : Stmt}, mR c mth s nm x = true → mS c (nrmS s) nm x = true
  | .nrm s, nm, x, h => by simpa only [mR, nrmS] using h
  | .cal s, nm, x, h => by simp only [mR, Bool.and_eq_true] at h; simpa only [nrmS] using h.1
  | .rse w xs es, nm, x, h => by
    simp only [mR] at h
    split at h
    · simp only [nrmS, mS, isRaise]
    · cases h
  | .ifS e a b, nm, x, h => by
    simp only [mR] at h
    split at h
    · simp only [Bool.and_eq_true] at h
      simp only [nrmS, mS, Bool.and_eq_true]
      exact ⟨⟨h.1.1, mRs_nrm a h.1.2⟩, mRs_nrm b h.2⟩
    · cases h
  | .forS tg tup it b, nm, x, h => by
    simp only [mR] at h
    split at h
    · simp only [Bool.and_eq_true] at h
      simp only [nrmS, mS, Bool.and_eq_true]
      exact ⟨h.1, mRs_nrm b h.2⟩
    · cases h
  | .wh e b, nm, x, h => by
    simp only [mR] at h
    split at h
    · simp only [Bool.and_eq_true] at h
      simp only [nrmS, mS, Bool.and_eq_true]
      exact ⟨h.1, mRs_nrm b h.2⟩
    · cases h
theorem mRs_nrm {c : MC} {mth : Bool} : ∀ (ss : List RaS) {nm : Nm} {xs : List Stmt}, mRs c mth ss nm xs = true → mSs c (nrmSs ss) nm xs = true
  | [], nm, xs, h => by
    simp only [mRs] at h
    split at h
    · simp only [nrmSs, mSs]
    · cases h
  | s :: ss, nm, xs, h => by
    simp only [mRs] at h
    split at h
    case h_2 => cases h
    simp only [Bool.and_eq_true] at h
    have h1 := mR_nrm s h.1
    have h2 := mRs_nrm ss h.2
    simp only [nrmSs, mSs]
    split
    · rename_i i hi
      rw [hi] at h1
      simp [mS] at h1
    · simp only [Bool.and_eq_true]
      exact ⟨h1, h2⟩
end
structure ROk (c : MC) (cs : Nat → Option Addr) (C : Calls) (R : RCalls) (d : Nat) (X : Cx) (nm : Nm) (Z : WX) (mth : Bool) : Prop extends SOk c cs C d X nm where
  tk : Takes X Z
  rf : ∀ p ∈ c.fs, RfAt X cs d p.2.2 p.1 (R p.2.1) ∧ (∀ a s q, R p.2.1 a s = some q → a.length = p.2.2 ∧ q.2 = [])
  rms : mth = true → (∃ E : XK, (∀ cls od σ H, Z cls od σ H → E cls od H) ∧ (∀ cls od σ H, E cls od H → Z cls od σ H)) ∧ ∀ ci ∈ c.cl, (∀ q ∈ ci.ms, RmAt X cs d q.2.2 ci.idx q.1 (R q.2.1) ∧ ∀ a s r, R q.2.1 a s = some r → a.length = q.2.2) ∧ ∀ q, ci.mkr = some q → RkAt X cs d q.2 ci.name (R q.1)
section
variable {c : MC} {cs : Nat → Option Addr} {C : Calls} {R : RCalls} {d : Nat} {X : Cx} {nm : Nm} {Z : WX} {mth : Bool}
theorem rcall_ok (o : ROk c cs C R d X nm Z mth) {f : Nat} {m : List Bool} {es : List E} {x : Expr} (h : mE c (.call f m es) false nm x = true) (hn : es.isEmpty = false) :
    PE X x (tRC X.K cs Z fun env st => (evEs C es env st).bind fun r => (callR R f m r.1 r.2).map fun d => (d, r.2)) := by
  simp only [mE] at h
  split at h
  case h_2 => cases h
  rename_i y py zs pc
  simp only [Bool.and_eq_true] at h
  obtain ⟨⟨⟨h1, h2⟩, h3⟩, h4⟩ := h
  obtain ⟨p, hp, e⟩ := List.any_eq_true.mp h3
  simp only [Bool.and_eq_true, decide_eq_true_eq, beq_iff_eq] at e
  obtain ⟨e1, e2⟩ := e
  subst e1
  subst e2
  cases zs with
  | nil =>
    cases es with
    | nil => cases hn
    | cons _ _ => simp [mEs] at h4
  | cons z zs =>
    obtain ⟨hs, hl⟩ := mEs_star h4
    rw [List.all_cons, Bool.and_eq_true] at hs
    obtain ⟨g1, g2⟩ := o.rf p hp
    exact pe_rcall o.tk g1 g2 o.rm (gl_of o.toXOk h1) (mEs_ok es o.toXOk h4) (plainN_of h2).1 (noStar hs.1) (star_any hs.2)
theorem rE0_ok (o : ROk c cs C R d X nm Z mth) {e : E} {x : Expr} (h : mE c e false nm x = true) (hb : calE0 mth e = true) : PE X x (tRC X.K cs Z (rvE0 C R e)) := by
  cases e with
  | call f m es =>
    have e1 : rvE0 C R (.call f m es) = fun env st => (evEs C es env st).bind fun r => (callR R f m r.1 r.2).map fun d => (d, r.2) := by funext env st; rfl
    rw [e1]
    exact rcall_ok o h (by simpa [calE0] using hb)
  | meth k f w a es =>
    have hm : mth = true := hb
    obtain ⟨⟨E, z1, z2⟩, hcl⟩ := o.rms hm
    have hE : Passes (L2.CX X.prog X.w) X E := passes_call o.tk z2
    have e1 : rvE0 C R (.meth k f w a es) = fRM k w (R f) (evE C a) (evEs C es) := by funext env st; rfl
    rw [e1]
    simp only [mE] at h
    split at h
    case h_2 => cases h
    rename_i xo y ap xs p
    simp only [Bool.and_eq_true, decide_eq_true_eq] at h
    obtain ⟨⟨⟨⟨⟨⟨h1, h2⟩, h3⟩, h4⟩, h5⟩, h6⟩, h7⟩ := h
    subst h1
    obtain ⟨ci, hc, eq⟩ := List.any_eq_true.mp h7
    rw [Bool.and_eq_true, beq_iff_eq] at eq
    obtain ⟨rfl, eq2⟩ := eq
    obtain ⟨q, hq, eq3⟩ := List.any_eq_true.mp eq2
    simp only [Bool.and_eq_true, decide_eq_true_eq, beq_iff_eq] at eq3
    obtain ⟨rfl, rfl⟩ := eq3
    obtain ⟨g1, g2⟩ := (hcl ci hc).1 q hq
    obtain ⟨hs, hl⟩ := mEs_star h5
    cases xs with
    | nil =>
      cases es with
      | nil =>
        have e2 : evEs C ([] : List NK.E) = fun _ st => some ([], st) := by funext env st; simp only [evEs]
        rw [e2]
        exact pe_rmeth0 g1 g2 o.rm z1 hE (mE_ok a o.toXOk h4) (noSuper h2 _) h3
      | cons _ _ => simp [mEs] at h5
    | cons z zs =>
      have hs2 := hs
      rw [List.all_cons, Bool.and_eq_true] at hs2
      exact pe_rmeth g1 g2 o.rm z1 hE (mE_ok a o.toXOk h4) (mEs_ok es o.toXOk h5) (noStar hs2.1) (star_any hs2.2) (noSuper h2 _) h3 (star_all hs) (by omega)
  | make g es =>
    simp only [calE0, Bool.and_eq_true, Bool.not_eq_true'] at hb
    obtain ⟨⟨E, z1, z2⟩, hcl⟩ := o.rms hb.1
    have hE : Passes (L2.CX X.prog X.w) X E := passes_call o.tk z2
    have e1 : rvE0 C R (.make g es) = fun env st => (evEs C es env st).bind fun q => R g q.1 q.2 := by funext env st; rfl
    rw [e1]
    simp only [mE] at h
    split at h
    case h_2 => cases h
    rename_i y py z zs pc
    simp only [Bool.and_eq_true] at h
    obtain ⟨⟨⟨h1, h2⟩, h3⟩, h4⟩ := h
    obtain ⟨ci, hc, eq⟩ := List.any_eq_true.mp h4
    rw [Bool.and_eq_true, decide_eq_true_eq] at eq
    obtain ⟨rfl, eq2⟩ := eq
    split at eq2
    case h_2 => cases eq2
    rename_i q hq
    rw [beq_iff_eq] at eq2
    subst eq2
    obtain ⟨hs, hl⟩ := mEs_star h3
    rw [List.all_cons, Bool.and_eq_true] at hs
    exact pe_rmake ((hcl ci hc).2 q hq) o.rm z1 hE (gl_of o.toXOk h1) (mEs_ok es o.toXOk h3) (plainN_of h2).1 (noStar hs.1) (star_any hs.2)
  | _ => simp [calE0] at hb
theorem rE_ok (o : ROk c cs C R d X nm Z mth) {e : E} {x : Expr} (h : mE c e false nm x = true) (hb : calE mth e = true) : PE X x (tRC X.K cs Z (rvE C R e)) := by
  cases e with
  | bin op a b =>
    have e1 : rvE C R (.bin op a b) = fun env st => (evE C a env st).bind fun r => rvE0 C R b env r.2 := by funext env st; rfl
    rw [e1]
    simp only [mE] at h
    split at h
    case h_2 => cases h
    simp only [Bool.and_eq_true, decide_eq_true_eq] at h
    exact pe_rbin (mE_ok a o.toXOk h.1.2) (rE0_ok o h.2 hb)
  | call f m es => exact rE0_ok o h hb
  | meth k f w a es => exact rE0_ok o h hb
  | make g es => exact rE0_ok o h hb
  | _ => simp [calE, calE0] at hb
end
end NK
set_option Elab.async false
set_option linter.all false
set_option autoImplicit false
set_option maxRecDepth 100000
namespace NK
open PySem PySem.Spec PyProof.Rows L2
section
variable {c : MC} {cs : Nat → Option Addr} {C : Calls} {R : RCalls} {d : Nat} {X : Cx} {nm : Nm} {Z : WX} {mth : Bool}
theorem cal_weak {s : St} {e : E} (hc : exprOf s = some e) {D : Ends} {σ : L2.St} {H : Hp} {Q : VK} (h : tRS X.K cs Z (rvS C R (.cal s)) D σ H) : tRC X.K cs Z (rvE C R e) σ H Q := by
  obtain ⟨F, B, as, env, st, x, r, ev, k⟩ := h
  simp only [rvS, hc, Option.bind_some] at ev
  obtain ⟨q, e1, e2⟩ := omap ev
  subst e2
  exact ⟨F, B, as, env, st, q, r, e1, fun F' as' H' cls od r' x' q => k F' as' H' σ cls od r' x' q⟩
theorem calE_comp {e : E} (h : calE mth e = true) : isComp e = false := by
  cases e <;> first | rfl | simp [calE, calE0] at h
theorem cal_ok (o : ROk c cs C R d X nm Z mth) {s : St} {x : Stmt} (h : mS c s nm x = true) (hb : calB mth s = true) : PS X x (tRS X.K cs Z (rvS C R (.cal s))) := by
  cases s with
  | expr e =>
    have hb : calE mth e = true := hb
    simp only [mS] at h
    split at h
    case h_2 => cases h
    simp only [Bool.and_eq_true] at h
    exact (ps_expr (rE_ok o h.2 hb) (sw_of h.1)).weak fun D σ H q => cal_weak (s := .expr e) rfl q
  | set i e =>
    have hb : calE mth e = true := hb
    simp only [mS] at h
    split at h
    case h_2 => cases h
    simp only [Bool.and_eq_true, Bool.or_eq_true, decide_eq_true_eq] at h
    obtain ⟨⟨⟨h1, h2⟩, h3⟩, h4⟩ := h
    rcases h4 with h4 | ⟨h4, h5⟩
    · exact (ps_set (by rw [o.nN]; exact o.nd) (by rw [o.nN]; exact h1) (loc_st o.toSOk h2) (rE_ok o h3 hb) (swN_of o.toXOk h4) (.inl (o.fn _))).weak fun D σ H q => cal_weak (s := .set i e) rfl q
    · rw [calE_comp hb] at h4
      cases h4
  | ret e =>
    have hb : calE mth e = true := hb
    simp only [mS] at h
    split at h
    case h_2 => cases h
    exact (ps_ret (rE_ok o h hb)).weak fun D σ H q => cal_weak (s := .ret e) rfl q
  | _ => simp [calB, exprOf] at hb
mutual
theorem mR_ok : ∀ (s : RaS) {x : Stmt}, ROk c cs C R d X nm Z mth → mR c mth s nm x = true → PS X x (tRS X.K cs Z (rvS C R s))
  | .nrm s, x, o, h => by
    have e : rvS C R (.nrm s) = fun _ _ => none := by funext env st; simp only [rvS]
    rw [e]
    exact rs_no
  | .cal s, x, o, h => by
    simp only [mR, Bool.and_eq_true] at h
    exact cal_ok o h.1 h.2
  | .rse w xs es, x, o, h => by
    simp only [mR] at h
    split at h
    case h_2 => cases h
    rename_i y py z zs pc pr
    simp only [Bool.and_eq_true, decide_eq_true_eq, Bool.not_eq_true'] at h
    obtain ⟨⟨⟨⟨⟨⟨h1, h2⟩, h3⟩, h4⟩, h5⟩, h6⟩, h7⟩ := h
    subst h1
    obtain ⟨p, hp, e⟩ := List.any_eq_true.mp h4
    rw [decide_eq_true_eq] at e
    subst e
    cases xs with
    | nil => simp at h6
    | cons x0 xs =>
      have xa := o.xc _ hp
      obtain ⟨hs, hl⟩ := mEs_star h5
      rw [List.all_cons, Bool.and_eq_true] at hs
      have e : rvS C R (.rse w (x0 :: xs) es) = fun env st => (evEs C es env st).bind fun r => (toDs r.1 r.2).bind fun q => if q.1.length = (x0 :: xs).length then some (.exc w (x0 :: xs) q.1, env, q.2) else none := by funext env st; simp only [rvS]
      rw [e]
      exact rs_rse o.tk o.calm xa.xk (xa.mx (by simp)) (gl_of o.toXOk h2) xa.mg (o.rm.mono o.d40) (mEs_ok es o.toXOk h5) h7 (plainN_of h3).1 (noStar hs.1) (star_any hs.2)
  | .ifS e a b, x, o, h => by
    simp only [mR] at h
    split at h
    case h_2 => cases h
    simp only [Bool.and_eq_true] at h
    have e : rvS C R (.ifS e a b) = fun env st => ((evE C e env st).bind boolR).bind fun r => if r.1 then rvSs C R a env r.2 else rvSs C R b env r.2 := by funext env st; simp only [rvS]
    rw [e]
    exact rs_if (mE_ok _ o.toXOk h.1.1) (mRs_ok a o h.1.2) (mRs_ok b o h.2)
  | .forS tg tup it b, x, o, h => by
    simp only [mR] at h
    split at h
    case h_2 => cases h
    simp only [Bool.and_eq_true] at h
    obtain ⟨⟨⟨⟨h1, h2⟩, h0⟩, h3⟩, h4⟩ := h
    have hN : X.N.Nodup := by rw [o.nN]; exact o.nd
    obtain ⟨g1, g2⟩ := tgt_ok2 (X := X) (cs := cs) (nm := nm) hN o.calm (fun y e => by rw [o.nms]; exact e) (fun y e => ⟨by rw [o.nms]; exact e, o.fn y⟩) (by rw [o.nN]; exact h1)
    have e : rvS C R (.forS tg tup it b) = fun env st => (evI C it env st).bind fun r => rvFor (fun d e => bindT tg tup d e) (fun e s => rvSs C R b e s) (fun e s => evSs C (nrmSs b) e s) r.1 env r.2 := by funext env st; simp only [rvS]
    rw [e]
    exact rs_for o.ps o.calm (mI_ok it o.toXOk h3 h0) g1 g2 (mSs_ok (nrmSs b) o.toSOk (mRs_nrm b h4)) (mRs_ok b o h4) (nSet_of h2)
  | .wh e b, x, o, h => by
    simp only [mR] at h
    split at h
    case h_2 => cases h
    simp only [Bool.and_eq_true] at h
    have e1 : rvS C R (.wh e b) = rvWh (fun env st => (evE C e env st).bind boolR) (fun e s => rvSs C R b e s) (fun e s => evSs C (nrmSs b) e s) := by funext env st; simp only [rvS]
    rw [e1]
    exact rs_while o.ps (mE_ok _ o.toXOk h.1) (mSs_ok (nrmSs b) o.toSOk (mRs_nrm b h.2)) (mRs_ok b o h.2)
theorem mRs_ok : ∀ (ss : List RaS) {xs : List Stmt}, ROk c cs C R d X nm Z mth → mRs c mth ss nm xs = true → PSs X xs (tRS X.K cs Z (rvSs C R ss))
  | [], xs, o, h => by
    simp only [mRs] at h
    split at h
    case h_2 => cases h
    have e : rvSs C R [] = fun _ _ => none := by funext env st; simp only [rvSs]
    rw [e]
    exact rs_nil
  | s :: ss, xs, o, h => by
    simp only [mRs] at h
    split at h
    case h_2 => cases h
    simp only [Bool.and_eq_true] at h
    have e : rvSs C R (s :: ss) = fRSeq (rvS C R s) (evS C (nrmS s)) (rvSs C R ss) := by
      funext env st
      simp only [rvSs, fRSeq] <;> (cases rvS C R s env st with
      | some _ => rfl
      | none => cases evS C (nrmS s) env st with
        | none => rfl
        | some o => cases o <;> rfl)
    rw [e]
    exact rs_cons (mS_ok (nrmS s) o.toSOk (mR_nrm s h.1)) (mR_ok s o h.1) (mRs_ok ss o h.2)
end
noncomputable def fTry (C : Calls) (R : RCalls) (tb : List RaS) (w : W) (e t : Nat) : Env → Sto → Option Out := fun env st => match rvSs C R tb env st with
  | some x => if catB w x.1 then some (.nx ((x.2.1.set t (some (.dat x.1))).set e none) x.2.2) else none
  | none => evSs C (nrmSs tb) env st
def mTr (c : MC) (tb : List RaS) (w : W) (e t : Nat) (nm : Nm) : Stmt → Bool
  | .Try body [.ExceptHandler (some (.Name x _)) (some n) [.Assign [.Name y _] (.Name z _) _] _] [] [] _ => decide (x = S w) && gloB nm x && plainN x && (c.xc.any fun p => decide (p.1 = w)) && (xNames.contains w && decide (w ≠ wVal)) && decide (c.N[e]? = some n) && decide (nm.lookup n = some .local) && decide (c.N[t]? = some y) && locB nm y && decide (z = n) && plainN n && decide (e ≠ t) && mRs c false tb nm body
  | _ => false
theorem Rel.setN {K : PySem.W.Frag} {F B H : Hp} {as : List Addr} {env : Env} {st : Sto} {σ : L2.St} (r : Rel K cs F B as env st σ H) {e t : Nat} {v : Val} {u w : V} (h : VOk K F B as v u) : Rel K cs F B as ((env.set t (some v)).set e none) st (((σ.set e (some w)).set t (some u)).set e none) H := by
  refine { r.toRSt with slot := fun i v' hv => ?_, elen := by simp [r.elen] }
  by_cases hi : e = i
  · subst hi
    rw [List.getElem?_set] at hv
    split at hv
    · split at hv <;> cases hv
    · rename_i z; exact absurd rfl z
  · rw [List.getElem?_set_ne hi] at hv
    rw [List.getElem?_set_ne hi]
    by_cases h2 : t = i
    · subst h2
      rw [List.getElem?_set] at hv
      rw [if_pos rfl] at hv
      split at hv
      · rename_i hl
        cases hv
        refine ⟨u, ?_, h⟩
        rw [List.getElem?_set_self (by have := r.elen; simp; omega)]
      · cases hv
    · rw [List.getElem?_set_ne h2] at hv
      rw [List.getElem?_set_ne h2, List.getElem?_set_ne hi]
      exact r.slot i v' hv
theorem s_try {tb : List RaS} {w0 : W} {e t : Nat} {x : Stmt} (hs : X.stack = X.env :: X.outer) (hf : X.env.frame = some X.env.locals) (o : SOk c cs C d X nm)
    (ho : ∀ (Z : WX) (pn : List (Addr × PySem.Obj)) (xe : Value → Shared → Prop), Takes (X.tr pn xe) Z → PassesOwn (model X.prog X.w) X.A X.env xe → ROk c cs C R d (X.tr pn xe) nm Z false) (h : mTr c tb w0 e t nm x = true) : PS X x (tS X.K cs (fTry C R tb w0 e t)) := by
  unfold mTr at h
  split at h
  case h_2 => cases h
  rename_i body x px n y py z pz pa ph pt
  simp only [Bool.and_eq_true, decide_eq_true_eq] at h
  obtain ⟨⟨⟨⟨⟨⟨⟨⟨⟨⟨⟨⟨h1, h2⟩, h3⟩, h4⟩, hw⟩, h5⟩, h6⟩, h7⟩, h8⟩, h9⟩, h10⟩, h11⟩, h12⟩ := h
  subst h1
  subst h9
  obtain ⟨q, hq, eq⟩ := List.any_eq_true.mp h4
  rw [decide_eq_true_eq] at eq
  have xa := (o.xc q hq).mg
  have xg := (o.xc q hq).hg
  rw [eq] at xa xg
  have hN : X.N.Nodup := by rw [o.nN]; exact o.nd
  have hi : X.N[e]? = some z := by rw [o.nN]; exact h5
  have hl : X.env.scope.names.lookup z = some .local := by rw [o.nms]; exact h6
  have hln : X.env.kindOf z = some .local := by unfold Env.kindOf; exact hl
  have hsu : ∀ (a : Addr) (pn : List (Addr × PySem.Obj)), PSs (X.suite a pn) [.Assign [.Name y py] (.Name z pz) pa] (tSeq (tAsg (tVar e) (gName t)) tNext) := fun a pn => by
    have hv : PE (X.suite a pn) (.Name z pz) (tVar e) := pe_var (X := X.suite a pn) hi (.inl hl) (plainN_of h10).1 (plainN_of h10).2
    exact pss_cons (ps_set (X := X.suite a pn) (i := t) hN (by show X.N[t]? = some y; rw [o.nN]; exact h7) (loc_st o h8) hv (sw_of rfl) (.inl (o.fn _))) pss_nil
  refine (ps_try_keep (tb := fun Z D σ H => tS X.K cs (evSs C (nrmSs tb)) D σ H ∨ tRS X.K cs Z (rvSs C R tb) D σ H) (c := .ref (He.ga X.K (S w0))) hs hf hN hi hln ⟨gl_of o.toXOk h2, (plainN_of h3).1, .inl xa⟩
    (fun Z pn xe tk po => PSs.or (mSs_ok (X := X.tr pn xe) (nrmSs tb) (ho Z pn xe tk po).toSOk (mRs_nrm tb h12)) (mRs_ok tb (ho Z pn xe tk po) h12)) hsu).weak fun D σ H ⟨F, B, as, env, st, o', r, ev, k1, k2⟩ => ?_
  unfold fTry at ev
  split at ev
  · rename_i x hx
    split at ev
    case isFalse => cases ev
    rename_i hcat
    cases ev
    refine .inr ⟨F, B, as, env, st, x, r, hx, fun F' as' H' σ' cls od r' x' q => ?_⟩
    obtain ⟨d1, e1, s1⟩ := x
    cases d1 <;> first | exact q.elim | skip
    rename_i w xs ds
    obtain ⟨xk, rfl, us, q1, q2⟩ := q
    refine ⟨_, rfl, (xk.ex w0 ⟨by simpa using hw.1, .inr xg⟩ hw.2).trans (congrArg some hcat), fun a ha hlt => ?_⟩
    have g1 : (σ'.set e (some (V.ref a)))[e]? = some (some (.ref a)) := List.getElem?_set_self hlt
    refine ⟨_, g1, ?_⟩
    obtain ⟨r3, x3⟩ := r'.frozen (o := ExV a (He.ga X.K (S w)) od) ha
    have v3 : VOk X.K (upd F' a (ExV a (He.ga X.K (S w)) od)) B as' (.dat (.exc w xs ds)) (.ref a) :=
      (Den.exc_iff (K := X.K)).mpr ⟨xk, a, od, us, rfl, upd_same, q1.mono x3.ff, Dens.mono x3.ff _ _ q2⟩
    exact k1 _ _ rfl _ _ _ _ (Rel.setN r3 v3) (x'.trans x3)
  · exact .inl ⟨F, B, as, env, st, o', r, ev, k1, k2⟩
def mTrD (c : MC) : List St → List RaS → W → Nat → Nat → List St → Nm → List Stmt → Bool
  | _, _, _, _, _, _, _, [] => false
  | [], tb, w, e, t, post, nm, x :: xs => mTr c tb w e t nm x && mSs c post nm xs
  | s :: ss, tb, w, e, t, post, nm, x :: xs => mS c s nm x && mTrD c ss tb w e t post nm xs
theorem trD_ok (hs : X.stack = X.env :: X.outer) (hf : X.env.frame = some X.env.locals) (o : SOk c cs C d X nm)
    (ho : ∀ (Z : WX) (pn : List (Addr × PySem.Obj)) (xe : Value → Shared → Prop), Takes (X.tr pn xe) Z → PassesOwn (model X.prog X.w) X.A X.env xe → ROk c cs C R d (X.tr pn xe) nm Z false) {tb : List RaS} {w : W} {e t : Nat} {post : List St} :
    ∀ (pre : List St) {xs : List Stmt}, mTrD c pre tb w e t post nm xs = true → PSs X xs (tS X.K cs (trV C R pre tb w e t post))
  | [], [], h => by simp [mTrD] at h
  | _ :: _, [], h => by simp [mTrD] at h
  | [], x :: xs, h => by
    simp only [mTrD, Bool.and_eq_true] at h
    have e1 : trV C R [] tb w e t post = fSeq (fTry C R tb w e t) (evSs C post) := by
      funext env st
      unfold trV fSeq fTry
      simp only [evSs, Option.bind_some] <;> (cases rvSs C R tb env st with
      | some x =>
        dsimp only
        cases catB w x.1 <;> rfl
      | none =>
        first
          | rfl
          | (dsimp only
             cases evSs C (nrmSs tb) env st with
             | none => rfl
             | some o => cases o <;> rfl))
    rw [e1]
    exact ss_cons (s_try hs hf o ho h.1) (mSs_ok post o h.2)
  | s :: ss, x :: xs, h => by
    simp only [mTrD, Bool.and_eq_true] at h
    have e1 : trV C R (s :: ss) tb w e t post = fSeq (evS C s) (trV C R ss tb w e t post) := by
      funext env st
      unfold trV fSeq
      simp only [evSs]
      cases evS C s env st with
      | none => rfl
      | some o =>
        cases o with
        | rt v s => rfl
        | nx e2 s2 =>
          simp only [Option.bind_some]
    rw [e1]
    exact ss_cons (mS_ok s o h.1) (trD_ok hs hf o ho ss h.2)
end
end NK
set_option Elab.async false
set_option linter.all false
set_option autoImplicit false
set_option maxRecDepth 100000
namespace NK
open PySem PySem.Spec PyProof.Rows L2
section
variable {K : PySem.W.Frag} {cs : Nat → Option Addr} {F B H F' H' : Hp} {as as' : List Addr} {st st' : Sto}
theorem Ext.cut (x : Ext F as H F' as' H') : Ext F as H F' as H' :=
  ⟨x.ff, List.prefix_refl _, x.fr, x.frA, x.nf, fun _ h h' => absurd h h'⟩
theorem RSt.cut (r : RSt K cs F' B as' st' H') (x : as <+: as') (hl : as.length = st.length) (hi : (st'.take st.length).all flat = true) : RSt K cs F' B as (st'.take st.length) H' := by
  obtain ⟨t, rfl⟩ := x
  refine ⟨r.fh, r.bh, (List.nodup_append.mp r.nd).1, ?_, fun a h => r.nb a (List.mem_append_left _ h), fun l a o e1 e2 => ?_⟩
  · have := r.len
    rw [List.length_append] at this
    rw [List.length_take]
    omega
  · have hlt : l < st.length := by
      rcases Nat.lt_or_ge l st.length with h | h
      · exact h
      · rw [List.getElem?_eq_none (by rw [List.length_take]; omega)] at e2; cases e2
    rw [List.getElem?_take_of_lt hlt] at e2
    obtain ⟨z, ho, e3, e4⟩ := r.obj l a o (by rw [List.getElem?_append_left (by omega)]; exact e1) e2
    have hf := List.all_eq_true.mp hi o (List.mem_of_getElem? (by rw [List.getElem?_take_of_lt hlt]; exact e2))
    exact ⟨z, ho, e3, flat_ook hf e4⟩
end
theorem fzO_flat {o : Obj} {d : D} (h : fzO o = some d) : flat o = true ∧ o ≠ .dead := by
  cases o <;> simp [fzO] at h <;> exact ⟨rfl, by simp⟩
def scopeB (N ps : List Str) (sc : Scope) : Bool := (match sc.kind with | .function => true | _ => false) && !sc.isCoroutine && !sc.isGenerator && decide N.Nodup && decide (N.take ps.length = ps) &&
  (ps.all fun x => match sc.names.lookup x with | some .local => true | some .cell => true | _ => false) && (sc.names.all fun y => match y.2 with | .free => false | _ => true)
theorem scopeB_ok {N ps : List Str} {sc : Scope} (h : scopeB N ps sc = true) : FnScope N ps sc := by
  unfold scopeB at h
  simp only [Bool.and_eq_true, decide_eq_true_eq, Bool.not_eq_true', List.all_eq_true] at h
  obtain ⟨⟨⟨⟨⟨⟨h1, h2⟩, h3⟩, h4⟩, h5⟩, h6⟩, h7⟩ := h
  refine ⟨?_, h2, h3, h4, h5, fun x hx => ?_, fun y hy e => ?_⟩
  · split at h1
    · assumption
    · cases h1
  · have := h6 x hx
    split at this
    · rename_i e; exact .inl e
    · rename_i e; exact .inr e
    · cases this
  · have := h7 y hy
    rw [e] at this
    cases this
def kB (P : Prog) (i : Nat) : Nat := match P i with
  | some fn => (match fn.kind with
    | .fn => 1
    | .me => 2
    | .mk _ _ => 3
    | .rb _ => 3
    | .rbm _ => 3
    | .tr _ _ _ _ _ => 1)
  | none => 0
def XI.p (x : XI) : W × List W := (x.w, x.xs)
def okI (x : XI) : Bool := match x.ini with
  | none => x.xs.isEmpty
  | some d => !x.xs.isEmpty && decide (x.xs.length ≤ 100) && decide x.xs.Nodup && decide (d.ps.length = x.xs.length + 1) && scopeB d.N d.ps (defScope d.st) && iniB d.N (defScope d.st).names x.xs 1 (defBody d.st) && decide (d.at_ = (S x.w, some ("__init__" : Str)))
structure IOk (x : XI) : Prop where
  ok : okI x = true
  bd : ∀ d, x.ini = some d → ∀ (kV doc pm : Value) (an : Option Addr) (cdv ct : Value) (us : List Value), us.length = d.ps.length → bindArgs (PySem.W.fnOf d.name d.qual (defArgs d.st) (defBody d.st) (defScope d.st) .none kV doc pm an cdv ct) ⟨us, []⟩ = pure (d.ps.zip us)
def bodyB (c : MC) (fn : Fn) (nm : Nm) (xs : List Stmt) : Bool := match fn.kind with
  | .tr tb w e t post => mTrD c fn.body tb w e t post nm xs
  | _ => mSs c fn.body nm xs
def raiB (P : Prog) (c : MC) (i : Nat) (fn : Fn) (nm : Nm) (xs : List Stmt) : Bool := match P (i + ROFF) with
  | none => true
  | some fr => (match fr.kind, fn.kind with
    | .rb rb, .fn => decide (fr.ps = fn.ps) && decide (fr.ns = fn.ns) && mRs c true rb nm xs
    | .rbm rb, .me => decide (fr.ps = fn.ps) && decide (fr.ns = fn.ns) && mRs c true rb nm xs
    | _, _ => false)
def okD (P : Prog) (fs : List (Str × Nat × Nat)) (gs : List (Str × K1)) (fr : List Str) (cl : List CI) (xl : List XI) (d : DefI) : Bool := match P d.idx with
  | some fn => decide (fn.ps = d.ps.length) && decide (fn.ns = d.N.length) && decide (fn.ps ≤ fn.ns) && scopeB d.N d.ps (defScope d.st) && bodyB ⟨d.N, fs, gs, fr, cl, xl.map XI.p⟩ fn (defScope d.st).names (defBody d.st) && raiB P ⟨d.N, fs, gs, fr, cl, xl.map XI.p⟩ d.idx fn (defScope d.st).names (defBody d.st) && decide (kB P d.idx ≠ 3)
  | none => false
structure DOk (P : Prog) (fs : List (Str × Nat × Nat)) (gs : List (Str × K1)) (fr : List Str) (cl : List CI) (xl : List XI) (d : DefI) : Prop where
  ok : okD P fs gs fr cl xl d = true
  bd : ∀ (kV doc pm : Value) (an : Option Addr) (cdv ct : Value) (us : List Value), us.length = d.ps.length → bindArgs (PySem.W.fnOf d.name d.qual (defArgs d.st) (defBody d.st) (defScope d.st) .none kV doc pm an cdv ct) ⟨us, []⟩ = pure (d.ps.zip us)
def fsB (P : Prog) (ds : List DefI) (fs : List (Str × Nat × Nat)) : Bool := fs.all fun p => ds.any fun d => decide (d.at_ = (p.1, none)) && decide (d.idx = p.2.1) && decide (d.ps.length = p.2.2) && decide (kB P d.idx = 1)
def clB (P : Prog) (ds : List DefI) (cl : List CI) : Bool := cl.all fun ci => decide ((cl.find? fun z => z.idx == ci.idx).map (·.name) = some ci.name) &&
  (ci.ms.all fun q => ds.any fun d => decide (d.at_ = (ci.name, some (S q.1))) && decide (d.idx = q.2.1) && decide (d.ps.length = q.2.2) && decide (kB P d.idx = 2)) &&
  (match ci.mkr with
  | none => true
  | some q => (match P q.1 with
    | some fn => (match fn.kind with
      | .mk k i => decide (k = ci.idx) && decide (fn.ps = q.2) && ds.any fun d => decide (d.at_ = (ci.name, some ("__init__" : Str))) && decide (d.idx = i) && decide (d.ps.length = q.2 + 1) && decide (kB P d.idx = 2)
      | _ => false)
    | none => false))
theorem call_len {P : Prog} {i : Nat} {n : Nat} {fn : Fn} (h : P i = some fn) (hn : fn.ps = n) : ∀ (d : Nat) a s q, call P d i a s = some q → a.length = n := fun d a s q e => by
  cases d with
  | zero => simp [call] at e
  | succ d =>
    simp only [call, h, Option.bind_some] at e
    split at e
    · simp only [runF] at e
      split at e
      · rename_i z; rw [z, hn]
      · cases e
    · simp only [runM] at e
      split at e
      · rename_i z; rw [z, hn]
      · cases e
    · simp only [runK] at e
      split at e
      · rename_i z; rw [z, hn]
      · cases e
    · cases e
    · cases e
    · simp only [runT] at e
      split at e
      · rename_i z; rw [z, hn]
      · cases e
theorem rcall_len {P : Prog} {i n : Nat} {fn : Fn} (h : P i = some fn) (hn : fn.ps = n) (hk : nMk fn.kind = true) (hq : ∀ fr, P (i + ROFF) = some fr → fr.ps = fn.ps ∧ ∃ rb, fr.kind = .rb rb) : ∀ (d : Nat) a s q, rcall P d i a s = some q → a.length = n ∧ q.2 = [] := fun d a s q e => by
  cases d with
  | zero => simp [rcall] at e
  | succ d =>
    rw [rcall_eq h hk] at e
    obtain ⟨fr, e1, e2⟩ := obnd e
    obtain ⟨q1, rb, q2⟩ := hq _ e1
    rw [q2] at e2
    dsimp only at e2
    unfold runRv at e2
    split at e2
    case isFalse => cases e2
    rename_i z
    obtain ⟨x, e3, e4⟩ := omap e2
    subst e4
    exact ⟨by rw [z.1, q1, hn], rfl⟩
theorem rcall_lenM {P : Prog} {i n : Nat} {fn : Fn} (h : P i = some fn) (hn : fn.ps = n) (hk : nMk fn.kind = true) (hq : ∀ fr, P (i + ROFF) = some fr → fr.ps = fn.ps) : ∀ (d : Nat) a s q, rcall P d i a s = some q → a.length = n := fun d a s q e => by
  cases d with
  | zero => simp [rcall] at e
  | succ d =>
    rw [rcall_eq h hk] at e
    obtain ⟨fr, e1, e2⟩ := obnd e
    have q1 := hq _ e1
    split at e2
    · unfold runRv at e2
      split at e2
      case isFalse => cases e2
      rename_i z
      rw [z.1, q1, hn]
    · unfold runRm at e2
      split at e2
      case isFalse => cases e2
      rename_i z
      rw [z, q1, hn]
    · cases e2
def spK (K : PySem.W.Frag) (cs : Nat → Option Addr) : Kind → Nat → (List Val → Sto → Option (Ret × Sto)) → Sp
  | .fn, n, f => spF K cs n f
  | .tr _ _ _ _ _, n, f => spF K cs n f
  | _, n, f => spM K cs n f
structure XFacts (K0 K : PySem.W.Frag) (mg : Str → Option Value) (x : XI) : Prop where
  ok : IOk x
  ga : PySem.W.nsIn K mainGlobals (S x.w) = some (some (.ref (He.ga K (S x.w))))
  mg : mg (S x.w) = some (.ref (He.ga K (S x.w)))
  xk : XcK K x.w x.xs
  mx : ∀ d, x.ini = some d → OexC K (He.ga K (S x.w)) ∧ PySem.W.findIn K (.ref (He.ga K (S x.w))) "__init__" = some (some (.ref (He.fAd K0 d.at_))) ∧ PySem.W.typeIn K (.ref (He.fAd K0 d.at_)) = some (.type "function") ∧
    ∃ fd, FunD K d.name d.qual (defArgs d.st) (defBody d.st) (defScope d.st) [] [] (He.fAd K0 d.at_) fd
  nx : x.ini = none → XNk K (He.ga K (S x.w))
section
variable {Pg : Program} {w : World} {K0 K : PySem.W.Frag} {mg : Str → Option Value} {base : Heap} {cs : Nat → Option Addr} {P : Prog} {fs : List (Str × Nat × Nat)} {gs : List (Str × K1)} {fr : List Str} {cl : List CI} {xl : List XI} {ds : List DefI}
structure TopOk (K0 K : PySem.W.Frag) (mg : Str → Option Value) (cs : Nat → Option Addr) (P : Prog) (fs : List (Str × Nat × Nat)) (gs : List (Str × K1)) (fr : List Str) (cl : List CI) (xl : List XI) (ds : List DefI) : Prop where
  fd : ∀ d ∈ ds, DOk P fs gs fr cl xl d ∧ (∃ fd, FunD K d.name d.qual (defArgs d.st) (defBody d.st) (defScope d.st) [] [] (He.fAd K0 d.at_) fd) ∧ ∀ x, d.at_ = (x, none) → mg x = some (.ref (He.ga K0 x))
  fs : fsB P ds fs = true
  gs : ∀ p ∈ gs, ∃ u, mg p.1 = some u ∧ RelV (k2V p.2) u
  fr : ∀ x ∈ fr, mg x = none
  cb : clB P ds cl = true
  cl : ∀ ci ∈ cl, cs ci.idx = some (He.ga K0 ci.name) ∧ Cls K (He.ga K0 ci.name) ∧ (∀ x ∈ ci.attrs, NoAttr K (He.ga K0 ci.name) (S x)) ∧ (∀ q ∈ ci.ms, Meth K (He.ga K0 ci.name) (S q.1) (He.ma K0 (He.ga K0 ci.name) (S q.1))) ∧
    (ci.mkr ≠ none → Mk K (He.ga K0 ci.name) (He.ma K0 (He.ga K0 ci.name) "__init__") ∧ mg ci.name = some (.ref (He.ga K0 ci.name)))
  xl : ∀ x ∈ xl, XFacts K0 K mg x
theorem start_rel {F B H : Hp} {as : List Addr} {args : List Val} {vs : List V} {st : Sto} {N : List Str} {fn : Fn} (r : RSt K cs F B as st H) (p : Paired (VOk K F B as) args vs) (hl : args.length = fn.ps) (hN : fn.ns = N.length) (hp : fn.ps ≤ fn.ns) : Rel K cs F B as (startE fn args) st (L2.start N vs) H := by
  have hv : vs.length = args.length := (Paired.len p).symm
  refine { r with slot := fun i v e => ?_, elen := ?_ }
  · unfold startE at e
    unfold L2.start
    by_cases hi : i < args.length
    · rw [List.getElem?_append_left (by rw [List.length_map]; exact hi), List.getElem?_map] at e
      rw [List.getElem?_append_left (by rw [List.length_map]; omega), List.getElem?_map]
      obtain ⟨a, ha, e2⟩ := Option.map_eq_some_iff.mp e
      cases e2
      have : ∀ {xs : List Val} {ys : List V} {j : Nat} {x : Val}, Paired (VOk K F B as) xs ys → xs[j]? = some x → ∃ y, ys[j]? = some y ∧ VOk K F B as x y := by
        intro xs ys j x p
        induction p generalizing j with
        | nil => intro h; simp at h
        | cons q t ih =>
          intro h
          cases j with
          | zero => simp at h; subst h; exact ⟨_, rfl, q⟩
          | succ j => simpa using ih (by simpa using h)
      obtain ⟨u, hu, q⟩ := this p ha
      exact ⟨u, by rw [hu]; rfl, q⟩
    · rw [List.getElem?_append_right (by rw [List.length_map]; omega)] at e
      rw [List.getElem?_replicate] at e
      split at e <;> cases e
  · unfold startE L2.start
    rw [List.length_append, List.length_append, List.length_map, List.length_map, List.length_replicate, List.length_replicate, ← hN, hv]
    omega
theorem kB_fn {i : Nat} {fn : Fn} (h : P i = some fn) (e : kB P i = 1) : fn.kind = .fn ∨ ∃ tb w e t post, fn.kind = .tr tb w e t post := by
  simp only [kB, h] at e
  cases hk : fn.kind <;> rw [hk] at e <;> first | exact .inl rfl | exact .inr ⟨_, _, _, _, _, rfl⟩ | (simp at e)
theorem spK_fn {i : Nat} {fn : Fn} (h : P i = some fn) (e : kB P i = 1) {n : Nat} {f : List Val → Sto → Option (Ret × Sto)} : spK K cs fn.kind n f = spF K cs n f := by
  rcases kB_fn h e with hk | ⟨_, _, _, _, _, hk⟩ <;> rw [hk] <;> rfl
theorem kB_me {i : Nat} {fn : Fn} (h : P i = some fn) (e : kB P i = 2) : fn.kind = .me := by
  simp only [kB, h] at e
  cases hk : fn.kind <;> rw [hk] at e <;> first | rfl | (simp at e)
theorem okD_fn {d : DefI} (h : okD P fs gs fr cl xl d = true) : ∃ fn, P d.idx = some fn ∧ fn.ps = d.ps.length := by
  unfold okD at h
  split at h
  · rename_i fn hfn
    simp only [Bool.and_eq_true, decide_eq_true_eq] at h
    exact ⟨fn, hfn, h.1.1.1.1.1.1⟩
  · cases h
theorem XOk.nox {c : MC} {C : Calls} {d : Nat} {X : Cx} {nm : Nm} (o : XOk c cs C d X nm) : XOk c cs C d X.nox nm :=
  ⟨o.nms, o.knd, o.nN, o.nd, o.calm, o.un, o.rm, o.dv, fun p hp => ⟨⟨(o.fs p hp).1.ex⟩, (o.fs p hp).2⟩, o.gs, o.fr, fun ci hc => ⟨(o.cl ci hc).1, fun q hq => ⟨⟨((o.cl ci hc).2.1 q hq).1.ex⟩, ((o.cl ci hc).2.1 q hq).2⟩, (o.cl ci hc).2.2⟩, fun p hp => ⟨(o.xc p hp).mg, (o.xc p hp).hg, (o.xc p hp).xk, fun h => ⟨((o.xc p hp).mx h).oc, ((o.xc p hp).mx h).nd, ((o.xc p hp).mx h).ini⟩, (o.xc p hp).nx⟩, o.d40⟩
theorem XOk.tr {c : MC} {C : Calls} {d : Nat} {X : Cx} {nm : Nm} (o : XOk c cs C d X nm) (pn : List (Addr × PySem.Obj)) (xe : Value → Shared → Prop) : XOk c cs C d (X.tr pn xe) nm :=
  ⟨o.nms, o.knd, o.nN, o.nd, o.calm, o.un, o.rm, o.dv, fun p hp => ⟨⟨(o.fs p hp).1.ex⟩, (o.fs p hp).2⟩, o.gs, o.fr, fun ci hc => ⟨(o.cl ci hc).1, fun q hq => ⟨⟨((o.cl ci hc).2.1 q hq).1.ex⟩, ((o.cl ci hc).2.1 q hq).2⟩, (o.cl ci hc).2.2⟩, fun p hp => ⟨(o.xc p hp).mg, (o.xc p hp).hg, (o.xc p hp).xk, fun h => ⟨((o.xc p hp).mx h).oc, ((o.xc p hp).mx h).nd, ((o.xc p hp).mx h).ini⟩, (o.xc p hp).nx⟩, o.d40⟩
theorem ini_fn {d : DefI} {fa C : Addr} {fd : FuncData} {xs : List W} (hF : FunD K d.name d.qual (defArgs d.st) (defBody d.st) (defScope d.st) [] [] fa fd) (T : OexC K C) (hno : ∀ x ∈ xs, PySem.W.findIn K (.ref C) (S x) = some none) (h0 : xs.isEmpty = false) (hl : xs.length ≤ 100) (hp : d.ps.length = xs.length + 1)
    (sc : FnScope d.N d.ps (defScope d.st)) (hb : iniB d.N (defScope d.st).names xs 1 (defBody d.st) = true) : FnOk Pg w K mg base CX0 20 fa fd d.ps (spI C xs) := by
  refine hF.ok sc (fun vs H Q E h => by rw [spI_len h, hp]) (fun cdv A outer s H vs Q E hr h => ?_)
  cases xs with
  | nil => cases h0
  | cons x xs =>
    refine ⟨_, ini1 (X := cxOf CX0 Pg w K mg base d.N d.qual (defScope d.st) fa cdv A outer s H E) T hno hb (by simp at hl; omega), ?_⟩
    obtain ⟨a, us, rfl, h1, h2, k⟩ := h
    exact ⟨a, us, rfl, fun j u hj => by
      have hlt : j < us.length := (List.getElem?_eq_some_iff.mp hj).1
      show (L2.start d.N (V.ref a :: us))[1 + j]? = some (some u)
      unfold L2.start
      rw [List.getElem?_append_left (by simp; omega), List.getElem?_map, Nat.add_comm, List.getElem?_cons_succ, hj]
      rfl, h1, h2, k⟩
theorem all_ok (T : TopOk K0 K mg cs P fs gs fr cl xl ds) (ht : Pg.given.tree = none) (sr : ∀ h : Heap, K.In h → (∃ mb, h.Ns builtinsNs mb ∧ ∀ x : Str, x ≠ "__name__" → mb x = bootBuiltins x) → h.NoSeer) (n : Nat) : ∀ (d : DefI), d ∈ ds → ∀ fn fd, P d.idx = some fn → FunD K d.name d.qual (defArgs d.st) (defBody d.st) (defScope d.st) [] [] (He.fAd K0 d.at_) fd → (FnOk Pg w K mg base CX0 (n + 40) (He.fAd K0 d.at_) fd d.ps (spK K cs fn.kind d.ps.length (call P n d.idx))) ∧ (kB P d.idx = 1 → FnOk Pg w K mg base (L2.CX Pg w) (n + 40) (He.fAd K0 d.at_) fd d.ps (spX K cs d.ps.length (rcall P n d.idx))) ∧ (kB P d.idx = 2 → FnOk Pg w K mg base (L2.CX Pg w) (n + 40) (He.fAd K0 d.at_) fd d.ps (spXM K cs d.ps.length (rcall P n d.idx))) := by
  induction n using Nat.strongRecOn with
  | ind n ih =>
  intro d hd fn fd hfn hF
  have noF : ∀ vs H Q E, ¬ spF K cs d.ps.length (call P 0 d.idx) vs H Q E := fun vs H Q E h => by
    obtain ⟨F, B, as, args, st, r, st', _, _, _, h, _⟩ := h
    simp [call] at h
  have noM : ∀ vs H Q E, ¬ spM K cs d.ps.length (call P 0 d.idx) vs H Q E := fun vs H Q E h => by
    obtain ⟨F, B, as, args, st, r, st', _, _, _, h, _⟩ := h
    simp [call] at h
  have noX : ∀ vs H Q E, ¬ spX K cs d.ps.length (rcall P 0 d.idx) vs H Q E := fun vs H Q E h => by
    obtain ⟨F, B, args, d0, _, _, _, h, _⟩ := h
    simp [rcall] at h
  have noXM : ∀ vs H Q E, ¬ spXM K cs d.ps.length (rcall P 0 d.idx) vs H Q E := fun vs H Q E h => by
    obtain ⟨F, B, as, args, st, x, _, _, _, h, _⟩ := h
    simp [rcall] at h
  cases n with
  | zero =>
    refine ⟨?_, fun _ => ⟨fun vs H Q E h => absurd h (noX vs H Q E), fun A outer s H args us vs Q E _ _ _ _ h => absurd h (noX vs H Q E)⟩, fun _ => ⟨fun vs H Q E h => absurd h (noXM vs H Q E), fun A outer s H args us vs Q E _ _ _ _ h => absurd h (noXM vs H Q E)⟩⟩
    cases hk : fn.kind with
    | fn => exact ⟨fun vs H Q E h => absurd h (noF vs H Q E), fun A outer s H args us vs Q E _ _ _ _ h => absurd h (noF vs H Q E)⟩
    | tr _ _ _ _ _ => exact ⟨fun vs H Q E h => absurd h (noF vs H Q E), fun A outer s H args us vs Q E _ _ _ _ h => absurd h (noF vs H Q E)⟩
    | me => exact ⟨fun vs H Q E h => absurd h (noM vs H Q E), fun A outer s H args us vs Q E _ _ _ _ h => absurd h (noM vs H Q E)⟩
    | rb _ => exact ⟨fun vs H Q E h => absurd h (noM vs H Q E), fun A outer s H args us vs Q E _ _ _ _ h => absurd h (noM vs H Q E)⟩
    | rbm _ => exact ⟨fun vs H Q E h => absurd h (noM vs H Q E), fun A outer s H args us vs Q E _ _ _ _ h => absurd h (noM vs H Q E)⟩
    | mk a b => exact ⟨fun vs H Q E h => absurd h (noM vs H Q E), fun A outer s H args us vs Q E _ _ _ _ h => absurd h (noM vs H Q E)⟩
  | succ n =>
    obtain ⟨⟨ok, bd⟩, _⟩ := T.fd d hd
    unfold okD at ok
    rw [hfn] at ok
    simp only [Bool.and_eq_true, decide_eq_true_eq] at ok
    obtain ⟨⟨⟨⟨⟨⟨o1, o2⟩, o3⟩, o4⟩, o5⟩, o7⟩, o6⟩ := ok
    have sc := scopeB_ok o4
    have raw : ∀ (m : Nat), m ≤ n → ∀ (d' : DefI), d' ∈ ds → kB P d'.idx = 2 → ∃ fa, fa = He.fAd K0 d'.at_ ∧ FnR Pg w K mg base CX0 (m + 40) fa (spM K cs d'.ps.length (call P m d'.idx)) := fun m hm d' hd' hk' => by
      obtain ⟨⟨ok', bd'⟩, ⟨fd', hF'⟩, _⟩ := T.fd d' hd'
      obtain ⟨fn', hfn', _⟩ := okD_fn ok'
      have h1 := (ih m (by omega) d' hd' fn' fd' hfn' hF').1
      rw [kB_me hfn' hk'] at h1
      exact ⟨_, rfl, (h1.raw (hF'.bindsN bd') .nil).imp fun vs H Q E h => by rw [List.append_nil]; exact h⟩
    have hx : ∀ (CX : CXT) (cdv : Value) (A : Around) (outer : List PySem.Env) (s : Shared) (H : Hp) (E : XK), Room (n + 40) (A.deeper (envOfC d.qual (defScope d.st) s.heap.objs.size (He.fAd K0 d.at_) cdv)) → XOk ⟨d.N, fs, gs, fr, cl, xl.map XI.p⟩ cs (call P n) (n + 40) (cxOf CX Pg w K mg base d.N d.qual (defScope d.st) (He.fAd K0 d.at_) cdv A outer s H E) (defScope d.st).names := fun CX cdv A outer s H E hr => by
      refine ⟨rfl, sc.kind, rfl, sc.nd, rfl, ?_, hr, ?_, fun q hq => ?_, T.gs, T.fr, fun ci hc => ?_, fun q hq => ?_, by omega⟩
      · have := hr.un
        show (A.deeper (envOfC d.qual (defScope d.st) s.heap.objs.size (He.fAd K0 d.at_) cdv)).units + 200 < cLine
        omega
      · intro hf hm s' hk
        refine PySem.PylongRoom.of (hm.nolimit.keeps hk) ?_ (PySem.SeerAt.of ((sr base hm.kin hm.blt).keeps hk) ht hf ?_ ?_ rfl rfl)
        · have := hr.dp
          show (A.deeper (envOfC d.qual (defScope d.st) s.heap.objs.size (He.fAd K0 d.at_) cdv)).depth + 100 < recursionLimit
          omega
        · exact sc.gen
        · exact sc.co
      · have := List.all_eq_true.mp T.fs q hq
        obtain ⟨d', hd', e⟩ := List.any_eq_true.mp this
        simp only [Bool.and_eq_true, decide_eq_true_eq] at e
        obtain ⟨⟨⟨n1, n2⟩, n3⟩, n4⟩ := e
        obtain ⟨⟨ok', bd'⟩, ⟨fd', hF'⟩, hm'⟩ := T.fd d' hd'
        obtain ⟨fn', hfn', hps'⟩ := okD_fn ok'
        have h1 := (ih n (by omega) d' hd' fn' fd' hfn' hF').1
        rw [spK_fn hfn' n4] at h1
        have hga : He.fAd K0 d'.at_ = He.ga K0 q.1 := by rw [n1]; rfl
        refine ⟨⟨He.fAd K0 d'.at_, fd', d'.ps, by rw [hga]; exact hm' _ n1, hF'.kp, hF'.bindsN bd', ?_⟩, ?_⟩
        · rw [← n2, ← n3]
          exact h1
        · rw [← n2, ← n3]
          exact call_len hfn' hps' n
      · have hb := List.all_eq_true.mp T.cb ci hc
        simp only [Bool.and_eq_true] at hb
        obtain ⟨⟨_, b1⟩, b2⟩ := hb
        obtain ⟨t1, t2, t3, t4, t5⟩ := T.cl ci hc
        refine ⟨⟨_, t1, t2, t3⟩, fun q hq => ?_, fun q hq => ?_⟩
        · obtain ⟨d', hd', e⟩ := List.any_eq_true.mp (List.all_eq_true.mp b1 q hq)
          simp only [Bool.and_eq_true, decide_eq_true_eq] at e
          obtain ⟨⟨⟨n1, n2⟩, n3⟩, n4⟩ := e
          obtain ⟨fa, hfa, hR⟩ := raw n (Nat.le_refl _) d' hd' n4
          have hma : He.fAd K0 d'.at_ = He.ma K0 (He.ga K0 ci.name) (S q.1) := by rw [n1]; rfl
          obtain ⟨⟨ok', _⟩, _⟩ := T.fd d' hd'
          obtain ⟨fn', hfn', hps'⟩ := okD_fn ok'
          rw [hfa, hma, n2, n3] at hR
          refine ⟨⟨_, _, t1, t2, t4 q hq, hR⟩, ?_⟩
          rw [← n2, ← n3]
          exact call_len hfn' hps' n
        · rw [hq] at b2
          dsimp only at b2
          cases hP : P q.1 with
          | none => rw [hP] at b2; cases b2
          | some fk =>
            rw [hP] at b2
            dsimp only at b2
            split at b2
            case h_2 => cases b2
            rename_i kc ki hkind
            simp only [Bool.and_eq_true, decide_eq_true_eq] at b2
            obtain ⟨⟨c1, c2⟩, c3⟩ := b2
            obtain ⟨d', hd', e⟩ := List.any_eq_true.mp c3
            simp only [Bool.and_eq_true, decide_eq_true_eq] at e
            obtain ⟨⟨⟨n1, n2⟩, n3⟩, n4⟩ := e
            obtain ⟨u1, u2⟩ := t5 (by rw [hq]; simp)
            cases n with
            | zero => exact .inl fun a s => by simp [call]
            | succ m =>
              obtain ⟨fa, hfa, hR⟩ := raw m (Nat.le_succ _) d' hd' n4
              have hma : He.fAd K0 d'.at_ = He.ma K0 (He.ga K0 ci.name) "__init__" := by rw [n1]; rfl
              rw [hfa, hma, n2, n3] at hR
              refine .inr ⟨m + 40, ci.idx, call P m ki, _, _, (by omega), t1, u1, u2, hR, fun a s r er => ?_⟩
              simp only [call, hP, Option.bind_some, hkind, runK] at er
              split at er
              case isFalse => cases er
              rename_i hlen
              obtain ⟨⟨r1, s1⟩, e1, e2⟩ := obnd er
              subst c1
              refine ⟨by rw [hlen, c2], s1, ?_⟩
              dsimp only at e2
              split at e2
              · cases e2
                exact ⟨e1, rfl⟩
              · cases e2
      · obtain ⟨x, hxl, rfl⟩ := List.mem_map.mp hq
        have xf := T.xl x hxl
        have ok1 := xf.ok.ok
        unfold okI at ok1
        refine ⟨xf.mg, xf.ga, xf.xk, fun hne => ?_, fun he => xf.nx (by
          cases hi : x.ini with
          | none => rfl
          | some di =>
            rw [hi] at ok1
            simp only [Bool.and_eq_true, Bool.not_eq_true'] at ok1
            have he : x.xs = [] := he
            rw [he] at ok1
            simp at ok1)⟩
        cases hi : x.ini with
        | none =>
          rw [hi] at ok1
          exact absurd (List.isEmpty_iff.mp ok1) hne
        | some di =>
          rw [hi] at ok1
          simp only [Bool.and_eq_true, decide_eq_true_eq, Bool.not_eq_true'] at ok1
          obtain ⟨⟨⟨⟨⟨⟨i1, i2⟩, i3⟩, i4⟩, i5⟩, i6⟩, i7⟩ := ok1
          obtain ⟨m1, m2, m3, fdi, m4⟩ := xf.mx di hi
          exact ⟨m1, i3, _, fdi, di.ps, m2, m3, ini_fn m4 m1 xf.xk.no i1 i2 i4 (scopeB_ok i5) i6, m4.bindsN (xf.ok.bd di hi)⟩
    have hrf : ∀ (X : Cx), X.prog = Pg → X.w = w → X.K = K → X.mg = mg → X.base = base → ∀ p ∈ fs, RfAt X cs (n + 40) p.2.2 p.1 (rcall P n p.2.1) ∧ (∀ a s q, rcall P n p.2.1 a s = some q → a.length = p.2.2 ∧ q.2 = []) := fun X e1 e2 e3 e4 e5 q hq => by
      subst e1 e2 e3 e4 e5
      obtain ⟨d', hd', e⟩ := List.any_eq_true.mp (List.all_eq_true.mp T.fs q hq)
      simp only [Bool.and_eq_true, decide_eq_true_eq] at e
      obtain ⟨⟨⟨n1, n2⟩, n3⟩, n4⟩ := e
      obtain ⟨⟨ok', bd'⟩, ⟨fd', hF'⟩, hm'⟩ := T.fd d' hd'
      obtain ⟨fn', hfn', hps'⟩ := okD_fn ok'
      have h1 := (ih n (by omega) d' hd' fn' fd' hfn' hF').2.1 n4
      have hga : He.fAd K0 d'.at_ = He.ga K0 q.1 := by rw [n1]; rfl
      refine ⟨⟨He.fAd K0 d'.at_, fd', d'.ps, by rw [hga]; exact hm' _ n1, hF'.kp, hF'.bindsN bd', ?_⟩, ?_⟩
      · rw [← n2, ← n3]
        exact h1
      · rw [← n2, ← n3]
        have hnm : nMk fn'.kind = true := by rcases kB_fn hfn' n4 with hk | ⟨_, _, _, _, _, hk⟩ <;> rw [hk] <;> rfl
        refine rcall_len hfn' hps' hnm (fun fr hfr => ?_) n
        unfold okD at ok'
        rw [hfn'] at ok'
        simp only [Bool.and_eq_true, decide_eq_true_eq] at ok'
        have h7 := ok'.1.2
        unfold raiB at h7
        rw [hfr] at h7
        dsimp only at h7
        split at h7
        · rename_i rb e1 e2
          simp only [Bool.and_eq_true, decide_eq_true_eq] at h7
          exact ⟨h7.1.1, rb, e1⟩
        · rename_i rb e1 e2
          exfalso
          rcases kB_fn hfn' n4 with hk | ⟨_, _, _, _, _, hk⟩ <;> rw [hk] at e2 <;> cases e2
        · cases h7
    have rawX : ∀ (m : Nat), m ≤ n → ∀ (d' : DefI), d' ∈ ds → kB P d'.idx = 2 → ∃ fa, fa = He.fAd K0 d'.at_ ∧ FnR Pg w K mg base (L2.CX Pg w) (m + 40) fa (spXM K cs d'.ps.length (rcall P m d'.idx)) ∧ ∀ a s r, rcall P m d'.idx a s = some r → a.length = d'.ps.length := fun m hm d' hd' hk' => by
      obtain ⟨⟨ok', bd'⟩, ⟨fd', hF'⟩, _⟩ := T.fd d' hd'
      obtain ⟨fn', hfn', hps'⟩ := okD_fn ok'
      have h1 := (ih m (by omega) d' hd' fn' fd' hfn' hF').2.2 hk'
      refine ⟨_, rfl, (h1.raw (hF'.bindsN bd') .nil).imp fun vs H Q E h => by rw [List.append_nil]; exact h, ?_⟩
      have hkm := kB_me hfn' hk'
      refine rcall_lenM hfn' hps' (by rw [hkm]; rfl) (fun fr hfr => ?_) m
      unfold okD at ok'
      rw [hfn'] at ok'
      simp only [Bool.and_eq_true, decide_eq_true_eq] at ok'
      have h7 := ok'.1.2
      unfold raiB at h7
      rw [hfr] at h7
      dsimp only at h7
      split at h7
      · simp only [Bool.and_eq_true, decide_eq_true_eq] at h7
        exact h7.1.1
      · simp only [Bool.and_eq_true, decide_eq_true_eq] at h7
        exact h7.1.1
      · cases h7
    have hrm : ∀ (X : Cx), X.prog = Pg → X.w = w → X.K = K → X.mg = mg → X.base = base → ∀ ci ∈ cl, (∀ q ∈ ci.ms, RmAt X cs (n + 40) q.2.2 ci.idx q.1 (rcall P n q.2.1) ∧ ∀ a s r, rcall P n q.2.1 a s = some r → a.length = q.2.2) ∧ ∀ q, ci.mkr = some q → RkAt X cs (n + 40) q.2 ci.name (rcall P n q.1) := fun X e1 e2 e3 e4 e5 ci hc => by
      subst e1 e2 e3 e4 e5
      have hb := List.all_eq_true.mp T.cb ci hc
      simp only [Bool.and_eq_true] at hb
      obtain ⟨⟨_, b1⟩, b2⟩ := hb
      obtain ⟨t1, t2, t3, t4, t5⟩ := T.cl ci hc
      refine ⟨fun q hq => ?_, fun q hq => ?_⟩
      · obtain ⟨d', hd', e⟩ := List.any_eq_true.mp (List.all_eq_true.mp b1 q hq)
        simp only [Bool.and_eq_true, decide_eq_true_eq] at e
        obtain ⟨⟨⟨n1, n2⟩, n3⟩, n4⟩ := e
        obtain ⟨fa, hfa, hR, hlen⟩ := rawX n (Nat.le_refl _) d' hd' n4
        have hma : He.fAd K0 d'.at_ = He.ma K0 (He.ga K0 ci.name) (S q.1) := by rw [n1]; rfl
        rw [hfa, hma, n2, n3] at hR
        rw [n2, n3] at hlen
        exact ⟨⟨_, _, t1, t2, t4 q hq, hR⟩, hlen⟩
      · rw [hq] at b2
        dsimp only at b2
        cases hP : P q.1 with
        | none => rw [hP] at b2; cases b2
        | some fk =>
          rw [hP] at b2
          dsimp only at b2
          split at b2
          case h_2 => cases b2
          rename_i kc ki hkind
          simp only [Bool.and_eq_true, decide_eq_true_eq] at b2
          obtain ⟨⟨c1, c2⟩, c3⟩ := b2
          obtain ⟨d', hd', e⟩ := List.any_eq_true.mp c3
          simp only [Bool.and_eq_true, decide_eq_true_eq] at e
          obtain ⟨⟨⟨n1, n2⟩, n3⟩, n4⟩ := e
          obtain ⟨u1, u2⟩ := t5 (by rw [hq]; simp)
          cases n with
          | zero => exact .inl fun a s => by simp [rcall]
          | succ m =>
            obtain ⟨fa, hfa, hR, _⟩ := rawX m (Nat.le_succ _) d' hd' n4
            have hma : He.fAd K0 d'.at_ = He.ma K0 (He.ga K0 ci.name) "__init__" := by rw [n1]; rfl
            rw [hfa, hma, n2, n3] at hR
            refine .inr ⟨m + 40, ci.idx, rcall P m ki, _, _, (by omega), t1, u1, u2, hR, fun a s r er => ?_⟩
            simp only [rcall, hP, Option.bind_some, hkind] at er
            split at er
            case isFalse => cases er
            rename_i hlen
            subst c1
            exact ⟨by rw [hlen, c2], er⟩
    refine ⟨?_, fun hk1 => ?_, fun hk2 => ?_⟩
    rotate_left
    · refine hF.ok sc (fun vs H Q E h => spX_len h) (fun cdv A outer s H vs Q E hr h => ?_)
      obtain ⟨F, B, args, d0, r, p, hl, ev, k⟩ := h
      have hnm : nMk fn.kind = true := by rcases kB_fn hfn hk1 with hk | ⟨_, _, _, _, _, hk⟩ <;> rw [hk] <;> rfl
      rw [rcall_eq hfn hnm] at ev
      obtain ⟨fr0, e1, e2⟩ := obnd ev
      unfold raiB at o7
      rw [e1] at o7
      dsimp only at o7
      split at o7
      case h_3 => cases o7
      case h_2 =>
        rename_i e2 e3
        exfalso
        rcases kB_fn hfn hk1 with hk | ⟨_, _, _, _, _, hk⟩ <;> rw [hk] at e3 <;> cases e3
      rename_i rb hk2 hk3
      simp only [Bool.and_eq_true, decide_eq_true_eq] at o7
      obtain ⟨⟨p1, p2⟩, p3⟩ := o7
      rw [hk2] at e2
      dsimp only at e2
      unfold runRv at e2
      split at e2
      case isFalse => cases e2
      rename_i hz
      obtain ⟨x, e3, e4⟩ := omap e2
      have o : ROk ⟨d.N, fs, gs, fr, cl, xl.map XI.p⟩ cs (call P n) (rcall P n) (n + 40) (cxOf (L2.CX Pg w) Pg w K mg base d.N d.qual (defScope d.st) (He.fAd K0 d.at_) cdv A outer s H E) (defScope d.st).names (fun cls od _ H => E cls od H) true :=
        { hx (L2.CX Pg w) cdv A outer s H E hr with fn := fun _ => rfl, ps := passes_of (K := fun e s'' => L2.CX Pg w outer H s E e s'') rfl, tk := takes_of (E := E) rfl rfl rfl rfl, rf := hrf _ rfl rfl rfl rfl rfl, rms := fun _ => ⟨⟨E, fun _ _ _ _ h => h, fun _ _ _ _ h => h⟩, hrm _ rfl rfl rfl rfl rfl⟩ }
      refine ⟨_, mRs_ok rb o p3, ?_⟩
      refine ⟨F, B, [], startE fr0 args, [], x, start_rel r p (by rw [hl, p1, o1]) (by rw [p2, o2]) (by rw [p1, p2]; exact o3), e3, fun F' as' H' σ' cls od r' x' q => ?_⟩
      cases e4
      exact k F' H' cls od ⟨r'.fh, r'.bh, List.nodup_nil, rfl, fun _ h => (nomatch h), fun l a o h => (by simp at h)⟩ x'.cut q
    · refine hF.ok sc (fun vs H Q E h => spXM_len h) (fun cdv A outer s H vs Q E hr h => ?_)
      obtain ⟨F, B, as, args, st, x0, r, p, hl, ev, k⟩ := h
      have hkm := kB_me hfn hk2
      rw [rcall_eq hfn (by rw [hkm]; rfl)] at ev
      obtain ⟨fr0, e1, e2⟩ := obnd ev
      unfold raiB at o7
      rw [e1] at o7
      dsimp only at o7
      split at o7
      case h_3 => cases o7
      case h_1 =>
        rename_i e2 e3
        exfalso
        rw [hkm] at e3
        cases e3
      rename_i rb hk2 hk3
      simp only [Bool.and_eq_true, decide_eq_true_eq] at o7
      obtain ⟨⟨p1, p2⟩, p3⟩ := o7
      rw [hk2] at e2
      dsimp only at e2
      unfold runRm at e2
      split at e2
      case isFalse => cases e2
      rename_i hz
      obtain ⟨x, e3, e4⟩ := omap e2
      have o : ROk ⟨d.N, fs, gs, fr, cl, xl.map XI.p⟩ cs (call P n) (rcall P n) (n + 40) (cxOf (L2.CX Pg w) Pg w K mg base d.N d.qual (defScope d.st) (He.fAd K0 d.at_) cdv A outer s H E) (defScope d.st).names (fun cls od _ H => E cls od H) true :=
        { hx (L2.CX Pg w) cdv A outer s H E hr with fn := fun _ => rfl, ps := passes_of (K := fun e s'' => L2.CX Pg w outer H s E e s'') rfl, tk := takes_of (E := E) rfl rfl rfl rfl, rf := hrf _ rfl rfl rfl rfl rfl, rms := fun _ => ⟨⟨E, fun _ _ _ _ h => h, fun _ _ _ _ h => h⟩, hrm _ rfl rfl rfl rfl rfl⟩ }
      refine ⟨_, mRs_ok rb o p3, ?_⟩
      refine ⟨F, B, as, startE fr0 args, st, x, start_rel r p (by rw [hl, p1, o1]) (by rw [p2, o2]) (by rw [p1, p2]; exact o3), e3, fun F' as' H' σ' cls od r' x' q => ?_⟩
      cases e4
      exact k F' as' H' cls od r'.toRSt x' q
    cases hk : fn.kind with
    | fn =>
      show FnOk Pg w K mg base CX0 (n + 1 + 40) (He.fAd K0 d.at_) fd d.ps (spF K cs d.ps.length (call P (n + 1) d.idx))
      refine hF.ok sc (fun vs H Q E h => spF_len h) (fun cdv A outer s H vs Q E hr h => ?_)
      obtain ⟨F, B, as, args, st, ret, st', r, p, hl, ev, k⟩ := h
      simp only [call, hfn, Option.bind_some, hk, runF] at ev
      rw [if_pos (by rw [hl, o1])] at ev
      obtain ⟨⟨ret', s'⟩, ev1, ev2⟩ := obnd ev
      dsimp only at ev2
      split at ev2
      case isFalse => cases ev2
      rename_i hflat
      cases ev2
      obtain ⟨out, e1, e2⟩ := obnd ev1
      have o5' : mSs ⟨d.N, fs, gs, fr, cl, xl.map XI.p⟩ fn.body (defScope d.st).names (defBody d.st) = true := by
        unfold bodyB at o5
        rw [hk] at o5
        exact o5
      refine ⟨_, PSs.nox (mSs_ok fn.body ⟨(hx CX0 cdv A outer s H E hr).nox, fun _ => rfl, PassesOwn.never⟩ o5'), ?_⟩
      refine ⟨F, B, as, startE fn args, st, out, start_rel r p (by rw [hl, o1]) o2 o3, e1, fun e' s2 eo F' as' H' σ' r' x' => ?_, fun v s2 eo F' as' H' u r' x' v' => ?_⟩
      · subst eo
        simp only [endV, Option.some.injEq, Prod.mk.injEq] at e2
        obtain ⟨rfl, rfl⟩ := e2
        exact k F' H' .non (r'.toRSt.cut x'.pre r.len hflat) x'.cut (show Den K F' .non .non from Den.non_iff.mpr rfl)
      · subst eo
        cases v with
        | dat d0 =>
          simp only [endV, Option.some.injEq, Prod.mk.injEq] at e2
          obtain ⟨rfl, rfl⟩ := e2
          exact k F' H' _ (r'.cut x'.pre r.len hflat) x'.cut v'
        | bor d0 => simp [endV] at e2
        | ref l =>
          simp only [endV] at e2
          split at e2
          · cases e2
          · rename_i hlt
            obtain ⟨o, ho, e3⟩ := obnd e2
            split at e3
            case h_2 => cases e3
            rename_i dz hz
            simp only [Option.some.injEq, Prod.mk.injEq] at e3
            obtain ⟨rfl, rfl⟩ := e3
            obtain ⟨a, ea, rfl⟩ := v'
            obtain ⟨z, hob, e4, e5⟩ := r'.obj l a o ea ho
            obtain ⟨f1, f2⟩ := fzO_flat hz
            have am : a ∈ as' := List.mem_of_getElem? ea
            have an : a ∉ as := fun hm => by
              obtain ⟨j, hj, ej⟩ := List.mem_iff_getElem.mp hm
              have e6 := pre_get x'.pre (List.getElem?_eq_getElem hj)
              rw [ej] at e6
              have := nd_ix r'.nd e6 ea
              have := r.len
              omega
            refine k F' H' _ (r'.cut x'.pre r.len hflat) x'.cut ⟨a, hob, rfl, x'.na a am an, z.resolve_left f2, e4, f1, f2, flat_ook f1 e5⟩
        | tup pre l post =>
          simp only [endV] at e2
          split at e2
          · cases e2
          · rename_i hlt
            obtain ⟨o, ho, e3⟩ := obnd e2
            split at e3
            case h_2 => cases e3
            rename_i dz hz
            simp only [Option.some.injEq, Prod.mk.injEq] at e3
            obtain ⟨rfl, rfl⟩ := e3
            obtain ⟨p, vs, ws, a, rfl, t1, t2, t3, ea⟩ := v'
            obtain ⟨z, hob, e4, e5⟩ := r'.obj l a o ea ho
            obtain ⟨f1, f2⟩ := fzO_flat hz
            have am : a ∈ as' := List.mem_of_getElem? ea
            have an : a ∉ as := fun hm => by
              obtain ⟨j, hj, ej⟩ := List.mem_iff_getElem.mp hm
              have e6 := pre_get x'.pre (List.getElem?_eq_getElem hj)
              rw [ej] at e6
              have := nd_ix r'.nd e6 ea
              have := r.len
              omega
            refine k F' H' _ (r'.cut x'.pre r.len hflat) x'.cut ⟨p, vs, ws, a, hob, rfl, t1, t2, t3, x'.na a am an, z.resolve_left f2, e4, f1, f2, flat_ook f1 e5⟩
    | tr tb w0 e0 t0 post =>
      show FnOk Pg w K mg base CX0 (n + 1 + 40) (He.fAd K0 d.at_) fd d.ps (spF K cs d.ps.length (call P (n + 1) d.idx))
      refine hF.ok sc (fun vs H Q E h => spF_len h) (fun cdv A outer s H vs Q E hr h => ?_)
      obtain ⟨F, B, as, args, st, ret, st', r, p, hl, ev, k⟩ := h
      simp only [call, hfn, Option.bind_some, hk, runT] at ev
      rw [if_pos (by rw [hl, o1])] at ev
      obtain ⟨⟨ret', s'⟩, ev1, ev2⟩ := obnd ev
      dsimp only at ev2
      split at ev2
      case isFalse => cases ev2
      rename_i hflat
      cases ev2
      obtain ⟨out, e1, e2⟩ := obnd ev1
      have o5' : mTrD ⟨d.N, fs, gs, fr, cl, xl.map XI.p⟩ fn.body tb w0 e0 t0 post (defScope d.st).names (defBody d.st) = true := by
        unfold bodyB at o5
        rw [hk] at o5
        exact o5
      refine ⟨_, PSs.nox (trD_ok (R := rcall P n) rfl rfl ⟨(hx CX0 cdv A outer s H E hr).nox, fun _ => rfl, PassesOwn.never⟩ (fun Z pn xe tk po =>
        { (hx CX0 cdv A outer s H E hr).nox.tr pn xe with fn := fun _ => rfl, ps := po, tk := tk, rf := hrf _ rfl rfl rfl rfl rfl, rms := fun z => nomatch z }) fn.body o5'), ?_⟩
      refine ⟨F, B, as, startE fn args, st, out, start_rel r p (by rw [hl, o1]) o2 o3, e1, fun e' s2 eo F' as' H' σ' r' x' => ?_, fun v s2 eo F' as' H' u r' x' v' => ?_⟩
      · subst eo
        simp only [endV, Option.some.injEq, Prod.mk.injEq] at e2
        obtain ⟨rfl, rfl⟩ := e2
        exact k F' H' .non (r'.toRSt.cut x'.pre r.len hflat) x'.cut (show Den K F' .non .non from Den.non_iff.mpr rfl)
      · subst eo
        cases v with
        | dat d0 =>
          simp only [endV, Option.some.injEq, Prod.mk.injEq] at e2
          obtain ⟨rfl, rfl⟩ := e2
          exact k F' H' _ (r'.cut x'.pre r.len hflat) x'.cut v'
        | bor d0 => simp [endV] at e2
        | ref l =>
          simp only [endV] at e2
          split at e2
          · cases e2
          · rename_i hlt
            obtain ⟨o, ho, e3⟩ := obnd e2
            split at e3
            case h_2 => cases e3
            rename_i dz hz
            simp only [Option.some.injEq, Prod.mk.injEq] at e3
            obtain ⟨rfl, rfl⟩ := e3
            obtain ⟨a, ea, rfl⟩ := v'
            obtain ⟨z, hob, e4, e5⟩ := r'.obj l a o ea ho
            obtain ⟨f1, f2⟩ := fzO_flat hz
            have am : a ∈ as' := List.mem_of_getElem? ea
            have an : a ∉ as := fun hm => by
              obtain ⟨j, hj, ej⟩ := List.mem_iff_getElem.mp hm
              have e6 := pre_get x'.pre (List.getElem?_eq_getElem hj)
              rw [ej] at e6
              have := nd_ix r'.nd e6 ea
              have := r.len
              omega
            refine k F' H' _ (r'.cut x'.pre r.len hflat) x'.cut ⟨a, hob, rfl, x'.na a am an, z.resolve_left f2, e4, f1, f2, flat_ook f1 e5⟩
        | tup pre l post =>
          simp only [endV] at e2
          split at e2
          · cases e2
          · rename_i hlt
            obtain ⟨o, ho, e3⟩ := obnd e2
            split at e3
            case h_2 => cases e3
            rename_i dz hz
            simp only [Option.some.injEq, Prod.mk.injEq] at e3
            obtain ⟨rfl, rfl⟩ := e3
            obtain ⟨p, vs, ws, a, rfl, t1, t2, t3, ea⟩ := v'
            obtain ⟨z, hob, e4, e5⟩ := r'.obj l a o ea ho
            obtain ⟨f1, f2⟩ := fzO_flat hz
            have am : a ∈ as' := List.mem_of_getElem? ea
            have an : a ∉ as := fun hm => by
              obtain ⟨j, hj, ej⟩ := List.mem_iff_getElem.mp hm
              have e6 := pre_get x'.pre (List.getElem?_eq_getElem hj)
              rw [ej] at e6
              have := nd_ix r'.nd e6 ea
              have := r.len
              omega
            refine k F' H' _ (r'.cut x'.pre r.len hflat) x'.cut ⟨p, vs, ws, a, hob, rfl, t1, t2, t3, x'.na a am an, z.resolve_left f2, e4, f1, f2, flat_ook f1 e5⟩
    | me =>
      show FnOk Pg w K mg base CX0 (n + 1 + 40) (He.fAd K0 d.at_) fd d.ps (spM K cs d.ps.length (call P (n + 1) d.idx))
      refine hF.ok sc (fun vs H Q E h => spM_len h) (fun cdv A outer s H vs Q E hr h => ?_)
      obtain ⟨F, B, as, args, st, ret, st', r, p, hl, ev, k⟩ := h
      simp only [call, hfn, Option.bind_some, hk, runM] at ev
      rw [if_pos (by rw [hl, o1])] at ev
      obtain ⟨out, e1, e2⟩ := omap ev
      have o5' : mSs ⟨d.N, fs, gs, fr, cl, xl.map XI.p⟩ fn.body (defScope d.st).names (defBody d.st) = true := by
        unfold bodyB at o5
        rw [hk] at o5
        exact o5
      refine ⟨_, PSs.nox (mSs_ok fn.body ⟨(hx CX0 cdv A outer s H E hr).nox, fun _ => rfl, PassesOwn.never⟩ o5'), ?_⟩
      refine ⟨F, B, as, startE fn args, st, out, start_rel r p (by rw [hl, o1]) o2 o3, e1, fun e' s2 eo F' as' H' σ' r' x' => ?_, fun v s2 eo F' as' H' u r' x' v' => ?_⟩
      · subst eo
        simp only [endM, Prod.mk.injEq, Ret.val.injEq] at e2
        obtain ⟨rfl, rfl⟩ := e2
        exact k F' as' H' .non r'.toRSt x' vnon
      · subst eo
        simp only [endM, Prod.mk.injEq, Ret.val.injEq] at e2
        obtain ⟨rfl, rfl⟩ := e2
        exact k F' as' H' u r' x' v'
    | mk a b =>
      exfalso
      apply o6
      unfold kB
      rw [hfn]
      dsimp only
      rw [hk]
    | rb _ =>
      exfalso
      apply o6
      unfold kB
      rw [hfn]
      dsimp only
      rw [hk]
    | rbm _ =>
      exfalso
      apply o6
      unfold kB
      rw [hfn]
      dsimp only
      rw [hk]
end
end NK
set_option Elab.async false
set_option linter.all false
set_option autoImplicit false
set_option maxRecDepth 100000
namespace NK
open PySem PySem.Spec PyProof.Rows L2
def Mo (K K' : PySem.W.Frag) : Prop := ∀ a o, K.lookup a = some o → K'.lookup a = some o
section
open PySem.W
variable {K K' : PySem.W.Frag}
theorem Mo.ns (m : Mo K K') {a : Addr} {x : Str} {r : Option Value} (e : nsIn K a x = some r) : nsIn K' a x = some r := by
  unfold nsIn at e ⊢
  cases h : K.lookup a with
  | none => rw [h] at e; cases e
  | some o => rw [h] at e; rw [m _ _ h]; exact e
theorem Mo.own (m : Mo K K') {v : Value} {x : Str} {r : Option Value} (e : ownIn K x v = some r) : ownIn K' x v = some r := by
  unfold ownIn at e ⊢
  split at e
  · exact e
  · rename_i a
    cases h : K.lookup a with
    | none => rw [h] at e; cases e
    | some o =>
      rw [h] at e
      try dsimp only at e ⊢
      rw [m _ _ h]
      try dsimp only
      split at e
      · exact m.ns e
      · cases e
  · rename_i h1 h2
    cases v <;> first | exact e | exact absurd rfl (h1 _) | exact absurd rfl (h2 _)
theorem Mo.along (m : Mo K K') {x : Str} : ∀ {l : List Value} {r : Option Value}, alongIn K x l = some r → alongIn K' x l = some r
  | [], r, e => e
  | c :: l, r, e => by
    unfold alongIn at e ⊢
    split at e
    · rename_i v h; rw [m.own h]; exact e
    · rename_i h; rw [m.own h]; exact m.along e
    · cases e
theorem Mo.find (m : Mo K K') {t : Value} {x : Str} {r : Option Value} (e : findIn K t x = some r) : findIn K' t x = some r := by
  unfold findIn at e ⊢
  split at e
  · exact e
  · rename_i a
    cases h : K.lookup a with
    | none => rw [h] at e; cases e
    | some o =>
      rw [h] at e
      try dsimp only at e ⊢
      rw [m _ _ h]
      try dsimp only
      split at e
      · exact m.along e
      · cases e
  · cases e
theorem Mo.cls (m : Mo K K') {C : Addr} {cd : ClassData} (e : clsIn K C = some cd) : clsIn K' C = some cd := by
  unfold clsIn at e ⊢
  cases h : K.lookup C with
  | none => rw [h] at e; cases e
  | some o => rw [h] at e; rw [m _ _ h]; exact e
theorem Mo.type (m : Mo K K') {v t : Value} (e : typeIn K v = some t) : typeIn K' v = some t := by
  unfold typeIn at e ⊢
  split at e
  · obtain ⟨o, ho, h⟩ := Option.map_eq_some_iff.mp e
    exact Option.map_eq_some_iff.mpr ⟨o, m _ _ ho, h⟩
  · exact e
  · cases e
  · rename_i h1 h2 h3
    cases v <;> first | exact e | exact absurd rfl (h1 _) | exact absurd rfl (h2 _) | exact absurd rfl (h3 _)
theorem Mo.special (m : Mo K K') {v : Value} {x : Str} {r : Option Value} (e : specialIn K v x = some r) : specialIn K' v x = some r := by
  unfold specialIn at e ⊢
  obtain ⟨t, h1, h2⟩ := Option.bind_eq_some_iff.mp e
  exact Option.bind_eq_some_iff.mpr ⟨t, m.type h1, m.find h2⟩
theorem Mo.mro (m : Mo K K') {C : Addr} {b : Value} {r : Bool} (e : mroIn K C b = some r) : mroIn K' C b = some r := by
  unfold mroIn at e ⊢
  obtain ⟨t, h1, h2⟩ := Option.bind_eq_some_iff.mp e
  exact Option.bind_eq_some_iff.mpr ⟨t, m.cls h1, h2⟩
theorem Mo.sub (m : Mo K K') {t b : Value} {r : Bool} (e : subIn K t b = some r) : subIn K' t b = some r := by
  unfold subIn at e ⊢
  split at e
  · exact e
  · exact m.mro e
  · cases e
theorem Mo.inst (m : Mo K K') {v b : Value} {r : Bool} (e : instIn K v b = some r) : instIn K' v b = some r := by
  unfold instIn at e ⊢
  obtain ⟨t, h1, h2⟩ := Option.bind_eq_some_iff.mp e
  exact Option.bind_eq_some_iff.mpr ⟨t, m.type h1, m.sub h2⟩
theorem eq_up {α : Type} [BEq α] {a b : Option α} {c : α} (h : (a == some c) = true) (u : ∀ r, a = some r → b = some r) : (b == some c) = true := by
  cases a with
  | none => cases h
  | some r => rw [u r rfl]; exact h
theorem any_up {α : Type} {a b : Option α} {p : α → Bool} (h : a.any p = true) (u : ∀ r, a = some r → b = some r) : b.any p = true := by
  cases a with
  | none => cases h
  | some r => rw [u r rfl]; exact h
theorem Mo.keep (m : Mo K K') {f : Value} (e : keepIn K f = true) : keepIn K' f = true := by
  unfold keepIn at e ⊢
  split at e
  · rename_i a
    cases h : K.lookup a with
    | none => rw [h] at e; cases e
    | some o =>
      rw [h] at e
      try dsimp only at e ⊢
      rw [m _ _ h]
      try dsimp only
      split at e
      · rfl
      · exact eq_up e fun r hr => m.special hr
      · cases e
  · cases e
theorem Mo.isFn (m : Mo K K') {f : Value} (e : isFn K f = true) : isFn K' f = true := by
  unfold PySem.W.isFn at e ⊢
  exact eq_up e fun r hr => m.type hr
theorem Mo.plainGet (m : Mo K K') {C : Addr} {x : Str} (e : plainGet K C x = true) : plainGet K' C x = true := by
  unfold PySem.W.plainGet at e ⊢
  rw [Bool.and_eq_true] at e ⊢
  exact ⟨eq_up e.1 fun r hr => m.find hr, eq_up e.2 fun r hr => m.find hr⟩
theorem Mo.makes (m : Mo K K') {C : Addr} (e : makesIn K C = true) : makesIn K' C = true := by
  unfold makesIn at e ⊢
  cases h : K.lookup C with
  | none => rw [h] at e; cases e
  | some o =>
    rw [h] at e
    rw [m _ _ h]
    try dsimp only at e ⊢
    split at e
    · simp only [Bool.and_eq_true] at e ⊢
      obtain ⟨⟨e1, e2⟩, e3⟩ := e
      exact ⟨⟨e1, eq_up e2 fun r hr => m.special hr⟩, eq_up e3 fun r hr => m.inst hr⟩
    · cases e
theorem Mo.code (m : Mo K K') {cd : Value} {q : Str} (e : codeIn K cd q = true) : codeIn K' cd q = true := by
  unfold codeIn at e ⊢
  split at e
  · rename_i c
    cases h : K.lookup c with
    | none => rw [h] at e; cases e
    | some o =>
      rw [h] at e
      rw [m _ _ h]
      exact e
  · cases e
theorem Mo.clsO (m : Mo K K') {C : Addr} (c : Cls K C) : Cls K' C := ⟨m.plainGet c.pg, any_up c.hd fun r hr => m.cls hr, any_up c.po fun r hr => m.cls hr, m.find c.sa⟩
theorem Mo.meth (m : Mo K K') {C f : Addr} {x : Str} (c : Meth K C x f) : Meth K' C x f := ⟨m.find c.at_, m.isFn c.fn, m.keep c.kp⟩
theorem Mo.mk (m : Mo K K') {C f : Addr} (c : Mk K C f) : Mk K' C f := ⟨m.makes c.makes, m.find c.init, m.isFn c.fn, m.keep c.kp⟩
theorem Mo.funD (m : Mo K K') {x qual : Str} {params : Arguments} {body : List Stmt} {scope : Scope} {f : Addr} {fd : FuncData} (F : FunD K x qual params body scope [] [] f fd) : FunD K' x qual params body scope [] [] f fd := by
  obtain ⟨⟨oc, od, dV, kV, doc, pm, an, cdv, ct, osl, h1, h2, h3, h4, h5⟩, kp⟩ := F
  refine ⟨⟨oc, od, dV, kV, doc, pm, an, cdv, ct, osl, h1, m _ _ h2, m.code h3, ?_, .inl rfl⟩, m.keep kp⟩
  rcases h4 with h4 | ⟨h4, _⟩
  · exact .inl h4
  · exact absurd rfl h4
end
section
open PySem.W
variable {K K' : PySem.W.Frag}
theorem Mo.takes (m : Mo K K') {a : Value} {r : Bool} (e : takesIn K a = some r) : takesIn K' a = some r := by
  unfold takesIn at e ⊢
  split at e
  · rename_i q h
    rw [m.special h]
    exact e
  · rename_i h
    rw [m.special h]
    obtain ⟨t, h1, h2⟩ := Option.map_eq_some_iff.mp e
    exact Option.map_eq_some_iff.mpr ⟨t, m.special h1, h2⟩
  · cases e
theorem Mo.kitCls (m : Mo K K') {t c : Value} {b : Bool} (e : kitCls K t c = some b) : kitCls K' t c = some b := by
  unfold PySem.W.kitCls at e ⊢
  split at e
  · split at e
    · rename_i C z
      rw [Bool.and_eq_true] at z
      obtain ⟨z0, z1⟩ := z
      obtain ⟨cd, hc⟩ := Option.isSome_iff_exists.mp z0
      rw [if_pos (by rw [Bool.and_eq_true]; exact ⟨by rw [m.cls hc]; rfl, eq_up z1 fun r hr => m.type hr⟩)]
      exact m.sub e
    · cases e
  · split at e
    · rename_i T z
      rw [if_pos z]
      exact m.sub e
    · cases e
  · cases e
theorem Mo.kitOne (m : Mo K K') {t c : Value} {b : Bool} (e : kitOne K t c = some b) : kitOne K' t c = some b := by
  unfold PySem.W.kitOne at e ⊢
  split at e
  · rename_i h; rw [if_pos h]; exact e
  · rename_i h; rw [if_neg h]; exact m.kitCls e
theorem Mo.exm (m : Mo K K') {t c : Value} {b : Bool} (e : exmOne K t c = some b) : exmOne K' t c = some b := by
  unfold exmOne at e ⊢
  split at e
  · rename_i h; rw [if_pos (eq_up h fun r hr => m.sub hr)]; exact m.kitCls e
  · cases e
theorem Mo.excC (m : Mo K K') {C : Addr} (c : ExcC K C) : ExcC K' C := ⟨m.find c.hg, m.find c.hk, m.sub c.hs, any_up c.hd fun r hr => m.cls hr, m.find c.ha, m.special c.hn, m.takes c.ht, m.mro c.hm⟩
theorem Mo.xfC (m : Mo K K') {C : Addr} (c : XfC K C) : XfC K' C := ⟨m.find c.ga, m.find c.gg, m.sub c.exC, any_up c.hdC fun r hr => m.cls hr⟩
theorem Mo.oexC (m : Mo K K') {C : Addr} (c : OexC K C) : OexC K' C := by
  obtain ⟨nm, q, N, bs, bm, sn, sub, ab, col, dd, k0, k1, k2, k3, k5, h1, h2⟩ := c.cls
  exact ⟨⟨nm, q, N, bs, bm, sn, sub, ab, col, dd, k0, k1, k2, k3, k5, m _ _ h1, h2⟩, m.find c.sa, m.sub c.exC, m.type c.tyC, m.keep c.kC⟩
theorem Mo.nsOk (m : Mo K K') {N : Addr} (e : nsOkIn K N = true) : nsOkIn K' N = true := by
  unfold nsOkIn at e ⊢
  cases h : K.lookup N with
  | none => rw [h] at e; cases e
  | some o => rw [h] at e; rw [m _ _ h]; exact e
theorem Mo.tail (m : Mo K K') {bmB : List Value} : ∀ {l : List Value}, tailIn K bmB l = true → tailIn K' bmB l = true
  | [], e => by unfold tailIn at e ⊢; exact e
  | v :: r, e => by
    unfold tailIn at e ⊢
    rw [Bool.or_eq_true] at e ⊢
    rcases e with e | e
    · exact .inl e
    · refine .inr ?_
      split at e
      · rename_i A
        split at e
        · rename_i ho
          rw [m _ _ ho]
          simp only [Bool.and_eq_true] at e ⊢
          exact ⟨⟨m.nsOk e.1.1, eq_up e.1.2 fun r hr => m.ns hr⟩, m.tail e.2⟩
        · cases e
      · cases e
theorem Mo.exc (m : Mo K K') {C : Addr} {bmB : List Value} {n : String} (e : excIn K C bmB n = true) : excIn K' C bmB n = true := by
  unfold excIn at e ⊢
  split at e
  · rename_i dd cd sl ho
    rw [m _ _ ho]
    try dsimp only
    split at e
    · rename_i C' bm k0 k1 k2 k3 n0 k5 h1 h2
      simp only [h1, h2]
      simp only [Bool.and_eq_true] at e ⊢
      exact ⟨⟨⟨e.1.1.1, m.tail e.1.1.2⟩, m.nsOk e.1.2⟩, eq_up e.2 fun r hr => m.ns hr⟩
    · cases e
  · cases e
theorem Mo.nsEq (m : Mo K K') {a : Addr} {x : Str} {r : Option Value} (e : nsIn K a x = some r) (y : Str) : nsIn K' a y = nsIn K a y := by
  unfold nsIn at e ⊢
  cases h : K.lookup a with
  | none => rw [h] at e; cases e
  | some o => rw [m _ _ h]
theorem Mo.ga (m : Mo K K') {x : Str} (h : nsIn K mainGlobals x = some (some (.ref (He.ga K x)))) : He.ga K' x = He.ga K x := by
  have h2 := m.ns h
  unfold He.ga at h2 ⊢
  rw [h2]
end
theorem XFacts.mo {K0 K K' : PySem.W.Frag} {mg : Str → Option Value} {x : XI} (m : Mo K K') (c : XFacts K0 K mg x) : XFacts K0 K' mg x := by
  have e := m.ga c.ga
  have eqn := m.nsEq c.ga
  have gaE : ∀ t : W, He.ga K' (S t) = He.ga K (S t) := fun t => by unfold He.ga; rw [eqn]
  have ty : ∀ t, XTy K' t → XTy K t := fun t h => ⟨h.1, h.2.imp id fun z => by rw [eqn, gaE] at z; exact z⟩
  refine ⟨c.ok, by rw [e]; exact m.ns c.ga, by rw [e]; exact c.mg, ⟨by rw [e]; exact m.excC c.xk.cc, by rw [e]; exact m.xfC c.xk.xf, fun t ht hv => by rw [e, gaE]; exact m.exm (c.xk.ex t (ty t ht) hv), fun y hy => by rw [e]; exact m.find (c.xk.no y hy), fun t ht => ?_⟩, fun d hd => ?_, fun hi => ?_⟩
  · have z := m.kitOne (c.xk.si t (ty t ht))
    rw [e]
    unfold clV at z ⊢
    rw [gaE]
    exact z
  · obtain ⟨h1, h2, h3, fd, h4⟩ := c.mx d hd
    rw [e]
    exact ⟨m.oexC h1, m.find h2, m.type h3, fd, m.funD h4⟩
  · obtain ⟨h1, h2, h3, h4⟩ := c.nx hi
    rw [e]
    exact ⟨m.exc h1, m.keep h2, m.sub h3, m.type h4⟩
theorem TopOk.mo {K0 K K' : PySem.W.Frag} {mg : Str → Option Value} {cs : Nat → Option Addr} {P : Prog} {fs : List (Str × Nat × Nat)} {gs : List (Str × K1)} {fr : List Str} {cl : List CI} {xl : List XI} {ds : List DefI} (T : TopOk K0 K mg cs P fs gs fr cl xl ds) (m : Mo K K') : TopOk K0 K' mg cs P fs gs fr cl xl ds :=
  ⟨fun d hd => ⟨(T.fd d hd).1, ⟨_, m.funD (T.fd d hd).2.1.choose_spec⟩, (T.fd d hd).2.2⟩, T.fs, T.gs, T.fr, T.cb, fun ci hc => ⟨(T.cl ci hc).1, m.clsO (T.cl ci hc).2.1, fun x hx => m.find ((T.cl ci hc).2.2.1 x hx), fun q hq => m.meth ((T.cl ci hc).2.2.2.1 q hq), fun hm => ⟨m.mk ((T.cl ci hc).2.2.2.2 hm).1, ((T.cl ci hc).2.2.2.2 hm).2⟩⟩, fun x hx => (T.xl x hx).mo m⟩
theorem seer_more {K : PySem.W.Frag} {h : Heap} (X : K.In h) (S : h.NoSeer) : ∃ K' : PySem.W.Frag, Mo K K' ∧ K'.In h ∧ ∀ h' : Heap, K'.In h' → (∃ mb, h'.Ns builtinsNs mb ∧ ∀ x : Str, x ≠ "__name__" → mb x = bootBuiltins x) → h'.NoSeer := by
  obtain ⟨mc, nc, c1, c2⟩ := S.statics
  obtain ⟨mm, nm, m1⟩ := S.mods
  obtain ⟨mg, bm, ob, ng, g1, g2, g3, g4⟩ := S.main
  obtain ⟨oc, _, _, hc, _⟩ := id nc
  obtain ⟨om, _, _, hm, _⟩ := id nm
  obtain ⟨og, _, _, hg, _⟩ := id ng
  let E : PySem.W.Frag := [(cStatics, oc), (sysModules, om), (mainGlobals, og), (bm, ob)]
  have hE : ∀ p ∈ E, h.get? p.1 = some p.2 := fun p hp => by
    simp only [E, List.mem_cons, List.not_mem_nil, or_false] at hp
    rcases hp with rfl | rfl | rfl | rfl
    · exact hc
    · exact hm
    · exact hg
    · exact g2
  have look : ∀ a o, (K ++ E).lookup a = some o → h.get? a = some o := fun a o e => by
    rw [List.lookup_append] at e
    cases hk : K.lookup a with
    | some o' =>
      rw [hk] at e
      cases e
      exact X a o hk
    | none =>
      rw [hk] at e
      have e2 : E.lookup a = some o := e
      have : ∀ L : PySem.W.Frag, L.lookup a = some o → (a, o) ∈ L := by
        intro L
        induction L with
        | nil => intro h; cases h
        | cons p L ih =>
          obtain ⟨b, o'⟩ := p
          intro h
          rw [List.lookup_cons] at h
          split at h
          · rename_i hb
            cases h
            rw [beq_iff_eq.mp hb]
            exact List.mem_cons_self
          · exact List.mem_cons_of_mem _ (ih h)
      exact hE (a, o) (this E e2)
  have has : ∀ p ∈ E, ∃ o, (K ++ E).lookup p.1 = some o := fun p hp => by
    rw [List.lookup_append]
    cases hk : K.lookup p.1 with
    | some o' => exact ⟨o', rfl⟩
    | none =>
      have : ∀ L : PySem.W.Frag, p ∈ L → ∃ o, L.lookup p.1 = some o := by
        intro L
        induction L with
        | nil => intro h; cases h
        | cons q L ih =>
          obtain ⟨b, o'⟩ := q
          intro h
          rw [List.lookup_cons]
          split
          · exact ⟨o', rfl⟩
          · rename_i hb
            rcases List.mem_cons.mp h with e | e
            · subst e
              simp at hb
            · exact ih e
      obtain ⟨o, e⟩ := this E hp
      exact ⟨o, by rw [e]; rfl⟩
  have at_ : ∀ p ∈ E, ∀ h' : Heap, (K ++ E).In h' → h'.get? p.1 = some p.2 := fun p hp h' X' => by
    obtain ⟨o, e⟩ := has p hp
    have e1 := X' _ _ e
    have e2 := look _ _ e
    rw [hE p hp] at e2
    rw [e1, e2]
  refine ⟨K ++ E, fun a o e => by rw [List.lookup_append, e]; rfl, look, fun h' X' hb => ?_⟩
  have a1 := at_ (cStatics, oc) (by simp [E]) h' X'
  have a2 := at_ (sysModules, om) (by simp [E]) h' X'
  have a3 := at_ (mainGlobals, og) (by simp [E]) h' X'
  have a4 := at_ (bm, ob) (by simp [E]) h' X'
  exact ⟨⟨mc, nc.at fun o e => by rw [hc] at e; cases e; exact a1, c1, c2⟩, ⟨mm, nm.at fun o e => by rw [hm] at e; cases e; exact a2, m1⟩, hb, ⟨mg, bm, ob, ng.at fun o e => by rw [hg] at e; cases e; exact a3, g1, a4, g3, g4⟩⟩
theorem nk_walk {l : PySem.W.OpenLaw} {k : Nat} {q : Program} {loose : List Str} {XP : (Str → Option Value) → Heap → Prop} {YP : World → Heap → Prop} {dr : DefRec} {P : Prog} {dl : DefI} {x : Str}
    (hn : l.most = some 63) (hdf : dr.params.defaults = []) (hr : Room (k + 40) callerA) (hname : dr.name = dl.name) (hps : dl.ps = [x]) (hat : dl.at_ = (dl.name, none)) (hk : kB P dl.idx = 1) (ht : l.prog.given.tree = none) (hi : importsNone q = true)
    (T : ∀ (w : World) (mg : Str → Option Value) (h : Heap), YP w h → h.Ns mainGlobals mg → ∃ (K : PySem.W.Frag) (cs : Nat → Option Addr) (fs : List (Str × Nat × Nat)) (gs : List (Str × K1)) (fr : List Str) (cl : List CI) (xl : List XI) (ds : List DefI), K.In h ∧ TopOk K K mg cs P fs gs fr cl xl ds ∧ dl ∈ ds)
    (main : ∀ ns : List Int, ns.length ≤ 63 → (∀ z ∈ ns, Builtin.Int.intBits z ≤ 1048576) → call P k dl.idx [.dat (.scr ns)] [] = some (.dat (.bl true), [])) :
    PySem.W.WalkO q loose XP YP l.row.toRowW dr [] (fun f vs => PySem.call f vs) := by
  refine Att.attach_callB hn hdf fun w s₀ s₁ mg mb fa o pm cd doc a vs ns G Y ho hd hcd hmg hobj hints hlen hbits hg => ?_
  obtain ⟨K0, cs, fs, gs, fr, cl, xl, ds, KX0, T0, hdl⟩ := T w mg _ Y G.T.g
  obtain ⟨K, hmo, KX, hsr⟩ := seer_more KX0 (G.T.seer hi)
  have T1 := T0.mo hmo
  obtain ⟨⟨ok, bd⟩, ⟨fd, hF⟩, hm⟩ := T1.fd dl hdl
  rw [hname, hm _ hat] at hmg
  have hga : He.fAd K0 dl.at_ = He.ga K0 dl.name := by rw [hat]; rfl
  rw [← hga] at hmg
  cases hmg
  obtain ⟨fn, hfn, _⟩ := okD_fn ok
  refine law_call (x := x) (CX := CX0) (fd := fd) (k := k + 40) (sp := spF K cs dl.ps.length (call P k dl.idx)) KX G.T.g G.T.b G.T.builtins G.T.nolimit hg hobj hints (Nat.le_trans hlen (by decide)) hr (fun base hK hB => ?_) (fun s v => ?_) (fun H hO hS => ?_) fun H e s' z => z
  · have := (all_ok (Pg := l.prog) (w := w) (base := base) T1 ht hsr k dl hdl fn fd hfn hF).1
    rw [spK_fn hfn hk] at this
    rw [hps] at this ⊢
    exact this
  · have := hF.bindsA bd s [v] (by rw [hps]; rfl)
    rw [hps] at this
    exact this
  · refine ⟨H, fun _ => none, [], [.dat (.scr ns)], [], .dat (.bl true), [], ⟨fun _ _ h => h, fun _ _ h => (by cases h), List.nodup_nil, rfl, fun _ h => (nomatch h), fun l a o h => (by simp at h)⟩, .cons (Den.scr_iff.mpr ⟨a, rfl, hS⟩) .nil, by rw [hps]; rfl, main ns hlen hbits, fun F' H' u r x q => ?_⟩
    have q' : Den K F' (.bl true) u := q
    exact Den.bl_iff.mp q'
def csOf (K : PySem.W.Frag) (cl : List CI) : Nat → Option Addr := fun i => ((cl.find? fun z => z.idx == i).map (·.name)).map (He.ga K)
theorem oexB_ok {K : PySem.W.Frag} {C : Addr} (h : oexB K C = true) : OexC K C := by
  unfold oexB at h
  simp only [Bool.and_eq_true, decide_eq_true_eq] at h
  obtain ⟨⟨⟨⟨h1, h2⟩, h3⟩, h4⟩, h5⟩ := h
  refine ⟨?_, h2, h3, h4, h5⟩
  split at h1
  case h_2 => cases h1
  rename_i dd cd sl ho
  split at h1
  case h_2 => cases h1
  rename_i C' bm k0 k1 k2 k3 n k5 hm hs
  simp only [Bool.and_eq_true, beq_iff_eq, Bool.not_eq_true'] at h1
  obtain ⟨⟨⟨⟨rfl, rfl⟩, hdel⟩, hdct⟩, hb⟩ := h1
  obtain ⟨nm, bs, mro, ns, qn, hd, sn, sub, ab, col, del⟩ := cd
  dsimp only at hm hdel hdct
  subst hm hdel hdct
  have hsl : sl = #[k0, k1, k2, k3, some (.builtin "ValueError.__new__"), k5] := by
    obtain ⟨l⟩ := sl
    simp only at hs
    rw [hs]
  subst hsl
  exact ⟨nm, qn, ns, bs, bm, sn, sub, ab, col, dd, k0, k1, k2, k3, k5, ho, hb⟩
theorem excB_ok {K : PySem.W.Frag} {D : Addr} (h : excB K D = true) : ExcC K D := by
  unfold excB at h
  simp only [Bool.and_eq_true, decide_eq_true_eq] at h
  obtain ⟨⟨⟨⟨⟨⟨⟨h1, h2⟩, h3⟩, h4⟩, h5⟩, h6⟩, h7⟩, h8⟩ := h
  exact ⟨h1, h2, h3, h4, h5, h6, h7, h8⟩
theorem xcB_ok {K : PySem.W.Frag} {w : W} {xs : List W} (h : xcB K w xs = true) : XcK K w xs := by
  unfold xcB at h
  simp only [Bool.and_eq_true, decide_eq_true_eq, List.all_eq_true] at h
  obtain ⟨⟨⟨⟨h1, h2⟩, h3⟩, h4⟩, h5⟩ := h
  have ty : ∀ t, XTy K t → t ∈ xNames ∧ (t = wVal ∨ gaB K t = true) := fun t ht => ⟨ht.1, ht.2.imp id fun z => decide_eq_true z⟩
  refine ⟨excB_ok h1, xfB_ok h2, fun t ht hv => ?_, h4, fun t ht => ?_⟩
  · obtain ⟨m1, m2⟩ := ty t ht
    have h := h3 t m1
    simpa [hv, m2.resolve_left hv] using h
  · obtain ⟨m1, m2⟩ := ty t ht
    have h := h5 t m1
    have h2 : (decide (t = wVal) || gaB K t) = true := by rw [Bool.or_eq_true, decide_eq_true_eq]; exact m2
    rw [h2] at h
    simpa using h
theorem xfacts_of {K : PySem.W.Frag} {mg : Str → Option Value} {h : Heap} {x : XI} (X : K.In h) (G : h.Ns mainGlobals mg) (ok : IOk x) (c : xfactB K x = true) (hf : ∀ d, x.ini = some d → ∃ fd, FunD K d.name d.qual (defArgs d.st) (defBody d.st) (defScope d.st) [] [] (He.fAd K d.at_) fd) : XFacts K K mg x := by
  unfold xfactB at c
  simp only [Bool.and_eq_true] at c
  obtain ⟨⟨c2, c3⟩, c4⟩ := c
  refine ⟨ok, of_decide_eq_true c2, PySem.W.mg_of X G (of_decide_eq_true c2), xcB_ok c3, fun d hd => ?_, fun hi => ?_⟩
  · rw [hd] at c4
    dsimp only at c4
    unfold iniFB at c4
    simp only [Bool.and_eq_true, decide_eq_true_eq] at c4
    exact ⟨oexB_ok c4.1.1, c4.1.2, c4.2, hf d hd⟩
  · rw [hi] at c4
    dsimp only at c4
    unfold xnB at c4
    simp only [Bool.and_eq_true, decide_eq_true_eq] at c4
    exact ⟨c4.1.1.1, c4.1.1.2, c4.1.2, c4.2⟩
theorem top_ok {K : PySem.W.Frag} {mg : Str → Option Value} {h : Heap} {P : Prog} {fs : List (Str × Nat × Nat)} {gs : List (Str × K1)} {fr : List Str} {cl : List CI} {xl : List XI} {ds : List DefI} (X : K.In h) (G : h.Ns mainGlobals mg) (c : He.SaysD (faOf ds gs fr cl) ((ds ++ xl.filterMap XI.ini).map DefI.D) K) (hxf : xl.all (xfactB K) = true) (hxk : ∀ x ∈ xl, IOk x) (ok : ∀ d ∈ ds, DOk P fs gs fr cl xl d) (hfs : fsB P ds fs = true) (hcl : clB P ds cl = true) : TopOk K K mg (csOf K cl) P fs gs fr cl xl ds := by
  have fact : ∀ f ∈ faOf ds gs fr cl, f.ok K = true := fun f hf => by
    obtain ⟨i, hi, e⟩ := List.mem_iff_getElem.mp hf
    exact c.fact i (by rw [List.getElem?_eq_getElem hi, e])
  have factC : ∀ ci ∈ cl, ∀ f ∈ clFa ci, f.ok K = true := fun ci hc f hf => fact f (by
    unfold faOf
    exact List.mem_append_right _ (List.mem_flatMap.mpr ⟨ci, hc, hf⟩))
  refine ⟨fun d hd => ⟨ok d hd, ?_, fun x hx => ?_⟩, hfs, fun p hp => ?_, fun x hx => ?_, hcl, fun ci hc => ⟨?_, ?_, fun x hx => ?_, fun q hq => ?_, fun hm => ?_⟩, fun x hx => xfacts_of X G (hxk x hx) (List.all_eq_true.mp hxf x hx) fun d hd => ?_⟩
  · obtain ⟨i, hi, e⟩ := List.mem_iff_getElem.mp hd
    obtain ⟨fd, hF⟩ := c.def_ i (d := d.D) (by rw [List.getElem?_map, List.getElem?_append_left hi, List.getElem?_eq_getElem hi, e]; rfl)
    exact ⟨fd, hF⟩
  · exact He.glo_ok X G (fact (.glo x) (by
      unfold faOf
      simp only [List.mem_append, List.mem_map, List.mem_filterMap]
      exact .inl (.inl (.inl ⟨d, hd, by rw [hx]⟩))))
  · obtain ⟨y, k⟩ := p
    cases k with
    | inl i =>
      obtain ⟨t, ht⟩ := He.int_ok X G (fact (.int y i) (by unfold faOf; simp only [List.mem_append, List.mem_map]; exact .inl (.inl (.inr ⟨_, hp, rfl⟩))))
      exact ⟨_, ht, ⟨t, rfl⟩⟩
    | inr w =>
      obtain ⟨t, ht⟩ := He.str_ok X G (fact (.str y (S w)) (by unfold faOf; simp only [List.mem_append, List.mem_map]; exact .inl (.inl (.inr ⟨_, hp, rfl⟩))))
      exact ⟨_, ht, ⟨t, rfl⟩⟩
  · exact He.free_ok X G (fact (.free x) (by unfold faOf; simp only [List.mem_append, List.mem_map]; exact .inl (.inr ⟨x, hx, rfl⟩)))
  · have hb := List.all_eq_true.mp hcl ci hc
    simp only [Bool.and_eq_true, decide_eq_true_eq] at hb
    unfold csOf
    rw [hb.1.1]
    rfl
  · exact He.cls_ok (factC ci hc (.cls ci.name) (by unfold clFa; simp))
  · exact He.noat_ok (factC ci hc (.noat ci.name (S x)) (by
      unfold clFa
      simp only [List.mem_append, List.mem_map]
      exact .inl (.inl (.inr ⟨x, hx, rfl⟩))))
  · exact He.meth_ok (factC ci hc (.meth ci.name (S q.1)) (by
      unfold clFa
      simp only [List.mem_append, List.mem_map]
      exact .inl (.inr ⟨q, hq, rfl⟩)))
  · cases hmk : ci.mkr with
    | none => exact absurd hmk hm
    | some q =>
      exact ⟨He.mkr_ok (factC ci hc (.mkr ci.name) (by unfold clFa; rw [hmk]; simp)), He.glo_ok X G (factC ci hc (.glo ci.name) (by unfold clFa; rw [hmk]; simp))⟩
  · have hm : d ∈ xl.filterMap XI.ini := List.mem_filterMap.mpr ⟨x, hx, hd⟩
    obtain ⟨i, hi, e⟩ := List.mem_iff_getElem.mp hm
    exact c.def_ (ds.length + i) (d := d.D) (by rw [List.getElem?_map, List.getElem?_append_right (Nat.le_add_right ..), Nat.add_sub_cancel_left, List.getElem?_eq_getElem hi, e]; rfl)
end NK
set_option Elab.async false
set_option linter.all false
set_option autoImplicit false
set_option maxRecDepth 100000
namespace NK
open PySem L2
def Bd (n : Nat) (i : Int) : Prop := i.natAbs < 2 ^ n
theorem Bd.mono {m n : Nat} {i : Int} (h : Bd m i) (hmn : m ≤ n) : Bd n i := Nat.lt_of_lt_of_le h (Nat.pow_le_pow_right (by decide) hmn)
theorem Bd.mul {m n : Nat} {i j : Int} (h : Bd m i) (k : Bd n j) : Bd (m + n) (i * j) := by
  unfold Bd at *
  rw [Int.natAbs_mul, Nat.pow_add]
  rcases Nat.eq_zero_or_pos i.natAbs with e | e
  · rw [e, Nat.zero_mul]
    exact Nat.mul_pos (Nat.two_pow_pos _) (Nat.two_pow_pos _)
  · exact Nat.mul_lt_mul_of_lt_of_le h (Nat.le_of_lt k) (Nat.two_pow_pos _)
theorem Bd.add {m n : Nat} {i j : Int} (h : Bd m i) (k : Bd n j) : Bd (max m n + 1) (i + j) := by
  have h1 := h.mono (Nat.le_max_left m n)
  have k1 := k.mono (Nat.le_max_right m n)
  unfold Bd at *
  rw [Nat.pow_succ]
  omega
theorem Bd.neg {n : Nat} {i : Int} (h : Bd n i) : Bd n (-i) := by
  unfold Bd at *
  rw [Int.natAbs_neg]; exact h
theorem Bd.sub {m n : Nat} {i j : Int} (h : Bd m i) (k : Bd n j) : Bd (max m n + 1) (i - j) := by
  rw [Int.sub_eq_add_neg]
  exact h.add k.neg
theorem Bd.of_le {n : Nat} {i : Int} {b : Nat} (h : i.natAbs ≤ b) (hb : b < 2 ^ n) : Bd n i := Nat.lt_of_le_of_lt h hb
theorem Bd.le_of {n : Nat} {i j : Int} (h : Bd n j) (hb : i.natAbs ≤ j.natAbs) : Bd n i := Nat.lt_of_le_of_lt hb h
theorem okMul_bd {m n : Nat} {i j : Int} (h : Bd m i) (k : Bd n j) (hm : m + n < 100000000 := by decide) : okMul i j = true := by
  unfold okMul
  have h1 : i.natAbs.log2 ≤ m := by
    by_cases h0 : i.natAbs = 0
    · rw [h0]; exact Nat.zero_le _
    · exact Nat.le_of_lt ((Nat.log2_lt h0).mpr h)
  have h2 : j.natAbs.log2 ≤ n := by
    by_cases h0 : j.natAbs = 0
    · rw [h0]; exact Nat.zero_le _
    · exact Nat.le_of_lt ((Nat.log2_lt h0).mpr k)
  exact decide_eq_true (by omega)
theorem okDiv_bd {n : Nat} {j : Int} (h0 : j ≠ 0) (h : Bd n j) (hn : n ≤ 100000000 := by decide) : okDiv j = true := by
  unfold okDiv
  exact decide_eq_true h0
theorem okPow_of {i j : Int} (h0 : 0 ≤ j := by decide) (h1 : j ≤ 1000000 := by decide) (h2 : i.natAbs < 2 ^ 64 := by decide) : okPow i j = true := by
  unfold okPow
  rw [decide_eq_true h0, decide_eq_true h1, decide_eq_true h2]
  rfl
theorem bd_intBits {z : Int} {n : Nat} (h : PySem.Builtin.Int.intBits z ≤ n) : Bd n z := by
  unfold PySem.Builtin.Int.intBits at h
  unfold Bd
  split at h
  · rename_i e
    simp at e
    rw [e]
    simpa using Nat.two_pow_pos n
  · exact Nat.lt_of_lt_of_le Nat.lt_log2_self (Nat.pow_le_pow_right (by decide) h)
section
variable (c : Env → Sto → Option (Bool × Sto)) (b : Env → Sto → Option Out)
theorem whV_f {env : Env} {st st' : Sto} (h : c env st = some (false, st')) : whV c b env st = some (.nx env st') := by
  rw [whV_eq, h]; rfl
theorem whV_t {env e : Env} {st st' s : Sto} (h : c env st = some (true, st')) (hb : b env st' = some (.nx e s)) : whV c b env st = whV c b e s := by
  rw [whV_eq, h]
  simp only [Option.bind_some, if_true, hb]
end
theorem forV_inv {bind : D → Env → Option Env} {body : Env → Sto → Option Out} (I : Nat → Env → Sto → Prop) : ∀ {ds : List D} {k : Nat} {env : Env} {st : Sto}, I k env st →
    (∀ i d env st, ds[i]? = some d → I (k + i) env st → ∃ e1 e s, bind d env = some e1 ∧ body e1 st = some (.nx e s) ∧ I (k + i + 1) e s) → ∃ e s, forV bind body ds env st = some (.nx e s) ∧ I (k + ds.length) e s
  | [], k, env, st, h, _ => ⟨env, st, rfl, h⟩
  | d :: ds, k, env, st, h, hs => by
    obtain ⟨e1, e, s, h1, h2, h3⟩ := hs 0 d env st rfl h
    obtain ⟨e', s', h4, h5⟩ := forV_inv I (ds := ds) (k := k + 1) (env := e) (st := s) h3 fun i d' env st hi hI => by
      have := hs (i + 1) d' env st (by simpa using hi) (by rw [show k + (i + 1) = k + 1 + i by omega]; exact hI)
      rw [show k + (i + 1) + 1 = k + 1 + i + 1 by omega] at this
      exact this
    refine ⟨e', s', ?_, by rw [List.length_cons, show k + (ds.length + 1) = k + 1 + ds.length by omega]; exact h5⟩
    simp only [forV, h1, h2, Option.bind_some, h4]
theorem rngL_get {lo hi : Int} {i : Nat} {d : D} (h : (rngL lo hi)[i]? = some d) : d = .int (lo + i) ∧ (i : Int) < hi - lo := by
  unfold rngL at h
  rw [List.getElem?_map] at h
  obtain ⟨c', hc', e⟩ := Option.map_eq_some_iff.mp h
  obtain ⟨hlt, e2⟩ := List.getElem?_eq_some_iff.mp hc'
  rw [List.getElem_range] at e2
  subst e2
  rw [List.length_range] at hlt
  exact ⟨e.symm, by omega⟩
theorem rngL_len {lo hi : Int} : (rngL lo hi).length = (hi - lo).toNat := by unfold rngL; simp
theorem rngOk_small {lo hi : Int} (h1 : -1000000 ≤ lo) (h2 : hi ≤ 1000000) (h3 : -1000000 ≤ hi) (h4 : lo ≤ 1000000) : rngOk lo hi = true := by
  unfold rngOk LIM
  simp only [Bool.and_eq_true, decide_eq_true_eq]
  omega
end NK
set_option Elab.async false
set_option linter.all false
set_option autoImplicit false
set_option maxRecDepth 100000
namespace NK
open PySem L2
theorem nr {α : Sort _} {a b : α} (h : a = b) : a = b := h
@[simp high] theorem ob_some {α β : Type} {a : α} {f : α → Option β} : (some a).bind f = f a := nr rfl
@[simp high] theorem om_some {α β : Type} {a : α} {f : α → β} : (some a).map f = some (f a) := nr rfl
section
variable {C : Calls} {env : Env} {st : Sto}
@[simp] theorem e_int {i : Int} : evE C (.int i) env st = some (.dat (.int i), st) := nr rfl
@[simp] theorem e_bl {i : Bool} : evE C (.bl i) env st = some (.dat (.bl i), st) := nr rfl
@[simp] theorem e_non : evE C .non env st = some (.dat .non, st) := nr rfl
@[simp] theorem e_str {i : W} : evE C (.str i) env st = some (.dat (.str i), st) := nr rfl
@[simp] theorem e_var {i : Nat} : evE C (.var i) env st = (match env[i]? with | some (some v) => some (v, st) | _ => none) := nr rfl
@[simp] theorem e_gl {w : W} {d : D} : evE C (.gl w d) env st = some (.dat d, st) := nr rfl
@[simp] theorem e_tup {es : List E} : evE C (.tup es) env st = (evEs C es env st).bind fun r => (toDs r.1 r.2).map fun q => (.dat (.tup q.1), q.2) := nr rfl
@[simp] theorem e_bin {o : BOp} {a b : E} : evE C (.bin o a b) env st = (evE C a env st).bind fun r => (evE C b env r.2).bind fun q => (binV o r.1 q.1 q.2).map fun v => (v, q.2) := nr rfl
@[simp] theorem e_neg {a : E} : evE C (.neg a) env st = (evE C a env st).bind fun r => (intOf r.1).map fun i => (.dat (.int (-i)), r.2) := nr rfl
@[simp] theorem e_not {a : E} : evE C (.not a) env st = ((evE C a env st).bind boolR).map fun r => (.dat (.bl (!r.1)), r.2) := nr rfl
@[simp] theorem e_and {a b : E} : evE C (.and a b) env st = ((evE C a env st).bind boolR).bind fun r => if r.1 then evE C b env r.2 else some (.dat (.bl false), r.2) := nr rfl
@[simp] theorem e_or {a b : E} : evE C (.or a b) env st = ((evE C a env st).bind boolR).bind fun r => if r.1 then some (.dat (.bl true), r.2) else evE C b env r.2 := nr rfl
@[simp] theorem e_cmp {o : COp} {a b : E} : evE C (.cmp o a b) env st = (evE C a env st).bind fun r => (evE C b env r.2).bind fun q => (cmpV o r.1 q.1 q.2).map fun c => (.dat (.bl c), q.2) := nr rfl
@[simp] theorem e_chain {o o' : COp} {a b c : E} : evE C (.chain o o' a b c) env st = (evE C a env st).bind fun r => (evE C b env r.2).bind fun q => (cmpV o r.1 q.1 q.2).bind fun t =>
      if t then (evE C c env q.2).bind fun s => (cmpV o' q.1 s.1 s.2).map fun t => (.dat (.bl t), s.2) else some (.dat (.bl false), q.2) := nr rfl
@[simp] theorem e_ite {c a b : E} : evE C (.ite c a b) env st = ((evE C c env st).bind boolR).bind fun r => if r.1 then evE C a env r.2 else evE C b env r.2 := nr rfl
@[simp] theorem e_idx {a i : E} : evE C (.idx a i) env st = (evE C a env st).bind fun r => (evE C i env r.2).bind fun q => (idxV r.1 q.1 q.2).map fun d => (.dat d, q.2) := nr rfl
@[simp] theorem e_slc {a : E} {lo hi : Option E} : evE C (.slc a lo hi) env st = (evE C a env st).bind fun r => (evP C lo env r.2).bind fun l => (evP C hi env l.2).bind fun h => (slcV r.1 l.1 h.1 h.2).map fun d => (.dat d, h.2) := nr rfl
def kept (q : Ret × Sto) : Option (Val × Sto) := match q.1 with
  | .dat d => some (.dat d, q.2)
  | .own o => (fzO o).map fun d => (.dat d, q.2)
  | .val _ => none
  | .tup pre o post => (fzO o).bind fun d => if prs (pre ++ d :: post) then none else some (.dat (.tup (pre ++ d :: post)), q.2)
@[simp] theorem kept_dat {d : D} : kept (.dat d, st) = some (.dat d, st) := nr rfl
@[simp] theorem kept_tup {o : Obj} {pre post : List D} : kept (.tup pre o post, st) = (fzO o).bind fun d => if prs (pre ++ d :: post) then none else some (.dat (.tup (pre ++ d :: post)), st) := nr rfl
@[simp] theorem kept_own {o : Obj} : kept (.own o, st) = (fzO o).map fun d => (.dat d, st) := nr rfl
@[simp] theorem e_call {f : Nat} {m : List Bool} {es : List E} : evE C (.call f m es) env st = (evEs C es env st).bind fun r => (callV C f m r.1 r.2).bind kept := by
  show (evEs C es env st).bind _ = _
  congr 1
def taken' (q : Ret × Sto) : Option (Val × Sto) := match q.1 with
  | .dat _ => none
  | .own o => some (.ref q.2.length, q.2 ++ [o])
  | .val _ => none
  | .tup _ _ _ => none
@[simp] theorem taken_own {o : Obj} : taken' (.own o, st) = some (.ref st.length, st ++ [o]) := nr rfl
@[simp] theorem e_callA {f : Nat} {m : List Bool} {es : List E} : evE C (.callA f m es) env st = (evEs C es env st).bind fun r => (callV C f m r.1 r.2).bind taken' := by
  show (evEs C es env st).bind _ = _
  congr 1
def takenT (q : Ret × Sto) : Option (Val × Sto) := match q.1 with
  | .dat d => some (.dat d, q.2)
  | .own _ => none
  | .val _ => none
  | .tup pre o post => some (.tup pre q.2.length post, q.2 ++ [o])
@[simp] theorem takenT_dat {d : D} : takenT (.dat d, st) = some (.dat d, st) := nr rfl
@[simp] theorem takenT_tup {o : Obj} {pre post : List D} : takenT (.tup pre o post, st) = some (.tup pre st.length post, st ++ [o]) := nr rfl
@[simp] theorem e_callT {f : Nat} {m : List Bool} {es : List E} : evE C (.callT f m es) env st = (evEs C es env st).bind fun r => (callV C f m r.1 r.2).bind takenT := by
  show (evEs C es env st).bind _ = _
  congr 1
@[simp] theorem e_tupV {es : List E} : evE C (.tupV es) env st = (evEs C es env st).bind fun r => (toV1 r.1).map fun q => (.tup q.1 q.2.1 q.2.2, r.2) := nr rfl
@[simp] theorem e_idxT {a i : E} : evE C (.idxT a i) env st = (evE C a env st).bind fun r => (evE C i env r.2).bind fun q => (intOf q.1).bind fun k => (idxTV r.1 k).map fun v => (v, q.2) := nr rfl
@[simp] theorem tySn_dat {d : D} : tySn st (.dat d) = snap st (.dat d) := nr rfl
@[simp] theorem tySn_ref {l : Nat} : tySn st (.ref l) = snap st (.ref l) := nr rfl
@[simp] theorem tySn_bor {d : D} : tySn st (.bor d) = snap st (.bor d) := nr rfl
@[simp] theorem tySn_tup {l : Nat} {pre post : List D} : tySn st (.tup pre l post) = some (.tup []) := nr rfl
@[simp] theorem e_bi {b : Bi} {es : List E} : evE C (.bi b es) env st = (evEs C es env st).bind fun r => (biV b r.1 r.2).map fun d => (.dat d, r.2) := nr rfl
@[simp] theorem e_mt {m : Mt} {o : E} {es : List E} : evE C (.mt m o es) env st = (evE C o env st).bind fun r => (evEs C es env r.2).bind fun q => if kindV r.2 r.1 = kindV q.2 r.1 then mtV m r.1 q.1 q.2 else none := nr rfl
@[simp] theorem e_isi {a : E} {t : Ty} : evE C (.isi a [t]) env st = (evE C a env st).bind fun r => (tySn r.2 r.1).bind fun d => (isTy d t).map fun b => (.dat (.bl b), r.2) := by
  show (evE C a env st).bind _ = _
  congr 1
  funext r
  congr 1
  funext q
  simp only [anyTy]
  cases isTy q t <;> simp
@[simp] theorem e_fz {o : O} : evE C (.fz o) env st = (evO C o env st).bind fun r => (fzO r.1).map fun d => (.dat d, r.2) := nr rfl
@[simp] theorem e_new {o : O} : evE C (.new o) env st = (evO C o env st).map fun r => (.ref r.2.length, r.2 ++ [r.1]) := nr rfl
@[simp] theorem e_attr {c : Nat} {a : E} {x : W} : evE C (.attr c a x) env st = (evE C a env st).bind fun r => ((insV c r.1 r.2).bind fun fs => fs.lookup x).map fun v => (v, r.2) := nr rfl
@[simp] theorem e_meth {c f : Nat} {x : W} {o : E} {es : List E} : evE C (.meth c f x o es) env st = (evE C o env st).bind fun r => (insV c r.1 r.2).bind fun fs => if (fs.lookup x).isSome then none else
      (evEs C es env r.2).bind fun q => (C f (r.1 :: q.1) q.2).bind valR := nr rfl
@[simp] theorem e_make {g : Nat} {es : List E} : evE C (.make g es) env st = (evEs C es env st).bind fun q => (C g q.1 q.2).bind valR := nr rfl
@[simp] theorem valR_val {v : Val} : valR (.val v, st) = some (v, st) := nr rfl
@[simp] theorem ins_ref {c l : Nat} : insV c (.ref l) st = (match st[l]? with
    | some (.ins c' fs) => if c' = c then some fs else none
    | _ => none) := nr rfl
@[simp] theorem setAV_ref {c l : Nat} {x : W} {v : Val} : setAV c x (.ref l) v st = (match st[l]? with
    | some (.ins c' fs) => if c' = c ∧ fs.length < 900 then some (st.set l (.ins c' (putA x v fs))) else none
    | _ => none) := nr rfl
@[simp] theorem st_setA {c : Nat} {o v : E} {x : W} : evS C (.setA c o x v) env st = (evE C v env st).bind fun r => (evE C o env r.2).bind fun q => (setAV c x q.1 r.1 q.2).map fun s => .nx env s := nr rfl
@[simp] theorem st_augA {c : Nat} {o v : E} {x : W} {op : BOp} : evS C (.augA c o x op v) env st = (evE C o env st).bind fun r => ((insV c r.1 r.2).bind fun fs => (fs.lookup x).bind intOf).bind fun i => (evE C v env r.2).bind fun q => (intOf q.1).bind fun j => (augV op i j).bind fun k => (setAV c x r.1 (.dat (.int k)) q.2).map fun s => .nx env s := nr rfl
@[simp] theorem augV_add {i j : Int} : augV .add i j = some (i + j) := nr rfl
@[simp] theorem augV_sub {i j : Int} : augV .sub i j = some (i - j) := nr rfl
@[simp] theorem es_nil : evEs C [] env st = some ([], st) := nr rfl
@[simp] theorem es_cons {e : E} {es : List E} : evEs C (e :: es) env st = (evE C e env st).bind fun r => (evEs C es env r.2).map fun q => (r.1 :: q.1, q.2) := nr rfl
@[simp] theorem p_none : evP C none env st = some (none, st) := nr rfl
@[simp] theorem p_some {e : E} : evP C (some e) env st = (evE C e env st).bind fun r => (intOf r.1).map fun i => (some i, r.2) := nr rfl
noncomputable def COMP (C : Calls) (elt : E) (tg : List Nat) (tup : Bool) (c : Option E) (own : List Nat) (ds : List D) (env : Env) (st : Sto) : Option (List D × Sto) :=
  compV own (wipeE env own) (fun d e => bindT tg tup d e) (fun e s => evC C c e s) (fun e s => evE C elt e s) ds st
@[simp] theorem o_lst {es : List E} : evO C (.lst es) env st = (evEs C es env st).bind fun r => (toDs r.1 r.2).map fun q => (.lst q.1, q.2) := nr rfl
@[simp] theorem o_dic {kvs : List E} : evO C (.dic kvs) env st = (evKV C kvs env st).map fun r => (.dK r.1.1 r.1.2, r.2) := nr rfl
@[simp] theorem o_dicT : evO C .dicT env st = some (.dT [] [], st) := nr rfl
@[simp] theorem o_comp {elt : E} {tg : List Nat} {tup : Bool} {it : I} {c : Option E} {own : List Nat} : evO C (.comp elt tg tup it c own) env st = (evI C it env st).bind fun r => (COMP C elt tg tup c own r.1 env r.2).map fun q => (.lst q.1, q.2) := nr rfl
noncomputable def COMPP (C : Calls) (elt : E) (tg : List Nat) (tup : Bool) (c : Option E) (own : List Nat) (l : Nat) (ds0 ds : List D) (env : Env) (st : Sto) : Option (List D × Sto) :=
  compG (lstS l ds0) own (wipeE env own) (fun d e => bindT tg tup d e) (fun e s => evC C c e s) (fun e s => evE C elt e s) ds st
@[simp] theorem o_compP {elt : E} {tg : List Nat} {tup : Bool} {i : Nat} {c : Option E} {own : List Nat} : evO C (.compP elt tg tup i c own) env st = (plV env i st).bind fun r => (COMPP C elt tg tup c own r.1 r.2 r.2 env st).map fun q => (.lst q.1, q.2) := nr rfl
@[simp] theorem o_compD {elt : E} {tg : List Nat} {tup : Bool} {i : Nat} {c : Option E} {own : List Nat} : evO C (.compD elt tg tup i c own) env st = (kyV env i).bind fun r => (COMP C elt tg tup c own r env st).map fun q => (.lst q.1, q.2) := nr rfl
@[simp] theorem o_list {a : E} : evO C (.list a) env st = (evE C a env st).bind fun r => (asLS r.2 r.1).map fun ds => (.lst ds, r.2) := nr rfl
@[simp] theorem o_dict {a : E} : evO C (.dict a) env st = (evE C a env st).bind fun r => (asDP r.2 r.1).map fun q => (.dK q.1 q.2, r.2) := nr rfl
@[simp] theorem o_cut {a : E} {lo hi : Option E} : evO C (.cut a lo hi) env st = (evE C a env st).bind fun r => (evP C lo env r.2).bind fun l => (evP C hi env l.2).bind fun h => (asL h.2 r.1).map fun ds => (.lst (cutL ds l.1 h.1), h.2) := nr rfl
@[simp] theorem o_cat {a b : E} : evO C (.cat a b) env st = (evE C a env st).bind fun r => (evE C b env r.2).bind fun q => (asX q.2 r.1).bind fun xs => (asX q.2 q.1).bind fun ys =>
      if xs.length + ys.length ≤ LIM then some (.lst (xs ++ ys), q.2) else none := nr rfl
@[simp] theorem o_rep {a b : E} : evO C (.rep a b) env st = (evE C a env st).bind fun r => (evE C b env r.2).bind fun q => (asX q.2 r.1).bind fun xs => (intOf q.1).bind fun k =>
      if xs.length * k.toNat ≤ LIM ∧ -(2 ^ 63) ≤ k ∧ k < 2 ^ 63 then some (.lst (List.replicate k.toNat xs).flatten, q.2) else none := nr rfl
@[simp] theorem o_lkeys {a : E} : evO C (.lkeys a) env st = (evE C a env st).bind fun r => (lkV r.1 r.2).map fun ds => (.lst ds, r.2) := nr rfl
@[simp] theorem o_lrev {a : E} : evO C (.lrev a) env st = (evE C a env st).bind fun r => (asL r.2 r.1).map fun ds => (.lst ds.reverse, r.2) := nr rfl
@[simp] theorem o_evn {a : E} : evO C (.evn a) env st = (evE C a env st).bind fun r => (asL r.2 r.1).map fun ds => (.lst (evens ds), r.2) := nr rfl
@[simp] theorem kv_cons' {k v : E} {r : List E} : evKV C (k :: v :: r) env st = (evE C k env st).bind fun x => (evE C v env x.2).bind fun y => (toD y.1 y.2).bind fun p => (evKV C r env p.2).bind fun t => (keyR x.1).bind fun k =>
      if (dlook t.1.1 t.1.2 k).isSome then none else some ((k :: t.1.1, p.1 :: t.1.2), t.2) := nr rfl
@[simp] theorem kv_nil' : evKV C [] env st = some (([], []), st) := nr rfl
@[simp] theorem i_e {a : E} : evI C (.e a) env st = (evE C a env st).bind fun r => (itV r.1).map fun ds => (ds, r.2) := nr rfl
@[simp] theorem i_rng {es : List E} : evI C (.rng es) env st = (evEs C es env st).bind fun r => (rngV r.1).map fun ds => (ds, r.2) := nr rfl
@[simp] theorem i_enum {a : E} : evI C (.enum a) env st = (evE C a env st).bind fun r => (itQ r.1).map fun ds => (enumL 0 ds, r.2) := nr rfl
@[simp] theorem i_zip {a b : E} : evI C (.zip a b) env st = (evE C a env st).bind fun r => (evE C b env r.2).bind fun q => (itZ r.1 q.1).map fun ds => (ds, q.2) := nr rfl
@[simp] theorem i_rev {a : E} : evI C (.rev a) env st = (evE C a env st).bind fun r => (itV r.1).map fun ds => (ds.reverse, r.2) := nr rfl
@[simp] theorem i_revr {es : List E} : evI C (.revr es) env st = (evEs C es env st).bind fun r => (rngV r.1).map fun ds => (ds.reverse, r.2) := nr rfl
noncomputable def WH (C : Calls) (c : E) (b : List St) (env : Env) (st : Sto) : Option Out := whV (fun e s => (evE C c e s).bind boolR) (fun e s => evSs C b e s) env st
noncomputable def FOR (C : Calls) (tg : List Nat) (tup : Bool) (b : List St) (ds : List D) (env : Env) (st : Sto) : Option Out := forV (fun d e => bindT tg tup d e) (fun e s => evSs C b e s) ds env st
@[simp] theorem st_set {i : Nat} {e : E} : evS C (.set i e) env st = (evE C e env st).map fun r => .nx (env.set i (some r.1)) r.2 := nr rfl
@[simp] theorem st_setT {is : List Nat} {e : E} : evS C (.setT is e) env st = (evE C e env st).bind fun r => (asU r.1).bind fun ds => (bindT.go is ds env).map fun e1 => .nx e1 r.2 := nr rfl
@[simp] theorem st_setU {is : List Nat} {e : E} : evS C (.setU is e) env st = (evE C e env st).bind fun r => (unpV r.1).bind fun vs => (goV is vs env).map fun e1 => .nx e1 r.2 := nr rfl
@[simp] theorem st_par {i j : Nat} {a b : E} : evS C (.par i j a b) env st = (evE C a env st).bind fun r => (evE C b env r.2).map fun q => .nx ((env.set i (some r.1)).set j (some q.1)) q.2 := nr rfl
@[simp] theorem st_sub {o k v : E} : evS C (.sub o k v) env st = (evE C v env st).bind fun r => (toD r.1 r.2).bind fun d => (evE C o env d.2).bind fun p => (evE C k env p.2).bind fun q => (storeV p.1 q.1 d.1 q.2).map fun s => .nx env s := nr rfl
@[simp] theorem st_aug {i : Nat} {o : BOp} {e : E} : evS C (.aug i o e) env st = (match env[i]? with
    | some (some (.dat (.int x))) => (evE C e env st).bind fun r => (intOf r.1).bind fun y => (match o with
      | .add => some (.nx (env.set i (some (.dat (.int (x + y))))) r.2)
      | .sub => some (.nx (env.set i (some (.dat (.int (x - y))))) r.2)
      | _ => none)
    | _ => none) := nr rfl
@[simp] theorem st_ext {i : Nat} {e : E} : evS C (.ext i e) env st = (match env[i]? with
    | some (some (.ref l)) => (evE C e env st).bind fun r => (extV l r.1 r.2).map fun s => .nx env s
    | _ => none) := nr rfl
@[simp] theorem st_expr {e : E} : evS C (.expr e) env st = (evE C e env st).map fun r => .nx env r.2 := nr rfl
@[simp] theorem st_if {c : E} {a b : List St} : evS C (.ifS c a b) env st = ((evE C c env st).bind boolR).bind fun r => if r.1 then evSs C a env r.2 else evSs C b env r.2 := nr rfl
@[simp] theorem st_wh {c : E} {b : List St} : evS C (.wh c b) env st = WH C c b env st := nr rfl
@[simp] theorem st_for {tg : List Nat} {tup : Bool} {it : I} {b : List St} : evS C (.forS tg tup it b) env st = (evI C it env st).bind fun r => FOR C tg tup b r.1 env r.2 := nr rfl
noncomputable def FORP (C : Calls) (tg : List Nat) (tup : Bool) (b : List St) (l : Nat) (ds0 ds : List D) (env : Env) (st : Sto) : Option Out := forG (lstS l ds0) (fun d e => bindT tg tup d e) (fun e s => evSs C b e s) ds env st
@[simp] theorem st_forP {tg : List Nat} {tup : Bool} {i : Nat} {b : List St} : evS C (.forP tg tup i b) env st = (plV env i st).bind fun r => FORP C tg tup b r.1 r.2 r.2 env st := nr rfl
@[simp] theorem st_forD {tg : List Nat} {tup : Bool} {i : Nat} {b : List St} : evS C (.forD tg tup i b) env st = (kyV env i).bind fun r => FOR C tg tup b r env st := nr rfl
@[simp] theorem st_forK {tg : List Nat} {tup : Bool} {i j k : Nat} {b : List St} : evS C (.forK tg tup i j k b) env st = (kyP i j k env).bind fun r => FOR C tg tup b r env st := nr rfl
@[simp] theorem st_ret {e : E} : evS C (.ret e) env st = (evE C e env st).map fun r => .rt r.1 r.2 := nr rfl
@[simp] theorem st_retN : evS C .retN env st = some (.rt (.dat .non) st) := nr rfl
@[simp] theorem st_pass : evS C .pass env st = some (.nx env st) := nr rfl
@[simp] theorem st_nev : evS C .nev env st = none := nr rfl
@[simp] theorem st_frz {i : Nat} : evS C (.frz i) env st = (match env[i]? with
    | some (some v) => (toD v st).map fun q => .nx (env.set i (some (.dat q.1))) q.2
    | _ => none) := nr rfl
noncomputable def THEN (C : Calls) (ss : List St) : Out → Option Out
  | .nx e s => evSs C ss e s
  | .rt v s => some (.rt v s)
@[simp] theorem then_nx {ss : List St} : THEN C ss (.nx env st) = evSs C ss env st := nr rfl
@[simp] theorem then_rt {ss : List St} {v : Val} : THEN C ss (.rt v st) = some (.rt v st) := nr rfl
@[simp] theorem ss_nil' : evSs C [] env st = some (.nx env st) := nr rfl
@[simp] theorem ss_cons' {s : St} {ss : List St} : evSs C (s :: ss) env st = (evS C s env st).bind (THEN C ss) := by
  show (evS C s env st).bind _ = _
  congr 1
end
section
variable {st : Sto} {i j : Int} {b c : Bool} {v w : W} {ds es : List D}
@[simp] theorem b_add : binV .add (.dat (.int i)) (.dat (.int j)) st = some (.dat (.int (i + j))) := nr rfl
@[simp] theorem b_sub : binV .sub (.dat (.int i)) (.dat (.int j)) st = some (.dat (.int (i - j))) := nr rfl
@[simp] theorem b_mul : binV .mul (.dat (.int i)) (.dat (.int j)) st = if okMul i j then some (.dat (.int (i * j))) else none := nr rfl
@[simp] theorem b_fdiv : binV .fdiv (.dat (.int i)) (.dat (.int j)) st = if okDiv j then some (.dat (.int (i.fdiv j))) else none := nr rfl
@[simp] theorem b_mod : binV .mod (.dat (.int i)) (.dat (.int j)) st = if j = 0 then none else some (.dat (.int (i.fmod j))) := nr rfl
@[simp] theorem b_pow : binV .pow (.dat (.int i)) (.dat (.int j)) st = if okPow i j then some (.dat (.int (i ^ j.toNat))) else none := nr rfl
@[simp] theorem b_shl : binV .shl (.dat (.int i)) (.dat (.int j)) st = if okPow i j then some (.dat (.int (i * 2 ^ j.toNat))) else none := nr rfl
@[simp] theorem b_str : binV .add (.dat (.str v)) (.dat (.str w)) st = if v.length + w.length ≤ LIM then some (.dat (.str (v ++ w))) else none := nr rfl
@[simp] theorem b_tup : binV .add (.dat (.tup ds)) (.dat (.tup es)) st = if ds.length + es.length ≤ LIM then some (.dat (.tup (ds ++ es))) else none := nr rfl
@[simp] theorem b_mulS : binV .mul (.dat (.str v)) (.dat (.int j)) st = if v.length ≤ 1000 ∧ 0 ≤ j ∧ j ≤ 1000 then some (.dat (.str (List.replicate j.toNat v).flatten)) else none := nr rfl
@[simp] theorem b_lst : binV .add (.dat (.lst ds)) (.dat (.lst es)) st = if ds.length + es.length ≤ LIM then some (.dat (.lst (ds ++ es))) else none := nr rfl
@[simp] theorem b_rep : binV .mul (.dat (.tup ds)) (.dat (.int j)) st = if ds.isEmpty = false ∧ ds.length ≤ 1000 ∧ 2 ≤ j ∧ j ≤ 1000 ∧ prs (List.replicate j.toNat ds).flatten = false then some (.dat (.tup (List.replicate j.toNat ds).flatten)) else if ds.isEmpty = false ∧ j = 1 then some (.dat (.tup ds)) else if ds.isEmpty = false ∧ j = 0 then some (.dat (.tup [])) else none := nr rfl
@[simp] theorem c_lt : cmpV .lt (.dat (.int i)) (.dat (.int j)) st = some (decide (i < j)) := nr rfl
@[simp] theorem c_le : cmpV .le (.dat (.int i)) (.dat (.int j)) st = some (decide (i ≤ j)) := nr rfl
@[simp] theorem c_gt : cmpV .gt (.dat (.int i)) (.dat (.int j)) st = some (decide (j < i)) := nr rfl
@[simp] theorem c_ge : cmpV .ge (.dat (.int i)) (.dat (.int j)) st = some (decide (j ≤ i)) := nr rfl
@[simp] theorem c_eqI : cmpV .eq (.dat (.int i)) (.dat (.int j)) st = some (decide (i = j)) := by
  simp [cmpV, snap, eqOk, nod, dep, eqD]
  cases h : decide (i = j) <;> simp_all
@[simp] theorem c_neI : cmpV .ne (.dat (.int i)) (.dat (.int j)) st = some (decide (i ≠ j)) := by
  simp [cmpV, snap, eqOk, nod, dep, eqD]
  cases h : decide (i = j) <;> simp_all
@[simp] theorem c_eqB : cmpV .eq (.dat (.bl b)) (.dat (.bl c)) st = some (b == c) := by
  simp [cmpV, snap, eqOk, nod, dep, eqD]
@[simp] theorem c_neB : cmpV .ne (.dat (.bl b)) (.dat (.bl c)) st = some (!(b == c)) := by
  simp [cmpV, snap, eqOk, nod, dep, eqD]
@[simp] theorem c_eqS : cmpV .eq (.dat (.str v)) (.dat (.str w)) st = some (v == w) := by
  simp [cmpV, snap, eqOk, nod, dep, eqD]
@[simp] theorem c_neS : cmpV .ne (.dat (.str v)) (.dat (.str w)) st = some (!(v == w)) := by
  simp [cmpV, snap, eqOk, nod, dep, eqD]
@[simp] theorem c_isB : cmpV .is (.dat (.bl b)) (.dat (.bl c)) st = some (b == c) := nr rfl
@[simp] theorem c_isnotB : cmpV .isnot (.dat (.bl b)) (.dat (.bl c)) st = some (!(b == c)) := nr rfl
@[simp] theorem c_isN : cmpV .is (.dat .non) (.dat .non) st = some true := nr rfl
@[simp] theorem c_isnotN : cmpV .isnot (.dat .non) (.dat .non) st = some false := nr rfl
@[simp] theorem c_isTN : cmpV .is (.dat (.tup ds)) (.dat .non) st = some false := nr rfl
@[simp] theorem c_isnotTN : cmpV .isnot (.dat (.tup ds)) (.dat .non) st = some true := nr rfl
@[simp] theorem c_isIN : cmpV .is (.dat (.int i)) (.dat .non) st = some false := nr rfl
@[simp] theorem c_isnotIN : cmpV .isnot (.dat (.int i)) (.dat .non) st = some true := nr rfl
@[simp] theorem iO_int : intOf (.dat (.int i)) = some i := nr rfl
@[simp] theorem bR {b : Bool} : boolR (.dat (.bl b), st) = some (b, st) := nr rfl
@[simp] theorem tD {d : D} : toD (.dat d) st = some (d, st) := nr rfl
@[simp] theorem tD_ref {l : Nat} : toD (.ref l) st = ((st[l]?).bind fzO).map fun d => (d, st.set l .dead) := nr rfl
@[simp] theorem tDs_nil : toDs [] st = some ([], st) := nr rfl
@[simp] theorem tDs_cons {v : Val} {vs : List Val} : toDs (v :: vs) st = (toD v st).bind fun r => (toDs vs r.2).map fun q => (r.1 :: q.1, q.2) := nr rfl
@[simp] theorem sn_dat {d : D} : snap st (.dat d) = some d := nr rfl
@[simp] theorem sn_bor {d : D} : snap st (.bor d) = some d := nr rfl
@[simp] theorem sn_ref {l : Nat} : snap st (.ref l) = (st[l]?).bind fzO := nr rfl
@[simp] theorem fz_lst : fzO (.lst ds) = some (.lst ds) := nr rfl
@[simp] theorem fz_dK {ks : List K1} : fzO (.dK ks ds) = some (.dK ks ds) := nr rfl
@[simp] theorem fz_dT {ks : List (List K1)} : fzO (.dT ks ds) = some (.dT ks ds) := nr rfl
@[simp] theorem aU_tup : asU (.dat (.tup ds)) = some ds := nr rfl
@[simp] theorem aU_lst : asU (.dat (.lst ds)) = some ds := nr rfl
@[simp] theorem bT_lst {env : Env} {is : List Nat} : bindT is true (.lst ds) env = bindT.go is ds env := nr rfl
@[simp] theorem aT_tup : asT (.dat (.tup ds)) = some ds := nr rfl
@[simp] theorem go_nil {env : Env} : bindT.go [] [] env = some env := nr rfl
@[simp] theorem go_cons {env : Env} {i : Nat} {is : List Nat} {d : D} : bindT.go (i :: is) (d :: ds) env = bindT.go is ds (env.set i (some (.dat d))) := nr rfl
@[simp] theorem bT_one {env : Env} {i : Nat} {d : D} : bindT [i] false d env = some (env.set i (some (.dat d))) := nr rfl
@[simp] theorem bT_tup {env : Env} {is : List Nat} : bindT is true (.tup ds) env = bindT.go is ds env := nr rfl
@[simp] theorem iT_lst : itV (.dat (.lst ds)) = some ds := nr rfl
@[simp] theorem iT_tup : itV (.dat (.tup ds)) = some ds := nr rfl
@[simp] theorem iT_scr {ns : List Int} : itV (.dat (.scr ns)) = some (ns.map .int) := nr rfl
@[simp] theorem iT_bor : itV (.bor (.lst ds)) = some ds := nr rfl
@[simp] theorem rg_1 : rngV [.dat (.int j)] = if rngOk 0 j then some (rngL 0 j) else none := nr rfl
@[simp] theorem rg_2 : rngV [.dat (.int i), .dat (.int j)] = if rngOk i j then some (rngL i j) else none := nr rfl
@[simp] theorem ty_int {t : Ty} : isTy (.int i) t = some (t == .int) := nr rfl
@[simp] theorem ty_bl {t : Ty} : isTy (.bl b) t = some (t == .int || t == .bool) := nr rfl
@[simp] theorem ty_str {t : Ty} : isTy (.str v) t = some (t == .str) := nr rfl
@[simp] theorem ty_tup {t : Ty} : isTy (.tup ds) t = some (t == .tuple) := nr rfl
@[simp] theorem ty_lst {t : Ty} : isTy (.lst ds) t = some (t == .list) := nr rfl
@[simp] theorem ty_dK {ks : List K1} {t : Ty} : isTy (.dK ks ds) t = some (t == .dict) := nr rfl
@[simp] theorem ty_non {t : Ty} : isTy .non t = some false := nr rfl
@[simp] theorem ix_tup : idxV (.dat (.tup ds)) (.dat (.int i)) st = at? ds i := nr rfl
@[simp] theorem ix_lst : idxV (.dat (.lst ds)) (.dat (.int i)) st = at? ds i := nr rfl
@[simp] theorem ix_scr {ns : List Int} : idxV (.dat (.scr ns)) (.dat (.int i)) st = (at? ns i).map .int := nr rfl
@[simp] theorem ix_bor : idxV (.bor (.lst ds)) (.dat (.int i)) st = at? ds i := nr rfl
@[simp] theorem ix_refL {l : Nat} (h : st[l]? = some (.lst ds)) : idxV (.ref l) (.dat (.int i)) st = at? ds i := by
  simp [idxV, snap, h, fzO]
theorem at_nat {α : Type} {xs : List α} {n : Nat} : at? xs (n : Int) = xs[n]? := by
  unfold at? ix
  by_cases h : n < xs.length
  · rw [if_pos (by omega), if_pos (by omega)]; rfl
  · rw [if_pos (by omega), if_neg (by omega), List.getElem?_eq_none (by omega)]; rfl
@[simp] theorem at_0 {α : Type} {a : α} {xs : List α} : at? (a :: xs) 0 = some a := by
  rw [show (0 : Int) = ((0 : Nat) : Int) from rfl, at_nat]; rfl
@[simp] theorem at_1 {α : Type} {a b : α} {xs : List α} : at? (a :: b :: xs) 1 = some b := by
  rw [show (1 : Int) = ((1 : Nat) : Int) from rfl, at_nat]; rfl
@[simp] theorem at_2 {α : Type} {a b c : α} {xs : List α} : at? (a :: b :: c :: xs) 2 = some c := by
  rw [show (2 : Int) = ((2 : Nat) : Int) from rfl, at_nat]; rfl
@[simp] theorem at_3 {α : Type} {a b c d : α} {xs : List α} : at? (a :: b :: c :: d :: xs) 3 = some d := by
  rw [show (3 : Int) = ((3 : Nat) : Int) from rfl, at_nat]; rfl
@[simp] theorem at_4 {α : Type} {a b c d e : α} {xs : List α} : at? (a :: b :: c :: d :: e :: xs) 4 = some e := by
  rw [show (4 : Int) = ((4 : Nat) : Int) from rfl, at_nat]; rfl
@[simp] theorem sl_tup {lo hi : Option Int} : slcV (.dat (.tup ds)) lo hi st = some (.tup (cutL ds lo hi)) := nr rfl
@[simp] theorem sl_lst {lo hi : Option Int} : slcV (.dat (.lst ds)) lo hi st = some (.lst (cutL ds lo hi)) := nr rfl
@[simp] theorem sl_scr {ns : List Int} {lo hi : Option Int} : slcV (.dat (.scr ns)) lo hi st = some (.lst (cutL (ns.map .int) lo hi)) := nr rfl
@[simp] theorem sl_bor {lo hi : Option Int} : slcV (.bor (.lst ds)) lo hi st = some (.lst (cutL ds lo hi)) := nr rfl
theorem sIx_nat {n d k : Nat} : sIx n d (some (k : Int)) = min k n := by
  show (if (k : Int) < 0 then ((k : Int) + (n : Int)).toNat else min (k : Int).toNat n) = _
  rw [if_neg (by omega), Int.toNat_natCast]
@[simp] theorem bi_lenT : biV .len [.dat (.tup ds)] st = some (.int ds.length) := nr rfl
@[simp] theorem bi_lenL : biV .len [.dat (.lst ds)] st = some (.int ds.length) := nr rfl
@[simp] theorem bi_lenB : biV .len [.bor (.lst ds)] st = some (.int ds.length) := nr rfl
@[simp] theorem bi_lenS {ns : List Int} : biV .len [.dat (.scr ns)] st = some (.int ns.length) := nr rfl
@[simp] theorem bi_lenW : biV .len [.dat (.str v)] st = if v.length ≤ LIM then some (.int v.length) else none := by
  simp only [biV, lenV]; split <;> rfl
@[simp] theorem bi_lenK {ks : List K1} : biV .len [.dat (.dK ks ds)] st = some (.int ks.length) := nr rfl
@[simp] theorem bi_lenR {l : Nat} (h : st[l]? = some (.lst ds)) : biV .len [.ref l] st = some (.int ds.length) := by
  simp [biV, lenV, snap, h, fzO]
theorem abs_eq {a : Int} : (if a < 0 then -a else a) = (a.natAbs : Int) := by
  split <;> omega
@[simp] theorem bi_abs : biV .abs [.dat (.int i)] st = some (.int i.natAbs) := by
  show some (D.int (if i < 0 then -i else i)) = _
  rw [abs_eq]
@[simp] theorem bi_intB : biV .int [.dat (.bl b)] st = some (.int (if b then 1 else 0)) := nr rfl
@[simp] theorem bi_intW : biV .int [.dat (.str w)] st = if w.length ≤ 640 then (PySem.intText? (S w)).map .int else none := nr rfl
@[simp] theorem bi_intI : biV .int [.dat (.int i)] st = some (.int i) := nr rfl
@[simp] theorem bi_str : biV .str [.dat (.int i)] st = if i.natAbs.log2 < 1920 then some (.str (intW i)) else none := nr rfl
@[simp] theorem bi_tupL : biV .tuple [.dat (.lst ds)] st = some (.tup ds) := nr rfl
@[simp] theorem bi_tupT : biV .tuple [.dat (.tup ds)] st = some (.tup ds) := nr rfl
@[simp] theorem bi_tupR {l : Nat} (h : st[l]? = some (.lst ds)) : biV .tuple [.ref l] st = some (.tup ds) := by
  simp [biV, asT, asL, snap, h, fzO]
@[simp] theorem bi_max2 : biV .max2 [.dat (.int i), .dat (.int j)] st = some (.int (if j > i then j else i)) := nr rfl
@[simp] theorem bi_min2 : biV .min2 [.dat (.int i), .dat (.int j)] st = some (.int (if j < i then j else i)) := nr rfl
@[simp] theorem bi_maxD {x : Val} : biV .maxD [x, .dat (.int i)] st = (asL st x).bind fun ds => (intsD ds).map fun ns => .int ((maxOf ns).getD i) := nr rfl
@[simp] theorem m_update {l : Nat} {js : List K1} {es : List D} : mtV .update (.ref l) [.dat (.dK js es)] st = (match st[l]? with
    | some (.dK ks ds) => if ks.length + js.length ≤ LIM then some (.dat .non, st.set l (.dK (updK ks ds js es).1 (updK ks ds js es).2)) else none
    | _ => none) := nr rfl
@[simp] theorem m_clear {l : Nat} : mtV .clear (.ref l) [] st = (match st[l]? with
    | some (.lst _) => some (.dat .non, st.set l (.lst []))
    | some (.dK _ _) => some (.dat .non, st.set l (.dK [] []))
    | _ => none) := nr rfl
@[simp] theorem aLT_lst : asLT st (.dat (.lst ds)) = some ds := nr rfl
@[simp] theorem aLT_tup : asLT st (.dat (.tup ds)) = some ds := nr rfl
@[simp] theorem aLT_scr {ns : List Int} : asLT st (.dat (.scr ns)) = some (ns.map .int) := nr rfl
@[simp] theorem aLT_bor : asLT st (.bor (.lst ds)) = some ds := nr rfl
@[simp] theorem aL_lst : asL st (.dat (.lst ds)) = some ds := nr rfl
@[simp] theorem aL_bor : asL st (.bor (.lst ds)) = some ds := nr rfl
@[simp] theorem aL_scr {ns : List Int} : asL st (.dat (.scr ns)) = some (ns.map .int) := nr rfl
@[simp] theorem aX_lst : asX st (.dat (.lst ds)) = some ds := nr rfl
@[simp] theorem aX_bor : asX st (.bor (.lst ds)) = some ds := nr rfl
@[simp] theorem aX_ref {l : Nat} (h : st[l]? = some (.lst ds)) : asX st (.ref l) = some ds := by
  simp [asX, snap, h, fzO]
@[simp] theorem aL_ref {l : Nat} (h : st[l]? = some (.lst ds)) : asL st (.ref l) = some ds := by
  simp [asL, snap, h, fzO]
@[simp] theorem m_append {l : Nat} {d : D} : mtV .append (.ref l) [.dat d] st = (match st[l]? with
    | some (.lst ds) => if ds.length < LIM then some (.dat .non, st.set l (.lst (ds ++ [d]))) else none
    | _ => none) := nr rfl
@[simp] theorem m_pop {l : Nat} : mtV .pop (.ref l) [] st = (match st[l]? with
    | some (.lst ds) => (ds[ds.length - 1]?).map fun d => (.dat d, st.set l (.lst ds.dropLast))
    | _ => none) := nr rfl
@[simp] theorem m_popAt {l : Nat} : mtV .popAt (.ref l) [.dat (.int i)] st = (match st[l]? with
    | some (.lst ds) => if -(2 ^ 63) ≤ i ∧ i < 2 ^ 63 then (ix ds.length i).bind fun k => (ds[k]?).map fun d => (.dat d, st.set l (.lst (ds.eraseIdx k))) else none
    | _ => none) := nr rfl
@[simp] theorem kd_ref {l : Nat} : kindV st (.ref l) = (match st[l]? with
    | some (.lst _) => 1
    | some (.dK _ _) => 2
    | some (.dT _ _) => 2
    | _ => 0) := by
  unfold kindV
  simp only [sn_ref]
  cases h : st[l]? with
  | none => rfl
  | some o => cases o <;> rfl
@[simp] theorem kd_str : kindV st (.dat (.str v)) = 3 := nr rfl
@[simp] theorem kd_dK {ks : List K1} : kindV st (.dat (.dK ks ds)) = 2 := nr rfl
@[simp] theorem kd_bK {ks : List K1} : kindV st (.bor (.dK ks ds)) = 2 := nr rfl
@[simp] theorem get_ap0 {l r : Sto} {a : Obj} : (l ++ a :: r)[l.length]? = some a := by
  rw [List.getElem?_append_right (Nat.le_refl _), Nat.sub_self]; rfl
@[simp] theorem get_ap1 {l r : Sto} {a b : Obj} : (l ++ a :: b :: r)[l.length + 1]? = some b := by
  rw [List.getElem?_append_right (by omega), show l.length + 1 - l.length = 1 by omega]; rfl
@[simp] theorem get_ap2 {l r : Sto} {a b c : Obj} : (l ++ a :: b :: c :: r)[l.length + 2]? = some c := by
  rw [List.getElem?_append_right (by omega), show l.length + 2 - l.length = 2 by omega]; rfl
@[simp] theorem set_ap0 {l r : Sto} {a x : Obj} : (l ++ a :: r).set l.length x = l ++ x :: r := by
  rw [List.set_append_right _ _ (Nat.le_refl _), Nat.sub_self]; rfl
@[simp] theorem set_ap1 {l r : Sto} {a b x : Obj} : (l ++ a :: b :: r).set (l.length + 1) x = l ++ a :: x :: r := by
  rw [List.set_append_right _ _ (by omega), show l.length + 1 - l.length = 1 by omega]; rfl
@[simp] theorem set_ap2 {l r : Sto} {a b c x : Obj} : (l ++ a :: b :: c :: r).set (l.length + 2) x = l ++ a :: b :: x :: r := by
  rw [List.set_append_right _ _ (by omega), show l.length + 2 - l.length = 2 by omega]; rfl
@[simp] theorem aDK_ref {l : Nat} : asDK st (.ref l) = (match (st[l]?).bind fzO with
    | some (.dK ks ds) => some (ks, ds)
    | _ => none) := rfl
@[simp] theorem aDP_ref {l : Nat} : asDP st (.ref l) = asDK st (.ref l) := by unfold asDP; cases asDK st (.ref l) <;> rfl
@[simp] theorem aDP_dat {ks : List K1} : asDP st (.dat (.dK ks ds)) = some (ks, ds) := by simp [asDP, asDK, snap]
@[simp] theorem aDP_bor {ks : List K1} : asDP st (.bor (.dK ks ds)) = some (ks, ds) := by simp [asDP, asDK, snap]
@[simp] theorem aDP_tup {es : List D} : asDP st (.dat (.tup es)) = (pairsK es).map fun q => updK [] [] q.1 q.2 := by simp [asDP, asDK, snap]
@[simp] theorem aDK_dat {ks : List K1} : asDK st (.dat (.dK ks ds)) = some (ks, ds) := rfl
@[simp] theorem aDK_bor {ks : List K1} : asDK st (.bor (.dK ks ds)) = some (ks, ds) := rfl
@[simp] theorem sV_dK {l : Nat} {k d : D} : storeV (.ref l) (.dat k) d st = (match st[l]? with
    | some (.lst ds) => (match k with | .int i => (ix ds.length i).map fun j => st.set l (.lst (ds.set j d)) | _ => none)
    | some (.dK ks ds) => (toK k).bind fun k => if ks.length < LIM then some (st.set l (.dK (dputK ks ds k d).1 (dputK ks ds k d).2)) else none
    | some (.dT ks ds) => (toTK k).bind fun k => if ks.length < LIM then some (st.set l (.dT (dputK ks ds k d).1 (dputK ks ds k d).2)) else none
    | _ => none) := rfl
@[simp] theorem toK_int : toK (.int i) = some (.inl i) := rfl
@[simp] theorem toK_str : toK (.str v) = some (.inr v) := rfl
theorem c_ne_of {x y : Val} {a b : D} (h1 : snap st x = some a) (h2 : snap st y = some b) (h : eqOk a b = true) : cmpV .ne x y st = some (!eqD a b) := by
  simp [cmpV, h1, h2, h]
theorem c_eq_of {x y : Val} {a b : D} (h1 : snap st x = some a) (h2 : snap st y = some b) (h : eqOk a b = true) : cmpV .eq x y st = some (eqD a b) := by
  simp [cmpV, h1, h2, h]
@[simp] theorem fl_lst : flat (.lst ds) = true := nr rfl
@[simp] theorem fl_dK {ks : List K1} : flat (.dK ks ds) = true := nr rfl
@[simp] theorem fl_dT {ks : List (List K1)} : flat (.dT ks ds) = true := nr rfl
@[simp] theorem fl_dead : flat .dead = true := nr rfl
@[simp] theorem pr_nil {n : Nat} : prep st n [] [] = some ([], [], []) := nr rfl
@[simp] theorem pr_dat {n : Nat} {b : Bool} {bs : List Bool} {d : D} {vs : List Val} : prep st n (b :: bs) (.dat d :: vs) = (prep st n bs vs).map fun r => (.dat d :: r.1, r.2.1, r.2.2) := by cases b <;> rfl
@[simp] theorem pr_bor {n : Nat} {b : Bool} {bs : List Bool} {d : D} {vs : List Val} : prep st n (b :: bs) (.bor d :: vs) = (prep st n bs vs).map fun r => (.bor d :: r.1, r.2.1, r.2.2) := by cases b <;> rfl
@[simp] theorem pr_own {n l : Nat} {bs : List Bool} {vs : List Val} : prep st n (true :: bs) (.ref l :: vs) = (prep st (n + 1) bs vs).map fun r => (.ref n :: r.1, l :: r.2.1, r.2.2) := nr rfl
@[simp] theorem pr_ownT {n l : Nat} {pre post : List D} {bs : List Bool} {vs : List Val} : prep st n (true :: bs) (.tup pre l post :: vs) = (prep st (n + 1) bs vs).map fun r => (.tup pre n post :: r.1, l :: r.2.1, r.2.2) := nr rfl
@[simp] theorem pr_lend {n l : Nat} {bs : List Bool} {vs : List Val} : prep st n (false :: bs) (.ref l :: vs) = ((st[l]?).bind fzO).bind fun d => (prep st n bs vs).map fun r => (.bor d :: r.1, r.2.1, l :: r.2.2) := nr rfl
@[simp] theorem tk_nil : takeSt st [] = some [] := nr rfl
@[simp] theorem tk_cons {l : Nat} {ls : List Nat} : takeSt st (l :: ls) = (st[l]?).bind fun o => if flat o then (takeSt st ls).map (o :: ·) else none := nr rfl
@[simp] theorem bk_nil {os : Sto} : backSt st [] os = st := by cases os <;> rfl
@[simp] theorem bk_cons {l : Nat} {ls : List Nat} {o : Obj} {os : Sto} : backSt st (l :: ls) (o :: os) = backSt (st.set l o) ls os := nr rfl
@[simp] theorem en_nx {k : Nat} {env : Env} : endV k (.nx env st) = some (.dat .non, st.take k) := nr rfl
@[simp] theorem en_tup {k l : Nat} {pre post : List D} : endV k (.rt (.tup pre l post) st) = if l < k then none else (st[l]?).bind fun o => match fzO o with
    | some _ => some (.tup pre o post, st.take k)
    | none => none := nr rfl
@[simp] theorem en_dat {k : Nat} {d : D} : endV k (.rt (.dat d) st) = some (.dat d, st.take k) := nr rfl
def CALLP (C : Calls) (f : Nat) (st : Sto) (r : List Val × List Nat × List Nat) : Option (Ret × Sto) := if r.2.1.Nodup ∧ (∀ x ∈ r.2.2, x ∉ r.2.1) then
    (takeSt st r.2.1).bind fun os => (C f r.1 os).bind fun q => if q.2.all flat && decide (q.2.length = os.length) then some (q.1, backSt st r.2.1 q.2) else none
  else none
@[simp] theorem callV_eq {C : Calls} {f : Nat} {m : List Bool} {vs : List Val} : callV C f m vs st = (prep st 0 m vs).bind (CALLP C f st) := nr rfl
def RETP (st : Sto) (q : Ret × Sto) : Option (Ret × Sto) := if q.2.all flat && decide (q.2.length = 0) then some (q.1, st) else none
@[simp] theorem retP_nil {r : Ret} : RETP st (r, []) = some (r, st) := nr rfl
@[simp] theorem callP_nil {C : Calls} {f : Nat} {as : List Val} {bor : List Nat} : CALLP C f st (as, [], bor) = (C f as []).bind (RETP st) := by
  simp only [CALLP, List.nodup_nil, List.not_mem_nil, not_false_eq_true, implies_true, and_self, if_true, tk_nil, Option.bind_some, List.length_nil, bk_nil]
  rfl
def RETP1 (st : Sto) (l : Nat) (q : Ret × Sto) : Option (Ret × Sto) := match q.2 with
  | [o] => if flat o then some (q.1, st.set l o) else none
  | _ => none
@[simp] theorem retP1_one {l : Nat} {o : Obj} {r : Ret} : RETP1 st l (r, [o]) = if flat o then some (r, st.set l o) else none := nr rfl
theorem callP_one {C : Calls} {f : Nat} {as : List Val} {bor : List Nat} {l : Nat} {o : Obj} (h : st[l]? = some o) (ho : flat o = true) (hb : l ∉ bor) : CALLP C f st (as, [l], bor) = (C f as [o]).bind (RETP1 st l) := by
  have hb' : ∀ x ∈ bor, x ∉ [l] := fun x hx e => hb (by rw [List.mem_singleton] at e; rw [← e]; exact hx)
  simp only [CALLP, List.nodup_cons, List.not_mem_nil, not_false_eq_true, List.nodup_nil, and_self, true_and, if_pos hb', tk_cons, tk_nil, h, ho, Option.bind_some, if_true, Option.map_some]
  cases hC : C f as [o] with
  | none => rfl
  | some q =>
    obtain ⟨r, os⟩ := q
    match os with
    | [] => simp [RETP1]
    | [o'] =>
      simp only [Option.bind_some, retP1_one, List.all_cons, List.all_nil, Bool.and_true, List.length_cons, List.length_nil, decide_true, bk_cons, bk_nil]
    | _ :: _ :: _ => simp [RETP1]
@[simp] theorem callP_1 {C : Calls} {f : Nat} {as : List Val} {bor : List Nat} {l : Nat} : CALLP C f st (as, [l], bor) = if l ∈ bor then none else (st[l]?).bind fun o => if flat o then (C f as [o]).bind (RETP1 st l) else none := by
  by_cases hb : l ∈ bor
  · rw [if_pos hb, CALLP, if_neg]
    rintro ⟨_, h⟩
    exact h l hb (by simp)
  · rw [if_neg hb]
    cases h : st[l]? with
    | none => simp [CALLP, h]
    | some o =>
      by_cases ho : flat o = true
      · rw [callP_one h ho hb]; simp [ho]
      · simp [CALLP, h, ho]
def RETP2 (st : Sto) (l k : Nat) (q : Ret × Sto) : Option (Ret × Sto) := match q.2 with
  | [o, o'] => if flat o && flat o' then some (q.1, (st.set l o).set k o') else none
  | _ => none
@[simp] theorem retP2_two {l k : Nat} {o o' : Obj} {r : Ret} : RETP2 st l k (r, [o, o']) = if flat o && flat o' then some (r, (st.set l o).set k o') else none := nr rfl
@[simp] theorem callP_2 {C : Calls} {f : Nat} {as : List Val} {bor : List Nat} {l k : Nat} : CALLP C f st (as, [l, k], bor) = if l = k ∨ l ∈ bor ∨ k ∈ bor then none else (st[l]?).bind fun o => (st[k]?).bind fun o' => if flat o && flat o' then (C f as [o, o']).bind (RETP2 st l k) else none := by
  by_cases hb : l = k ∨ l ∈ bor ∨ k ∈ bor
  · rw [if_pos hb, CALLP, if_neg]
    rintro ⟨h1, h2⟩
    rcases hb with hb | hb | hb
    · subst hb; simp at h1
    · exact h2 l hb (by simp)
    · exact h2 k hb (by simp)
  · rw [if_neg hb]
    have hb1 : ¬ l = k := fun e => hb (.inl e)
    have hb2 : ¬ l ∈ bor := fun e => hb (.inr (.inl e))
    have hb3 : ¬ k ∈ bor := fun e => hb (.inr (.inr e))
    have hc : [l, k].Nodup ∧ ∀ x ∈ bor, x ∉ [l, k] := by
      refine ⟨by simp [hb1], fun x hx e => ?_⟩
      simp at e
      rcases e with e | e <;> subst e
      · exact hb2 hx
      · exact hb3 hx
    simp only [CALLP, if_pos hc, tk_cons, tk_nil]
    cases h : st[l]? with
    | none => rfl
    | some o =>
      cases h' : st[k]? with
      | none => simp only [Option.bind_some, Option.bind_none]; split <;> rfl
      | some o' =>
        simp only [Option.bind_some, Option.map_some]
        cases ho : flat o <;> cases ho' : flat o' <;> simp
        cases hC : C f as [o, o'] with
        | none => rfl
        | some q =>
          obtain ⟨r, os⟩ := q
          match os with
          | [] => simp [RETP2]
          | [_] => simp [RETP2]
          | [a, b] => simp
          | _ :: _ :: _ :: _ => simp [RETP2]
def CHK (q : Ret × Sto) : Option (Ret × Sto) := if q.2.all flat then some q else none
@[simp] theorem chk_nil {r : Ret} : CHK (r, []) = some (r, []) := nr rfl
@[simp] theorem chk_one {r : Ret} {o : Obj} : CHK (r, [o]) = if flat o then some (r, [o]) else none := by simp [CHK]
theorem call_go {P : Prog} {d i : Nat} {args : List Val} (fn : Fn) (hP : P i = some fn) (hl : args.length = fn.ps) (hk : fn.kind = .fn := by rfl) : call P (d + 1) i args st = ((evSs (call P d) fn.body (startE fn args) st).bind (endV st.length)).bind CHK := by
  simp only [call, hP, Option.bind_some, hk, runF, if_pos hl]
  rfl
def MKP (l : Nat) (q : Ret × Sto) : Option (Ret × Sto) := match q.1 with
    | .val (.dat .non) => some (.val (.ref l), q.2)
    | _ => none
@[simp] theorem mkP_non {l : Nat} : MKP l (.val (.dat .non), st) = some (.val (.ref l), st) := nr rfl
@[simp] theorem endM_nx {env : Env} : endM (.nx env st) = (.val (.dat .non), st) := nr rfl
@[simp] theorem endM_rt {v : Val} : endM (.rt v st) = (.val v, st) := nr rfl
end
theorem prs_two {x y : D} (h : prs [x] = false) : prs [x, y] = false := by
  cases x with
  | tup es =>
    match es, h with
    | [], _ => rfl
    | [_], _ => simp [prs]
    | [a, b], h =>
      cases a <;> cases b <;> simp [prs] at h ⊢
    | _ :: _ :: _ :: _, _ => simp [prs]
  | _ => rfl
theorem zipG_of {xs ys : List D} (h : ∀ x ∈ xs, prs [x] = false) : zipG xs ys = some (zipL xs ys) := by
  have : (zipL xs ys).all nprs = true := by
    induction xs generalizing ys with
    | nil => simp [zipL]
    | cons x xs ih =>
      cases ys with
      | nil => simp [zipL]
      | cons y ys =>
        simp only [zipL, List.all_cons, ih (fun z hz => h z (List.mem_cons_of_mem _ hz)), Bool.and_true, nprs, prs_two (h x List.mem_cons_self)]
        rfl
  unfold zipG
  rw [if_pos this]
end NK
set_option linter.all false
namespace NK
open PySem L2
def F2b0 : List St := [.par 0 1 (.var 1) (.bin .mod (.var 0) (.var 1))]
/-- common -/
def F2 : Fn := ⟨2, 2, [.set 0 (.bi .abs [(.var 0)]),
  .set 1 (.bi .abs [(.var 1)]),
  .wh (.cmp .gt (.var 1) (.int 0)) F2b0,
  .ret (.var 0)], .fn⟩
def F3i0 : St := .ifS (.cmp .lt (.var 1) (.int 0))
  [.set 2 (.neg (.var 2))]
  []
/-- made -/
def F3 : Fn := ⟨2, 3, [.set 2 (.call 2 [false, false] [(.var 0), (.var 1)]),
  F3i0,
  .ret (.tup [(.bin .fdiv (.var 0) (.var 2)), (.bin .fdiv (.var 1) (.var 2))])], .fn⟩
/-- less -/
def F7 : Fn := ⟨2, 2, [.ret (.cmp .lt (.bin .mul (.idx (.var 0) (.int 0)) (.idx (.var 1) (.int 1))) (.bin .mul (.idx (.var 1) (.int 0)) (.idx (.var 0) (.int 1))))], .fn⟩
def F10b0 : List St := [.set 1 (.bin .mod (.bin .add (.bin .add (.bin .add (.bin .mul (.var 1) (.var 1)) (.bin .mul (.bin .mul (.int 48271) (.var 3)) (.var 3))) (.var 3)) (.int 3)) (.int 2147483629)),
  .set 2 (.bin .add (.bin .mul (.var 2) (.int 2147483587)) (.bin .mod (.bin .mul (.var 1) (.var 1)) (.int 2147483587)))]
/-- _law_purse -/
def F10 : Fn := ⟨1, 4, [.set 1 (.bin .mod (.var 0) (.int 2147483647)),
  .set 2 (.int 1),
  .forS [3] false (.rng [(.int 16)]) F10b0,
  .ifS (.cmp .eq (.bin .mod (.var 0) (.int 2)) (.int 0))
    [.ret (.new (.lst [(.bin .fdiv (.bi .abs [(.var 0)]) (.int 2)), (.var 2)]))]
    [],
  .ret (.new (.lst [(.int 0), (.var 2)]))], .fn⟩
/-- _law_take -/
def F11 : Fn := ⟨2, 4, [.set 2 (.bi .int [(.cmp .eq (.idx (.var 0) (.int 0)) (.int 0))]),
  .set 3 (.bin .mod (.idx (.var 0) (.var 2)) (.var 1)),
  .sub (.var 0) (.var 2) (.bin .fdiv (.idx (.var 0) (.var 2)) (.var 1)),
  .ret (.var 3)], .fn⟩
/-- _law_names -/
def F19 : Fn := ⟨1, 3, [.set 1 (.str [97, 98, 99, 100, 101, 102, 103, 104, 105, 106, 107, 108, 109, 110, 111, 112, 113, 114, 115, 116, 117, 118, 119, 120, 121, 122]),
  .ret (.bi .tuple [(.bi .sorted [(.fz (.comp (.idx (.var 1) (.bin .mod (.bin .add (.bin .mod (.var 0) (.int 26)) (.bin .mul (.int 7) (.var 2))) (.int 26))) [2] false (.rng [(.bin .add (.int 1) (.bin .mod (.bin .fdiv (.var 0) (.int 26)) (.int 3)))]) none [2]))])])], .fn⟩
/-- _law_cell -/
def F20 : Fn := ⟨2, 2, [.ifS (.cmp .lt (.var 1) (.bi .len [(.var 0)]))
    [.ret (.idx (.var 0) (.var 1))]
    [],
  .ret (.int 0)], .fn⟩
/-- _law_number -/
def F21 : Fn := ⟨1, 1, [.ifS (.cmp .lt (.call 11 [true, false] [(.var 0), (.int 7)]) (.int 6))
    [.ret (.idx (.fz (.lst [(.int 0), (.int 1), (.neg (.int 1)), (.int 2), (.neg (.int 3)), (.int 5), (.int 1)])) (.call 11 [true, false] [(.var 0), (.int 7)]))]
    [],
  .ret (.bin .sub (.call 11 [true, false] [(.var 0), (.bin .add (.bin .mul (.int 2) (.bin .pow (.int 10) (.int 19))) (.int 1))]) (.bin .pow (.int 10) (.int 19)))], .fn⟩
def F22i0 : St := .ifS (.cmp .ne (.var 4) (.int 0))
  [.expr (.mt .append (.var 2) [(.tup [(.var 3), (.var 4)])])]
  []
def F22b0 : List St := [.set 4 (.call 21 [true] [(.var 0)]),
  F22i0]
/-- _law_terms -/
def F22 : Fn := ⟨2, 5, [.set 2 (.new (.lst [])),
  .forS [3] false (.e (.var 1)) F22b0,
  .ret (.bi .tuple [(.var 2)])], .fn⟩
def F23i0 : St := .ifS (.cmp .eq (.var 2) (.int 0))
  [.set 2 (.bin .add (.int 1) (.call 11 [true, false] [(.var 0), (.bin .pow (.int 10) (.int 19))]))]
  []
/-- _law_sum -/
def F23 : Fn := ⟨2, 4, [.set 2 (.idx (.fz (.lst [(.int 1), (.int 1), (.int 2), (.int 1), (.int 3), (.int 0)])) (.call 11 [true, false] [(.var 0), (.int 6)])),
  F23i0,
  .set 3 (.call 22 [true, false] [(.var 0), (.var 1)]),
  .ret (.tup [(.var 3), (.call 21 [true] [(.var 0)]), (.var 2)])], .fn⟩
def F25b0 : List St := [.ifS (.cmp .notin (.var 2) (.var 1))
    [.nev]
    []]
/-- must_have -/
def F25 : Fn := ⟨2, 4, [.forS [2, 3] true (.e (.var 0)) F25b0], .fn⟩
def F26b0 : List St := [.setT [9, 10] (.idx (.var 1) (.var 7)),
  .set 2 (.bin .add (.bin .mul (.var 2) (.var 10)) (.bin .mul (.bin .mul (.var 8) (.var 9)) (.var 3))),
  .set 3 (.bin .mul (.var 3) (.var 10))]
/-- worth -/
def F26 : Fn := ⟨2, 11, [.setT [4, 5, 6] (.var 0),
  .expr (.call 25 [false, false] [(.var 4), (.var 1)]),
  .set 2 (.var 5),
  .set 3 (.int 1),
  .forS [7, 8] true (.e (.var 4)) F26b0,
  .ret (.call 3 [false, false] [(.var 2), (.bin .mul (.var 3) (.var 6))])], .fn⟩
/-- _law_row -/
def F29 : Fn := ⟨2, 4, [.set 2 (.idx (.fz (.lst [(.str [108, 101, 97, 115, 116]), (.str [109, 111, 114, 101])])) (.call 11 [true, false] [(.var 0), (.int 2)])),
  .set 3 (.call 22 [true, false] [(.var 0), (.var 1)]),
  .ret (.tup [(.var 2), (.var 3), (.call 21 [true] [(.var 0)])])], .fn⟩
/-- is_so -/
def F31 : Fn := ⟨2, 4, [.set 2 (.call 26 [false, false] [(.tup [(.idx (.var 0) (.int 1)), (.int 0), (.int 1)]), (.var 1)]),
  .set 3 (.tup [(.idx (.var 0) (.int 2)), (.int 1)]),
  .ifS (.cmp .eq (.idx (.var 0) (.int 0)) (.str [109, 111, 114, 101]))
    [.ret (.call 7 [false, false] [(.var 3), (.var 2)])]
    [],
  .ret (.not (.call 7 [false, false] [(.var 2), (.var 3)]))], .fn⟩
def F100025b1 : List RaS := [.ifS (.cmp .notin (.var 2) (.var 1))
    [.rse [78, 111, 78, 97, 109, 101] [[110, 97, 109, 101]] [(.var 2)]]
    []]
def F100025b0 : List RaS := [.forS [2, 3] true (.e (.var 0)) F100025b1]
/-- must_have_sums, as it raises -/
def F100025 : Fn := ⟨2, 4, [], .rb F100025b0⟩
def F100026b1 : List St := [.setT [9, 10] (.idx (.var 1) (.var 7)),
  .set 2 (.bin .add (.bin .mul (.var 2) (.var 10)) (.bin .mul (.bin .mul (.var 8) (.var 9)) (.var 3))),
  .set 3 (.bin .mul (.var 3) (.var 10))]
def F100026b0 : List RaS := [.nrm (.setT [4, 5, 6] (.var 0)),
  .cal (.expr (.call 25 [false, false] [(.var 4), (.var 1)])),
  .nrm (.set 2 (.var 5)),
  .nrm (.set 3 (.int 1)),
  .nrm (.forS [7, 8] true (.e (.var 4)) F100026b1),
  .nrm (.ret (.call 3 [false, false] [(.var 2), (.bin .mul (.var 3) (.var 6))]))]
/-- worth, as it raises -/
def F100026 : Fn := ⟨2, 11, [], .rb F100026b0⟩
def F100031b0 : List RaS := [.cal (.set 2 (.call 26 [false, false] [(.tup [(.idx (.var 0) (.int 1)), (.int 0), (.int 1)]), (.var 1)])),
  .nrm (.set 3 (.tup [(.idx (.var 0) (.int 2)), (.int 1)])),
  .nrm (.ifS (.cmp .eq (.idx (.var 0) (.int 0)) (.str [109, 111, 114, 101]))
    [.ret (.call 7 [false, false] [(.var 3), (.var 2)])]
    []),
  .nrm (.ret (.not (.call 7 [false, false] [(.var 2), (.var 3)])))]
/-- is_so, as it raises -/
def F100031 : Fn := ⟨2, 4, [], .rb F100031b0⟩
/-- _law_made -/
def F427 : Fn := ⟨2, 3, [.set 2 (.mkx [84, 111, 111, 71, 114, 101, 97, 116] [[110, 117, 109, 98, 101, 114], [109, 111, 115, 116]] [(.var 0), (.int 3)]),
  .ifS (.or (.cmp .ne (.fldx (.var 2) [110, 117, 109, 98, 101, 114]) (.var 0)) (.or (.cmp .ne (.fldx (.var 2) [109, 111, 115, 116]) (.int 3)) (.or (.cmp .ne (.fldx (.mkx [78, 111, 78, 97, 109, 101] [[110, 97, 109, 101]] [(.str [113])]) [110, 97, 109, 101]) (.str [113])) (.cmp .ne (.fldx (.mkx [78, 111, 84, 101, 120, 116] [[108, 105, 110, 101]] [(.var 0)]) [108, 105, 110, 101]) (.var 0)))))
    [.ret (.bl false)]
    [],
  .ret (.and (.cmp .eq (.fldx (.mkx [78, 111, 76, 111, 111, 112] [[112, 108, 97, 99, 101]] [(.var 1)]) [112, 108, 97, 99, 101]) (.var 1)) (.and (.cmp .eq (.fldx (.mkx [78, 111, 77, 101, 97, 115, 117, 114, 101] [[112, 108, 97, 99, 101]] [(.var 1)]) [112, 108, 97, 99, 101]) (.var 1)) (.isx (.mkx [75, 101, 101, 112, 69, 114, 114, 111, 114] [] [(.str [115, 111])]) [[86, 97, 108, 117, 101, 69, 114, 114, 111, 114]] false)))], .fn⟩
/-- _law_good -/
def F428 : Fn := ⟨3, 6, [.set 3 (.fz (.comp (.var 4) [4, 5] true (.e (.var 1)) (some (.cmp .notin (.var 4) (.var 2))) [4, 5])),
  .ifS (.or (.cmp .is (.var 0) .non) (.cmp .eq (.var 3) (.fz (.lst []))))
    [.ret (.and (.cmp .is (.var 0) .non) (.cmp .eq (.var 3) (.fz (.lst []))))]
    [],
  .ifS (.or (.not (.isx (.var 0) [[78, 111, 78, 97, 109, 101]] false)) (.not (.isx (.var 0) [[86, 97, 108, 117, 101, 69, 114, 114, 111, 114]] false)))
    [.ret (.bl false)]
    [],
  .ret (.and (.not (.isx (.var 0) [[78, 111, 76, 111, 111, 112], [78, 111, 77, 101, 97, 115, 117, 114, 101], [78, 111, 84, 101, 120, 116], [84, 111, 111, 71, 114, 101, 97, 116]] true)) (.cmp .eq (.fldx (.var 0) [110, 97, 109, 101]) (.idx (.var 3) (.int 0))))], .fn⟩
/-- _law_caught -/
def F429 : Fn := ⟨4, 6, [.set 4 .non], (.tr [.ifS (.cmp .eq (.var 0) (.int 0))
      [.cal (.expr (.call 26 [false, false] [(.var 1), (.var 3)]))]
      [],
    .ifS (.cmp .eq (.var 0) (.int 1))
      [.cal (.expr (.call 31 [false, false] [(.var 2), (.var 3)]))]
      []] [75, 101, 101, 112, 69, 114, 114, 111, 114] 5 4 [.ret (.var 4)])⟩
def F430i0 : St := .ifS (.cmp .eq (.bin .mod (.bin .fdiv (.var 4) (.idx (.fz (.lst [(.int 1), (.int 2), (.int 4)])) (.var 9))) (.int 2)) (.int 1))
  [.sub (.var 8) (.idx (.var 1) (.var 9)) (.tup [(.bin .mod (.var 4) (.int 7)), (.int 1)])]
  []
def F430b1 : List St := [F430i0]
def F430b0 : List St := [.set 4 (.bin .mod (.var 3) (.int 56)),
  .set 5 (.callA 10 [false] [(.bin .fdiv (.var 3) (.int 8))]),
  .set 6 (.call 23 [true, false] [(.var 5), (.var 1)]),
  .set 7 (.call 29 [true, false] [(.var 5), (.var 1)]),
  .set 8 (.new (.dic [(.var 2), (.tup [(.int 1), (.int 2)])])),
  .forS [9] false (.rng [(.bi .len [(.var 1)])]) F430b1,
  .set 10 (.fz (.dict (.var 8))),
  .ifS (.not (.call 428 [false, false, false] [(.call 429 [false, false, false, false] [(.int 0), (.var 6), (.var 7), (.var 8)]), (.idx (.var 6) (.int 0)), (.var 8)]))
    [.ret (.bl false)]
    [],
  .ifS (.or (.not (.call 428 [false, false, false] [(.call 429 [false, false, false, false] [(.int 1), (.var 6), (.var 7), (.var 8)]), (.idx (.var 7) (.int 1)), (.var 8)])) (.cmp .ne (.var 8) (.var 10)))
    [.ret (.bl false)]
    []]
/-- law -/
def F430 : Fn := ⟨1, 12, [.set 1 (.call 19 [false] [(.call 20 [false, false] [(.var 0), (.int 0)])]),
  .set 2 (.idx (.fz (.comp (.var 11) [11] false (.e (.str [113, 106, 120, 122])) (some (.cmp .notin (.var 11) (.var 1))) [11])) (.int 0)),
  .forS [3] false (.e (.bin .add (.fz (.lst [(.int 0), (.int 1), (.int 2), (.int 3)])) (.slc (.var 0) (some (.int 1)) (some (.int 40))))) F430b0,
  .ret (.call 427 [false, false] [(.bin .mod (.call 20 [false, false] [(.var 0), (.int 0)]) (.bin .pow (.int 10) (.int 50))), (.tup [(.int 1), (.bin .mod (.call 20 [false, false] [(.var 0), (.int 1)]) (.int 9)), (.int 2)])])], .fn⟩
def PG : Prog := fun i => match i with
  | 2 => some F2
  | 3 => some F3
  | 7 => some F7
  | 10 => some F10
  | 11 => some F11
  | 19 => some F19
  | 20 => some F20
  | 21 => some F21
  | 22 => some F22
  | 23 => some F23
  | 25 => some F25
  | 26 => some F26
  | 29 => some F29
  | 31 => some F31
  | 427 => some F427
  | 428 => some F428
  | 429 => some F429
  | 430 => some F430
  | 100025 => some F100025
  | 100026 => some F100026
  | 100031 => some F100031
  | _ => none
end NK
section
set_option maxRecDepth 100000
set_option maxHeartbeats 0
namespace NK
open PySem PySem.Spec L2
theorem kx0 : IOk x0 := ⟨by decide +kernel, fun d hd => by cases hd⟩
theorem kx1 : IOk x1 := ⟨by decide +kernel, fun d hd => by cases hd; exact fun _ _ _ _ _ _ us hl => match us, hl with | [_, _], _ => rfl⟩
theorem kx2 : IOk x2 := ⟨by decide +kernel, fun d hd => by cases hd; exact fun _ _ _ _ _ _ us hl => match us, hl with | [_, _, _], _ => rfl⟩
theorem kx3 : IOk x3 := ⟨by decide +kernel, fun d hd => by cases hd; exact fun _ _ _ _ _ _ us hl => match us, hl with | [_, _], _ => rfl⟩
theorem kx4 : IOk x4 := ⟨by decide +kernel, fun d hd => by cases hd; exact fun _ _ _ _ _ _ us hl => match us, hl with | [_, _], _ => rfl⟩
theorem kx5 : IOk x5 := ⟨by decide +kernel, fun d hd => by cases hd; exact fun _ _ _ _ _ _ us hl => match us, hl with | [_, _], _ => rfl⟩
theorem kxAll : ∀ x ∈ xlL, IOk x := by
  intro x hx
  simp only [xlL, List.mem_cons, List.not_mem_nil, or_false] at hx
  rcases hx with rfl | rfl | rfl | rfl | rfl | rfl
  · exact kx0
  · exact kx1
  · exact kx2
  · exact kx3
  · exact kx4
  · exact kx5
theorem k0 : DOk PG fsL gsL frL clL xlL d0 := ⟨by decide +kernel, fun _ _ _ _ _ _ us hl => match us, hl with | [_], _ => rfl⟩
theorem k1 : DOk PG fsL gsL frL clL xlL d1 := ⟨by decide +kernel, fun _ _ _ _ _ _ us hl => match us, hl with | [_, _], _ => rfl⟩
theorem k2 : DOk PG fsL gsL frL clL xlL d2 := ⟨by decide +kernel, fun _ _ _ _ _ _ us hl => match us, hl with | [_, _], _ => rfl⟩
theorem k3 : DOk PG fsL gsL frL clL xlL d3 := ⟨by decide +kernel, fun _ _ _ _ _ _ us hl => match us, hl with | [_], _ => rfl⟩
theorem k4 : DOk PG fsL gsL frL clL xlL d4 := ⟨by decide +kernel, fun _ _ _ _ _ _ us hl => match us, hl with | [_, _], _ => rfl⟩
theorem k5 : DOk PG fsL gsL frL clL xlL d5 := ⟨by decide +kernel, fun _ _ _ _ _ _ us hl => match us, hl with | [_], _ => rfl⟩
theorem k6 : DOk PG fsL gsL frL clL xlL d6 := ⟨by decide +kernel, fun _ _ _ _ _ _ us hl => match us, hl with | [_, _], _ => rfl⟩
theorem k7 : DOk PG fsL gsL frL clL xlL d7 := ⟨by decide +kernel, fun _ _ _ _ _ _ us hl => match us, hl with | [_, _], _ => rfl⟩
theorem k8 : DOk PG fsL gsL frL clL xlL d8 := ⟨by decide +kernel, fun _ _ _ _ _ _ us hl => match us, hl with | [_, _], _ => rfl⟩
theorem k9 : DOk PG fsL gsL frL clL xlL d9 := ⟨by decide +kernel, fun _ _ _ _ _ _ us hl => match us, hl with | [_, _, _], _ => rfl⟩
theorem k10 : DOk PG fsL gsL frL clL xlL d10 := ⟨by decide +kernel, fun _ _ _ _ _ _ us hl => match us, hl with | [_, _], _ => rfl⟩
theorem k11 : DOk PG fsL gsL frL clL xlL d11 := ⟨by decide +kernel, fun _ _ _ _ _ _ us hl => match us, hl with | [_, _], _ => rfl⟩
theorem k12 : DOk PG fsL gsL frL clL xlL d12 := ⟨by decide +kernel, fun _ _ _ _ _ _ us hl => match us, hl with | [_, _], _ => rfl⟩
theorem k13 : DOk PG fsL gsL frL clL xlL d13 := ⟨by decide +kernel, fun _ _ _ _ _ _ us hl => match us, hl with | [_, _], _ => rfl⟩
theorem k14 : DOk PG fsL gsL frL clL xlL d14 := ⟨by decide +kernel, fun _ _ _ _ _ _ us hl => match us, hl with | [_, _], _ => rfl⟩
theorem k15 : DOk PG fsL gsL frL clL xlL d15 := ⟨by decide +kernel, fun _ _ _ _ _ _ us hl => match us, hl with | [_, _], _ => rfl⟩
theorem k16 : DOk PG fsL gsL frL clL xlL d16 := ⟨by decide +kernel, fun _ _ _ _ _ _ us hl => match us, hl with | [_, _, _, _], _ => rfl⟩
theorem k17 : DOk PG fsL gsL frL clL xlL d17 := ⟨by decide +kernel, fun _ _ _ _ _ _ us hl => match us, hl with | [_], _ => rfl⟩
theorem kAll : ∀ d ∈ dsL, DOk PG fsL gsL frL clL xlL d := by
  intro d hd
  simp only [dsL, List.mem_cons, List.not_mem_nil, or_false] at hd
  rcases hd with rfl | rfl | rfl | rfl | rfl | rfl | rfl | rfl | rfl | rfl | rfl | rfl | rfl | rfl | rfl | rfl | rfl | rfl
  · exact k0
  · exact k1
  · exact k2
  · exact k3
  · exact k4
  · exact k5
  · exact k6
  · exact k7
  · exact k8
  · exact k9
  · exact k10
  · exact k11
  · exact k12
  · exact k13
  · exact k14
  · exact k15
  · exact k16
  · exact k17
end NK
end
set_option Elab.async false
set_option linter.all false
set_option autoImplicit false
set_option maxRecDepth 100000
namespace NK
open PySem L2
section
variable {C : Calls} {R : RCalls} {env e1 : Env} {st s1 : Sto} {s : RaS} {ss : List RaS} {x : RX}
theorem rv_nil : rvSs C R [] env st = none := by simp only [rvSs]
theorem rv_yes (h : rvS C R s env st = some x) : rvSs C R (s :: ss) env st = some x := by simp only [rvSs, h]
theorem rv_no (h : rvS C R s env st = none) (h2 : evS C (nrmS s) env st = some (.nx e1 s1)) : rvSs C R (s :: ss) env st = rvSs C R ss e1 s1 := by simp only [rvSs, h, h2, Option.bind_some]
theorem rv_nrm {s : St} (h2 : evS C s env st = some (.nx e1 s1)) : rvSs C R (.nrm s :: ss) env st = rvSs C R ss e1 s1 := rv_no (by simp only [rvS]) h2
theorem rv_cal_yes {s : St} {f : Nat} {m : List Bool} {es : List E} {vs : List Val} {d : D} (hc : callOf s = some (f, m, es)) (h1 : evEs C es env st = some (vs, s1)) (h2 : callR R f m vs s1 = some d) : rvSs C R (.cal s :: ss) env st = some (d, env, s1) := by
  refine rv_yes ?_
  simp only [rvS, callOf_expr hc, Option.bind_some, rvE, rvE0, h1, h2, Option.map_some]
variable {bind : D → Env → Option Env} {rb : Env → Sto → Option RX} {nb : Env → Sto → Option Out} {d : D} {ds : List D} {e2 : Env} {s2 : Sto}
theorem rvf_yes (h : bind d env = some e1) (h1 : rb e1 st = some x) : rvFor bind rb nb (d :: ds) env st = some x := by simp only [rvFor, h, Option.bind_some, h1]
theorem rvf_no (h : bind d env = some e1) (h1 : rb e1 st = none) (h2 : nb e1 st = some (.nx e2 s2)) : rvFor bind rb nb (d :: ds) env st = rvFor bind rb nb ds e2 s2 := by simp only [rvFor, h, Option.bind_some, h1, h2]
end
theorem rcall_go {P : Prog} {f d : Nat} {fr : Fn} {rb : List RaS} {args : List Val} (fk : Fn) (h0 : P f = some fk) (hn : nMk fk.kind = true) (h : P (f + ROFF) = some fr) (hk : fr.kind = .rb rb) (hl : args.length = fr.ps) : rcall P (d + 1) f args [] = (rvSs (call P d) (rcall P d) rb (startE fr args) []).map fun x => (x.1, []) := by
  rw [rcall_eq h0 hn, h, Option.bind_some, hk]
  show runRv (call P d) (rcall P d) fr rb args [] = _
  unfold runRv
  rw [if_pos ⟨hl, rfl⟩]
theorem call_tr {P : Prog} {f d : Nat} {fn : Fn} {tb : List RaS} {w : W} {e t : Nat} {post : List St} {args : List Val} {st : Sto} (h : P f = some fn) (hk : fn.kind = .tr tb w e t post) (hl : args.length = fn.ps) :
    call P (d + 1) f args st = ((trV (call P d) (rcall P d) fn.body tb w e t post (startE fn args) st).bind (endV st.length)).bind fun q => if q.2.all flat then some q else none := by
  simp only [call, h, Option.bind_some, hk]
  show runT (call P d) (rcall P d) fn tb w e t post args st = _
  unfold runT
  rw [if_pos hl]
def xNN (w : D) : D := .exc [78, 111, 78, 97, 109, 101] [[110, 97, 109, 101]] [w]
section
variable {C : Calls} {env : Env} {st : Sto} {w : W} {xs : List W} {ds : List D}
@[simp] theorem c_isXN : cmpV .is (.dat (.exc w xs ds)) (.dat .non) st = some false := nr rfl
@[simp] theorem c_isnotXN : cmpV .isnot (.dat (.exc w xs ds)) (.dat .non) st = some true := nr rfl
@[simp] theorem e_isx {a : E} {ts : List W} {tup : Bool} : evE C (.isx a ts tup) env st = (evE C a env st).bind fun r => (isXV ts r.1).map fun d => (.dat d, r.2) := nr rfl
@[simp] theorem e_fldx {a : E} {x : W} : evE C (.fldx a x) env st = (evE C a env st).bind fun r => (fldV x r.1).map fun d => (.dat d, r.2) := nr rfl
@[simp] theorem isXV_exc {ts : List W} : isXV ts (.dat (.exc w xs ds)) = some (.bl (ts.any (subX w))) := nr rfl
@[simp] theorem fldV_exc {x : W} : fldV x (.dat (.exc w xs ds)) = lookX xs ds x := nr rfl
end
end NK
set_option Elab.async false
set_option linter.all false
set_option autoImplicit false
set_option maxRecDepth 100000
namespace NK
open PySem L2
theorem gcd_fmod (a b : Int) : Int.gcd b (a.fmod b) = Int.gcd a b := by
  rw [Int.fmod_def, Int.gcd_comm a b]
  have : a - b * a.fdiv b = a + b * (-(a.fdiv b)) := by rw [Int.mul_neg]; omega
  rw [this]
  exact Int.gcd_add_mul_left_right _ _ _
section
variable (C : Calls) (st : Sto)
theorem wh_common : ∀ (n : Nat) (a b : Int), 0 ≤ a → 0 ≤ b → b.toNat ≤ n → WH C (.cmp .gt (.var 1) (.int 0)) F2b0 [some (.dat (.int a)), some (.dat (.int b))] st = some (.nx [some (.dat (.int (Int.gcd a b))), some (.dat (.int 0))] st) := by
  intro n
  induction n with
  | zero =>
    intro a b ha hb hn
    have : b = 0 := by omega
    subst this
    rw [WH, whV_f _ _ (st' := st) (by simp)]
    simp
    omega
  | succ n ih =>
    intro a b ha hb hn
    by_cases h : b = 0
    · subst h
      rw [WH, whV_f _ _ (st' := st) (by simp)]
      simp
      omega
    · have hb' : 0 < b := by omega
      rw [WH, whV_t _ _ (st' := st) (e := [some (.dat (.int b)), some (.dat (.int (a.fmod b)))]) (s := st) (by simp [hb']) (by simp [F2b0, h])]
      have := ih b (a.fmod b) hb (Int.fmod_nonneg_of_pos a hb') (by have := Int.fmod_lt_of_pos a hb'; omega)
      rw [WH, gcd_fmod] at this
      exact this
end
theorem natAbs_gcd (a b : Int) : (Int.gcd (a.natAbs : Int) (b.natAbs : Int)) = Int.gcd a b := rfl
theorem c_common (d : Nat) (a b : Int) : call PG (d + 1) 2 [.dat (.int a), .dat (.int b)] [] = some (.dat (.int (Int.gcd a b)), []) := by
  have h := wh_common (call PG d) [] (b.natAbs : Int).toNat a.natAbs b.natAbs (by omega) (by omega) (Nat.le_refl _)
  rw [natAbs_gcd] at h
  rw [call_go F2 rfl rfl]
  simp [F2, startE, h]
def share (t b : Int) : Int := if b < 0 then -(Int.gcd t b : Int) else Int.gcd t b
theorem c_made (d : Nat) (t b : Int) (hb : b ≠ 0) (hs : Bd 100000000 (share t b)) : call PG (d + 2) 3 [.dat (.int t), .dat (.int b)] [] = some (.dat (.tup [.int (t.fdiv (share t b)), .int (b.fdiv (share t b))]), []) := by
  have hc := c_common d t b
  have h0 : share t b ≠ 0 := by
    unfold share
    have : (Int.gcd t b) ≠ 0 := fun h => hb (Int.gcd_eq_zero_iff.mp h).2
    split <;> omega
  have hk := okDiv_bd h0 hs
  rw [call_go F3 rfl rfl]
  unfold share at *
  by_cases h : b < 0
  · rw [if_pos h] at hk ⊢
    simp [F3, F3i0, startE, hc, h, hk]
  · rw [if_neg h] at hk ⊢
    simp [F3, F3i0, startE, hc, h, hk]
theorem c_less (d : Nat) (a b e f : Int) (h1 : okMul a f = true) (h2 : okMul e b = true) : call PG (d + 1) 7 [.dat (.tup [.int a, .int b]), .dat (.tup [.int e, .int f])] [] = some (.dat (.bl (decide (a * f < e * b))), []) := by
  rw [call_go F7 rfl rfl]
  simp [F7, startE, h1, h2]
theorem share_spec {t b : Int} (hb : b ≠ 0) : ∃ p q, t = share t b * p ∧ b = share t b * q ∧ t.fdiv (share t b) = p ∧ b.fdiv (share t b) = q ∧ 0 < q ∧ Int.gcd p q = 1 ∧ p.natAbs ≤ t.natAbs ∧ q.natAbs ≤ b.natAbs ∧ (share t b).natAbs ≤ b.natAbs := by
  have hg : Int.gcd t b ≠ 0 := fun h => hb (Int.gcd_eq_zero_iff.mp h).2
  have h0 : share t b ≠ 0 := by unfold share; split <;> omega
  have hn : (share t b).natAbs = Int.gcd t b := by unfold share; split <;> omega
  have d1 : share t b ∣ t := by
    have := Int.gcd_dvd_left t b
    unfold share; split
    · exact Int.neg_dvd.mpr this
    · exact this
  have d2 : share t b ∣ b := by
    have := Int.gcd_dvd_right t b
    unfold share; split
    · exact Int.neg_dvd.mpr this
    · exact this
  obtain ⟨p, hp⟩ := d1
  obtain ⟨q, hq⟩ := d2
  have hq0 : q ≠ 0 := fun e => hb (by rw [hq, e, Int.mul_zero])
  have e1 : t.fdiv (share t b) = p := by
    have : (share t b * p).fdiv (share t b) = p := Int.mul_fdiv_cancel_left p h0
    rw [← hp] at this; exact this
  have e2 : b.fdiv (share t b) = q := by
    have : (share t b * q).fdiv (share t b) = q := Int.mul_fdiv_cancel_left q h0
    rw [← hq] at this; exact this
  have hpos : 0 < q := by
    by_cases h : b < 0
    · have hs : share t b < 0 := by unfold share; rw [if_pos h]; omega
      rcases Int.lt_or_gt_of_ne hq0 with h1 | h1
      · have := Int.mul_pos_of_neg_of_neg hs h1
        omega
      · exact h1
    · have hs : 0 < share t b := by unfold share; rw [if_neg h]; omega
      rcases Int.lt_or_gt_of_ne hq0 with h1 | h1
      · have := Int.mul_neg_of_pos_of_neg hs h1
        omega
      · exact h1
  have hgcd : Int.gcd p q = 1 := by
    have h1 : Int.gcd (share t b * p) (share t b * q) = (share t b).natAbs * Int.gcd p q := Int.gcd_mul_left ..
    rw [← hp, ← hq, hn] at h1
    have : Int.gcd t b * 1 = Int.gcd t b * Int.gcd p q := by omega
    exact (Nat.eq_of_mul_eq_mul_left (by omega) this).symm
  have n1 : t.natAbs = (share t b).natAbs * p.natAbs := by rw [← Int.natAbs_mul, ← hp]
  have n2 : b.natAbs = (share t b).natAbs * q.natAbs := by rw [← Int.natAbs_mul, ← hq]
  have sp : 1 ≤ (share t b).natAbs := by omega
  have qp : 1 ≤ q.natAbs := by omega
  refine ⟨p, q, hp, hq, e1, e2, hpos, hgcd, ?_, ?_, ?_⟩
  · rw [n1]; exact Nat.le_mul_of_pos_left _ sp
  · rw [n2]; exact Nat.le_mul_of_pos_left _ sp
  · rw [n2]; exact Nat.le_mul_of_pos_right _ qp
theorem made_is {n m : Nat} (d : Nat) (t b : Int) (hb : b ≠ 0) (ht : Bd n t) (hbd : Bd m b) (hm : m ≤ 400000) : ∃ p q, call PG (d + 2) 3 [.dat (.int t), .dat (.int b)] [] = some (.dat (.tup [.int p, .int q]), []) ∧ p * b = t * q ∧ 0 < q ∧ Int.gcd p q = 1 ∧ Bd n p ∧ Bd m q := by
  obtain ⟨p, q, h1, h2, h3, h4, h5, h6, h7, h8, h9⟩ := share_spec (t := t) hb
  refine ⟨p, q, ?_, ?_, h5, h6, ht.le_of h7, hbd.le_of h8⟩
  · rw [← h3, ← h4]
    exact c_made d t b hb ((hbd.le_of h9).mono (by omega))
  · have : p * (share t b * q) = share t b * p * q := by rw [Int.mul_left_comm, Int.mul_assoc]
    rw [← h1, ← h2] at this
    exact this
theorem bd_fdiv {n : Nat} {a b : Int} (h : Bd n a) (hb : 0 < b) : Bd n (a.fdiv b) := by
  refine h.le_of ?_
  rw [Int.fdiv_eq_ediv_of_nonneg _ (by omega)]
  exact Int.natAbs_ediv_le_natAbs a b
@[simp] theorem c_eqP {st : Sto} {a b e f : Int} : cmpV .eq (.dat (.tup [.int a, .int b])) (.dat (.tup [.int e, .int f])) st = some (decide (a = e ∧ b = f)) := by
  simp [cmpV, snap, eqOk, nod, nods, dep, deps, eqD, eqDs]
  by_cases h : a = e <;> by_cases h2 : b = f <;> simp [h, h2]
structure Fr (a b : Int) : Prop where
  pos : 0 < b
  low : Int.gcd a b = 1
end NK
set_option Elab.async false
set_option linter.all false
set_option autoImplicit false
set_option maxRecDepth 100000
namespace NK
open PySem L2
@[simp] theorem storeV_ref {st : Sto} {l : Nat} {ds : List D} {i : Int} {d : D} (h : st[l]? = some (.lst ds)) : storeV (.ref l) (.dat (.int i)) d st = (ix ds.length i).map fun j => st.set l (.lst (ds.set j d)) := by
  simp [storeV, h]
@[simp] theorem ix_2_0 : ix 2 0 = some 0 := rfl
@[simp] theorem ix_2_1 : ix 2 1 = some 1 := rfl
structure Pu (a b : Int) : Prop where
  a : Bd 1100000 a
  b : Bd 1100000 b
def pu (a b : Int) : Obj := .lst [.int a, .int b]
@[simp] theorem fl_pu {a b : Int} : flat (pu a b) = true := rfl
theorem c_take (d : Nat) {a b m : Int} (h : Pu a b) (hm : 0 < m) (hb : Bd 9000 m) : ∃ r a' b', call PG (d + 1) 11 [.ref 0, .dat (.int m)] [pu a b] = some (.dat (.int r), [pu a' b']) ∧ Pu a' b' ∧ 0 ≤ r ∧ r < m := by
  have hk : okDiv m = true := okDiv_bd (by omega) hb
  have h0 : m ≠ 0 := by omega
  by_cases ha : a = 0
  · subst ha
    refine ⟨b.fmod m, 0, b.fdiv m, ?_, ⟨h.a, bd_fdiv h.b hm⟩, Int.fmod_nonneg_of_pos b hm, Int.fmod_lt_of_pos b hm⟩
    rw [call_go F11 rfl rfl]
    simp [F11, startE, pu, hk, h0]
  · refine ⟨a.fmod m, a.fdiv m, b, ?_, ⟨bd_fdiv h.a hm, h.b⟩, Int.fmod_nonneg_of_pos a hm, Int.fmod_lt_of_pos a hm⟩
    rw [call_go F11 rfl rfl]
    simp [F11, startE, pu, hk, h0, ha]
@[simp] theorem en_own {ds : List D} : endV 0 (.rt (.ref 0) [.lst ds]) = some (.own (.lst ds), []) := rfl
theorem fmod_bd {n : Nat} {a m : Int} (hm : 0 < m) (hb : Bd n m) : Bd n (a.fmod m) := by
  have h1 := Int.fmod_nonneg_of_pos a hm
  have h2 := Int.fmod_lt_of_pos a hm
  exact hb.le_of (by omega)
theorem c_purse (d : Nat) {c : Int} (h : Bd 1050000 c) : ∃ a b, call PG (d + 1) 10 [.dat (.int c)] [] = some (.own (pu a b), []) ∧ Pu a b := by
  have hb1 : Bd 32 2147483647 := by unfold Bd; decide
  have hb2 : Bd 32 2147483629 := by unfold Bd; decide
  have hb3 : Bd 32 2147483587 := by unfold Bd; decide
  have step := forV_inv (bind := fun d e => bindT [3] false d e) (body := fun e s => evSs (call PG d) F10b0 e s) (fun k env st => st = [] ∧ ∃ n f x, env = [some (.dat (.int c)), some (.dat (.int n)), some (.dat (.int f)), x] ∧ Bd 32 n ∧ Bd (40 * (k + 1)) f)
      (ds := rngL 0 16) (k := 0) (env := [some (.dat (.int c)), some (.dat (.int (c.fmod 2147483647))), some (.dat (.int 1)), none]) (st := []) ⟨rfl, _, _, _, rfl, fmod_bd (by decide) hb1, by unfold Bd; decide⟩
  have hlp : ∃ n f x, FOR (call PG d) [3] false F10b0 (rngL 0 16) [some (.dat (.int c)), some (.dat (.int (c.fmod 2147483647))), some (.dat (.int 1)), none] [] = some (.nx [some (.dat (.int c)), some (.dat (.int n)), some (.dat (.int f)), x] []) ∧ Bd 1100000 f := by
    refine (step ?_).elim fun e h => h.elim fun s h => ?_
    · rintro i dd env st hi ⟨rfl, n, f, x, rfl, hn, hf⟩
      obtain ⟨rfl, hi2⟩ := rngL_get hi
      rw [Int.zero_add]
      rw [Nat.zero_add] at hf ⊢
      have hk : Bd 5 (i : Int) := by unfold Bd; omega
      have h4 : Bd 16 (48271 : Int) := by unfold Bd; decide
      have m1 : okMul n n = true := okMul_bd hn hn
      have m2 : okMul 48271 (i : Int) = true := okMul_bd h4 hk
      have m3 : okMul (48271 * (i : Int)) (i : Int) = true := okMul_bd (h4.mul hk) hk
      have m4 : okMul f 2147483587 = true := okMul_bd hf hb3 (by omega)
      have hn' := fmod_bd (n := 32) (a := n * n + 48271 * (i : Int) * (i : Int) + (i : Int) + 3) (m := 2147483629) (by decide) hb2
      generalize hnn : (n * n + 48271 * (i : Int) * (i : Int) + (i : Int) + 3).fmod 2147483629 = n' at hn'
      have m5 : okMul n' n' = true := okMul_bd hn' hn'
      refine ⟨_, [some (.dat (.int c)), some (.dat (.int n')), some (.dat (.int (f * 2147483587 + (n' * n').fmod 2147483587))), some (.dat (.int i))], [], rfl, ?_, rfl, _, _, _, rfl, hn', ?_⟩
      · simp [F10b0, m1, m2, m3, m4, hnn, m5]
      · refine ((hf.mul hb3).add (fmod_bd (n := 32) (by decide) hb3)).mono ?_
        omega
    · obtain ⟨h1, rfl, n, f, x, rfl, hn, hf⟩ := h
      exact ⟨n, f, x, h1, hf.mono (by rw [rngL_len]; decide)⟩
  obtain ⟨n, f, x, hlp, hf⟩ := hlp
  have hr : rngOk 0 16 = true := by decide
  have h2 : okDiv 2 = true := okDiv_bd (n := 2) (by decide) (by unfold Bd; decide)
  by_cases hc : c.fmod 2 = 0
  · refine ⟨(c.natAbs : Int).fdiv 2, f, ?_, ⟨?_, hf⟩⟩
    · rw [call_go F10 rfl rfl]
      simp [F10, startE, hr, hlp, hc, h2, pu]
    · refine bd_fdiv (n := 1100000) ?_ (by decide)
      have := h.mono (show 1050000 ≤ 1100000 by decide)
      unfold Bd at *
      rw [Int.natAbs_natCast]; exact this
  · refine ⟨0, f, ?_, ⟨by unfold Bd; exact Nat.two_pow_pos _, hf⟩⟩
    rw [call_go F10 rfl rfl]
    simp [F10, startE, hr, hlp, hc, pu]
theorem bd_lit {n : Nat} {i : Int} (h : i.natAbs < 2 ^ n := by decide) : Bd n i := h
end NK
set_option Elab.async false
set_option linter.all false
set_option autoImplicit false
set_option maxRecDepth 100000
namespace NK
open PySem L2
def nmD (c : Nat) : D := .str [c]
def tmD (t : Nat × Int) : D := .tup [nmD t.1, .int t.2]
def frD (f : Int × Int) : D := .tup [.int f.1, .int f.2]
structure PtV (pv : Val) (look : Nat → Int × Int) (ns : List Nat) : Prop where
  kind : (∃ ks ds, pv = .bor (.dK ks ds)) ∨ ∃ ks ds, pv = .dat (.dK ks ds)
  get : ∀ c ∈ ns, ∀ st, idxV pv (.dat (nmD c)) st = some (frD (look c))
  has : ∀ c ∈ ns, ∀ st, cmpV .notin (.dat (nmD c)) pv st = some false
  fr : ∀ c ∈ ns, Fr (look c).1 (look c).2 ∧ Bd 140 (look c).1 ∧ Bd 60 (look c).2
structure TmOk (ts : List (Nat × Int)) (ns : List Nat) : Prop where
  mem : ∀ t ∈ ts, t.1 ∈ ns
  bd : ∀ t ∈ ts, Bd 80 t.2
def acc (look : Nat → Int × Int) : List (Nat × Int) → Int → Int → Int × Int
  | [], t, b => (t, b)
  | (c, w) :: r, t, b => acc look r (t * (look c).2 + w * (look c).1 * b) (b * (look c).2)
theorem acc_low {pv : Val} {look : Nat → Int × Int} {ns : List Nat} (hp : PtV pv look ns) : ∀ {ts : List (Nat × Int)} {t b : Int}, TmOk ts ns → 0 < b → 0 < (acc look ts t b).2
  | [], t, b, _, h => h
  | (c, w) :: r, t, b, h, hb => by
    have hf := (hp.fr c (h.mem _ List.mem_cons_self)).1.pos
    exact acc_low hp (ts := r) ⟨fun t ht => h.mem t (List.mem_cons_of_mem _ ht), fun t ht => h.bd t (List.mem_cons_of_mem _ ht)⟩ (Int.mul_pos hb hf)
theorem acc_bd {pv : Val} {look : Nat → Int × Int} {ns : List Nat} (hp : PtV pv look ns) : ∀ {ts : List (Nat × Int)} {t b : Int} {n m : Nat}, TmOk ts ns → Bd n t → Bd m b → Bd (n + (m + 300 * ts.length) * ts.length) (acc look ts t b).1 ∧ Bd (m + 60 * ts.length) (acc look ts t b).2
  | [], t, b, n, m, _, h1, h2 => by
    refine ⟨h1.mono (by simp), h2⟩
  | (c, w) :: r, t, b, n, m, h, h1, h2 => by
    obtain ⟨_, f1, f2⟩ := hp.fr c (h.mem _ List.mem_cons_self)
    have hw : Bd 80 w := h.bd _ List.mem_cons_self
    have e1 := (h1.mul f2).add ((hw.mul f1).mul h2)
    have e2 := h2.mul f2
    obtain ⟨g1, g2⟩ := acc_bd hp (ts := r) ⟨fun t ht => h.mem t (List.mem_cons_of_mem _ ht), fun t ht => h.bd t (List.mem_cons_of_mem _ ht)⟩ e1 e2
    refine ⟨g1.mono ?_, g2.mono ?_⟩
    · simp only [List.length_cons]
      have a1 : (m + 60 + 300 * r.length) * r.length ≤ (m + 300 * (r.length + 1)) * r.length := Nat.mul_le_mul_right _ (by omega)
      have a2 : (m + 300 * (r.length + 1)) * (r.length + 1) = (m + 300 * (r.length + 1)) * r.length + (m + 300 * (r.length + 1)) := Nat.mul_succ _ _
      omega
    · simp only [List.length_cons]; omega
section
variable {pv : Val} {look : Nat → Int × Int} {ns : List Nat}
theorem for_worth (C : Calls) (hp : PtV pv look ns) (x0 x4 x5 x6 : Option Val) : ∀ {ts : List (Nat × Int)} {t b : Int} {n m : Nat} {x7 x8 x9 x10 : Option Val}, TmOk ts ns → Bd n t → Bd m b → ts.length ≤ 10 → n ≤ 10000 + 10000 * (10 - ts.length) → m ≤ 1000 + 60 * (10 - ts.length) →
    ∃ y7 y8 y9 y10, FOR C [7, 8] true F26b0 (ts.map tmD) [x0, some pv, some (.dat (.int t)), some (.dat (.int b)), x4, x5, x6, x7, x8, x9, x10] [] = some (.nx [x0, some pv, some (.dat (.int (acc look ts t b).1)), some (.dat (.int (acc look ts t b).2)), x4, x5, x6, y7, y8, y9, y10] [])
  | [], t, b, n, m, x7, x8, x9, x10, _, _, _, _, _, _ => ⟨x7, x8, x9, x10, rfl⟩
  | (c, w) :: r, t, b, n, m, x7, x8, x9, x10, h, h1, h2, hl, hn, hm => by
    obtain ⟨_, f1, f2⟩ := hp.fr c (h.mem _ List.mem_cons_self)
    have hw : Bd 80 w := h.bd _ List.mem_cons_self
    have e1 := (h1.mul f2).add ((hw.mul f1).mul h2)
    have e2 := h2.mul f2
    simp only [List.length_cons] at hl hn hm
    obtain ⟨y7, y8, y9, y10, ih⟩ := for_worth C hp x0 x4 x5 x6 (ts := r) (x7 := some (.dat (nmD c))) (x8 := some (.dat (.int w))) (x9 := some (.dat (.int (look c).1))) (x10 := some (.dat (.int (look c).2))) ⟨fun t ht => h.mem t (List.mem_cons_of_mem _ ht), fun t ht => h.bd t (List.mem_cons_of_mem _ ht)⟩ e1 e2 (by omega) (by omega) (by omega)
    refine ⟨y7, y8, y9, y10, ?_⟩
    have m1 : okMul t (look c).2 = true := okMul_bd h1 f2 (by omega)
    have m2 : okMul w (look c).1 = true := okMul_bd hw f1
    have m3 : okMul (w * (look c).1) b = true := okMul_bd (hw.mul f1) h2 (by omega)
    have m4 : okMul b (look c).2 = true := okMul_bd h2 f2 (by omega)
    have hg := hp.get c (h.mem _ List.mem_cons_self) []
    rw [acc, ← ih]
    simp [FOR, forV, tmD, F26b0, hg, frD, m1, m2, m3, m4]
theorem for_must (C : Calls) (hp : PtV pv look ns) (x0 : Option Val) : ∀ {ts : List (Nat × Int)} {x2 x3 : Option Val}, TmOk ts ns → ∃ y2 y3, FOR C [2, 3] true F25b0 (ts.map tmD) [x0, some pv, x2, x3] [] = some (.nx [x0, some pv, y2, y3] [])
  | [], x2, x3, _ => ⟨x2, x3, rfl⟩
  | (c, w) :: r, x2, x3, h => by
    obtain ⟨y2, y3, ih⟩ := for_must C hp x0 (ts := r) (x2 := some (.dat (nmD c))) (x3 := some (.dat (.int w))) ⟨fun t ht => h.mem t (List.mem_cons_of_mem _ ht), fun t ht => h.bd t (List.mem_cons_of_mem _ ht)⟩
    refine ⟨y2, y3, ?_⟩
    have hg := hp.has c (h.mem _ List.mem_cons_self) []
    rw [← ih]
    simp [FOR, forV, tmD, F25b0, hg]
theorem c_must (d : Nat) (hp : PtV pv look ns) {ts : List (Nat × Int)} (h : TmOk ts ns) : call PG (d + 1) 25 [.dat (.tup (ts.map tmD)), pv] [] = some (.dat .non, []) := by
  obtain ⟨y2, y3, hf⟩ := for_must (call PG d) hp (some (.dat (.tup (ts.map tmD)))) (ts := ts) (x2 := none) (x3 := none) h
  rw [call_go F25 rfl rfl]
  simp [F25, startE, hf]
theorem c_worth (d : Nat) (hp : PtV pv look ns) {ts : List (Nat × Int)} {w by_ : Int} (h : TmOk ts ns) (hl : ts.length ≤ 10) (hw : Bd 200 w) (hb : Bd 100 by_) (hb0 : 0 < by_) :
    ∃ p q, call PG (d + 3) 26 [.dat (.tup [.tup (ts.map tmD), .int w, .int by_]), pv] [] = some (.dat (.tup [.int p, .int q]), []) ∧ p * ((acc look ts w 1).2 * by_) = (acc look ts w 1).1 * q ∧ Fr p q ∧ Bd 40000 p ∧ Bd 800 q := by
  have one : Bd 1 1 := bd_lit
  obtain ⟨b1, b2⟩ := acc_bd hp h hw one
  have b1' : Bd 40000 (acc look ts w 1).1 := b1.mono (by
    have : (1 + 300 * ts.length) * ts.length ≤ (1 + 300 * 10) * 10 := Nat.mul_le_mul (by omega) hl
    omega)
  have b2' : Bd 700 (acc look ts w 1).2 := b2.mono (by omega)
  have low := acc_low hp (t := w) (b := 1) h (by decide)
  have h0 : (acc look ts w 1).2 * by_ ≠ 0 := by
    have := Int.mul_pos low hb0
    omega
  obtain ⟨p, q, h1, h2, h3, h4, h5, h6⟩ := made_is (d := d) _ _ h0 b1' (b2'.mul hb) (by decide)
  obtain ⟨y7, y8, y9, y10, hf⟩ := for_worth (call PG (d + 2)) hp (some (.dat (.tup [.tup (ts.map tmD), .int w, .int by_]))) (some (.dat (.tup (ts.map tmD)))) (some (.dat (.int w))) (some (.dat (.int by_))) (ts := ts) (x7 := none) (x8 := none) (x9 := none) (x10 := none) h hw one hl (by omega) (by omega)
  have m1 : okMul (acc look ts w 1).2 by_ = true := okMul_bd b2' hb
  have hm := c_must (d + 1) hp h
  refine ⟨p, q, ?_, h2, ⟨h3, h4⟩, h5, h6.mono (by decide)⟩
  rw [call_go F26 rfl rfl]
  rcases hp.kind with ⟨ks, ds, rfl⟩ | ⟨ks, ds, rfl⟩
  · simp [F26, startE, hm, hf, m1, h1]
  · simp [F26, startE, hm, hf, m1, h1]
end
end NK
set_option Elab.async false
set_option linter.all false
set_option autoImplicit false
set_option maxRecDepth 100000
namespace NK
open PySem L2
theorem c_number21 (d : Nat) {a b : Int} (h : Pu a b) : ∃ w a' b', call PG (d + 2) 21 [.ref 0] [pu a b] = some (.dat (.int w), [pu a' b']) ∧ Pu a' b' ∧ Bd 80 w := by
  obtain ⟨r, a1, b1, e1, h1, l1, u1⟩ := c_take d (m := 7) h (by decide) (bd_lit (n := 20) |>.mono (by decide))
  have hpow : okPow 10 19 = true := okPow_of
  have hmul : okMul 2 10000000000000000000 = true := okMul_bd (m := 2) (n := 80) bd_lit bd_lit
  by_cases hr : r < 6
  · obtain ⟨r2, a2, b2, e2, h2, l2, u2⟩ := c_take d (m := 7) h1 (by decide) (bd_lit (n := 20) |>.mono (by decide))
    have pick : ∃ m : Int, at? [D.int 0, .int 1, .int (-1), .int 2, .int (-3), .int 5, .int 1] r2 = some (.int m) ∧ Bd 80 m := by
      have : r2 = 0 ∨ r2 = 1 ∨ r2 = 2 ∨ r2 = 3 ∨ r2 = 4 ∨ r2 = 5 ∨ r2 = 6 := by omega
      rcases this with e | e | e | e | e | e | e <;> subst e <;> exact ⟨_, rfl, bd_lit⟩
    obtain ⟨m, hm, hb⟩ := pick
    refine ⟨m, a2, b2, ?_, h2, hb⟩
    rw [call_go F21 rfl rfl]
    simp [F21, startE, e1, hr, e2, hm]
  · obtain ⟨r2, a2, b2, e2, h2, l2, u2⟩ := c_take d (m := 20000000000000000001) h1 (by decide) (bd_lit (n := 80) |>.mono (by decide))
    refine ⟨r2 - 10000000000000000000, a2, b2, ?_, h2, ?_⟩
    · rw [call_go F21 rfl rfl]
      simp [F21, startE, e1, hr, hpow, hmul, e2]
    · refine Bd.of_le (b := 10000000000000000000) ?_ (by decide)
      omega
structure TmDr (ts : List (Nat × Int)) (ns : List Nat) : Prop where
  sub : (ts.map (·.1)).Sublist ns
  bd : ∀ t ∈ ts, Bd 80 t.2
  nz : ∀ t ∈ ts, t.2 ≠ 0
theorem TmDr.ok {ts : List (Nat × Int)} {ns : List Nat} (h : TmDr ts ns) : TmOk ts ns := ⟨fun t ht => h.sub.subset (List.mem_map.mpr ⟨t, ht, rfl⟩), h.bd⟩
theorem TmDr.len {ts : List (Nat × Int)} {ns : List Nat} (h : TmDr ts ns) : ts.length ≤ ns.length := by
  have := h.sub.length_le
  rwa [List.length_map] at this
theorem for_terms (d : Nat) (x0 x1 : Option Val) : ∀ {ns : List Nat} {ts : List (Nat × Int)} {a b : Int} {x3 x4 : Option Val}, Pu a b → ts.length + ns.length ≤ 100 → x0 = some (.ref 0) →
    ∃ us a' b' y3 y4, FOR (call PG (d + 2)) [3] false F22b0 (ns.map nmD) [x0, x1, some (.ref 1), x3, x4] [pu a b, .lst (ts.map tmD)] = some (.nx [x0, x1, some (.ref 1), y3, y4] [pu a' b', .lst ((ts ++ us).map tmD)]) ∧ Pu a' b' ∧ TmDr us ns
  | [], ts, a, b, x3, x4, h, hl, h0 => ⟨[], a, b, x3, x4, by simp [FOR, forV], h, ⟨List.Sublist.slnil, fun _ h => (nomatch h), fun _ h => (nomatch h)⟩⟩
  | c :: ns, ts, a, b, x3, x4, h, hl, h0 => by
    obtain ⟨w, a1, b1, e1, h1, hb⟩ := c_number21 d h
    simp only [List.length_cons] at hl
    by_cases hw : w = 0
    · obtain ⟨us, a2, b2, y3, y4, ih, hp, hd⟩ := for_terms d x0 x1 (ns := ns) (ts := ts) (x3 := some (.dat (nmD c))) (x4 := some (.dat (.int w))) h1 (by omega) h0
      refine ⟨us, a2, b2, y3, y4, ?_, hp, ⟨hd.sub.cons c, hd.bd, hd.nz⟩⟩
      rw [← ih]
      subst h0 hw
      simp [FOR, forV, F22b0, F22i0, e1]
    · obtain ⟨us, a2, b2, y3, y4, ih, hp, hd⟩ := for_terms d x0 x1 (ns := ns) (ts := ts ++ [(c, w)]) (x3 := some (.dat (nmD c))) (x4 := some (.dat (.int w))) h1 (by simp; omega) h0
      refine ⟨(c, w) :: us, a2, b2, y3, y4, ?_, hp, ⟨hd.sub.cons₂ c, fun t ht => ?_, fun t ht => ?_⟩⟩
      · rw [show ts ++ (c, w) :: us = ts ++ [(c, w)] ++ us by simp, ← ih]
        subst h0
        have hl2 : ts.length < LIM := by unfold LIM; omega
        simp [FOR, forV, F22b0, F22i0, e1, hw, hl2, tmD]
      · rcases List.mem_cons.mp ht with e | ht
        · subst e; exact hb
        · exact hd.bd t ht
      · rcases List.mem_cons.mp ht with e | ht
        · subst e; exact hw
        · exact hd.nz t ht
theorem c_terms (d : Nat) {ns : List Nat} {a b : Int} (h : Pu a b) (hl : ns.length ≤ 10) : ∃ ts a' b', call PG (d + 3) 22 [.ref 0, .dat (.tup (ns.map nmD))] [pu a b] = some (.dat (.tup (ts.map tmD)), [pu a' b']) ∧ Pu a' b' ∧ TmDr ts ns := by
  obtain ⟨us, a', b', y3, y4, hf, hp, hd⟩ := for_terms d (some (.ref 0)) (some (.dat (.tup (ns.map nmD)))) (ns := ns) (ts := []) (x3 := none) (x4 := none) h (by simpa using by omega) rfl
  refine ⟨us, a', b', ?_, hp, hd⟩
  rw [call_go F22 rfl rfl]
  simp only [List.map_nil, List.nil_append] at hf
  simp [F22, startE, hf]
end NK
set_option Elab.async false
set_option linter.all false
set_option autoImplicit false
set_option maxRecDepth 100000
namespace NK
open PySem L2
theorem c_sum (d : Nat) {ns : List Nat} {a b : Int} (h : Pu a b) (hl : ns.length ≤ 10) : ∃ ts w m a' b', call PG (d + 4) 23 [.ref 0, .dat (.tup (ns.map nmD))] [pu a b] = some (.dat (.tup [.tup (ts.map tmD), .int w, .int m]), [pu a' b']) ∧ Pu a' b' ∧ TmDr ts ns ∧ Bd 80 w ∧ 0 < m ∧ m ≤ 10000000000000000000 := by
  obtain ⟨r, a1, b1, e1, h1, l1, u1⟩ := c_take (d + 2) (m := 6) h (by decide) (bd_lit (n := 20) |>.mono (by decide))
  have pick : ∃ m : Int, at? [D.int 1, .int 1, .int 2, .int 1, .int 3, .int 0] r = some (.int m) ∧ 0 ≤ m ∧ m ≤ 3 := by
    have : r = 0 ∨ r = 1 ∨ r = 2 ∨ r = 3 ∨ r = 4 ∨ r = 5 := by omega
    rcases this with e | e | e | e | e | e <;> subst e <;> exact ⟨_, rfl, by decide, by decide⟩
  obtain ⟨m0, hm, g0, g1⟩ := pick
  have hpow : okPow 10 19 = true := okPow_of
  have sec : ∃ m a2 b2, Pu a2 b2 ∧ 0 < m ∧ m ≤ 10000000000000000000 ∧ evS (call PG (d + 3)) F23i0 [some (.ref 0), some (.dat (.tup (ns.map nmD))), some (.dat (.int m0)), none] [pu a1 b1] = some (.nx [some (.ref 0), some (.dat (.tup (ns.map nmD))), some (.dat (.int m)), none] [pu a2 b2]) := by
    by_cases hz : m0 = 0
    · obtain ⟨r2, a2, b2, e2, h2, l2, u2⟩ := c_take (d + 2) (m := 10000000000000000000) h1 (by decide) (bd_lit (n := 80) |>.mono (by decide))
      exact ⟨1 + r2, a2, b2, h2, by omega, by omega, by simp [F23i0, hz, hpow, e2]⟩
    · exact ⟨m0, a1, b1, h1, by omega, by omega, by simp [F23i0, hz]⟩
  obtain ⟨m, a2, b2, h2, k0, k1, hs⟩ := sec
  obtain ⟨ts, a3, b3, e3, h3, hts⟩ := c_terms d (ns := ns) h2 hl
  obtain ⟨w, a4, b4, e4, h4, hw⟩ := c_number21 (d + 1) h3
  refine ⟨ts, w, m, a4, b4, ?_, h4, hts, hw, k0, k1⟩
  rw [call_go F23 rfl rfl]
  simp [F23, startE, e1, hm, hs, e3, e4]
def letters : W := [97, 98, 99, 100, 101, 102, 103, 104, 105, 106, 107, 108, 109, 110, 111, 112, 113, 114, 115, 116, 117, 118, 119, 120, 121, 122]
theorem at_letters {n : Nat} (h : n < 26) : at? letters (n : Int) = some (97 + n) := by
  rw [at_nat, show letters = (List.range 26).map (97 + ·) by decide, List.getElem?_map, List.getElem?_range h]
  rfl
def namesW (m n : Nat) : List W := sortW ((List.range n).map fun k => [97 + (m + 7 * k) % 26])
def namesL (m n : Nat) : List Nat := (namesW m n).map fun w => w.headD 0
structure NmOk (ns : List Nat) : Prop where
  asc : ns.Pairwise (· < ·)
  len : ns.length ≤ 3
  pos : 1 ≤ ns.length
  let_ : ∀ c ∈ ns, 97 ≤ c ∧ c ≤ 122
def namesB (m n : Nat) : Bool := decide (namesW m n = (namesL m n).map fun c => [c]) && decide ((namesL m n).Pairwise (· < ·)) && decide ((namesL m n).length = n) && ((namesL m n).all fun c => decide (97 ≤ c) && decide (c ≤ 122)) && !(([113, 106, 120, 122] : List Nat).filter fun c => !(namesL m n).contains c).isEmpty
theorem namesB_all : ((List.range 26).all fun m => ([1, 2, 3] : List Nat).all fun n => namesB m n) = true := by decide +kernel
theorem namesL_ok {m n : Nat} (hm : m < 26) (hn : n < 4) (h1 : 1 ≤ n) : namesW m n = (namesL m n).map (fun c => [c]) ∧ NmOk (namesL m n) ∧ (namesL m n).length = n ∧ (([113, 106, 120, 122] : List Nat).filter fun c => !(namesL m n).contains c) ≠ [] := by
  have h := List.all_eq_true.mp (List.all_eq_true.mp namesB_all m (List.mem_range.mpr hm)) n (by simp; omega)
  unfold namesB at h
  simp only [Bool.and_eq_true, decide_eq_true_eq, List.all_eq_true, Bool.not_eq_true', List.isEmpty_eq_false_iff] at h
  obtain ⟨⟨⟨⟨h1', h2⟩, h3⟩, h4⟩, h5⟩ := h
  exact ⟨h1', ⟨h2, by omega, by omega, h4⟩, h3, h5⟩
theorem textsD_map : ∀ ws : List W, textsD (ws.map .str) = some ws
  | [] => rfl
  | w :: ws => by simp [textsD, textsD_map ws]
theorem bi_sortedX {v : Val} {st : Sto} {ds : List D} {ws : List W} (h : soL st v = some ds) (hw : textsD ds = some ws) (hl : ws.length < 64) : biV .sorted [v] st = some (.lst ((sortW ws).map .str)) := by
  simp only [biV, h, ob_some, hw, if_pos hl]
@[simp] theorem bi_sorted {st : Sto} {ws : List W} : biV .sorted [.dat (.lst (ws.map .str))] st = if ws.length < 64 then some (.lst ((sortW ws).map .str)) else none := by
  by_cases h : ws.length < 64
  · rw [if_pos h]
    exact bi_sortedX (ds := ws.map .str) (by simp only [soL, aL_lst]) (textsD_map ws) h
  · rw [if_neg h]
    have e : ascD (ws.map D.str) = false := by
      unfold ascD
      rw [List.length_map, decide_eq_false h]; rfl
    simp only [biV, soL, aL_lst, ob_some, textsD_map, if_neg h, e, Bool.false_eq_true, if_false]
theorem c_names (d : Nat) {c : Int} (h : Bd 1050000 c) : ∃ m n, m < 26 ∧ n < 4 ∧ 1 ≤ n ∧ call PG (d + 1) 19 [.dat (.int c)] [] = some (.dat (.tup ((namesL m n).map nmD)), []) := by
  have h26 := Int.fmod_nonneg_of_pos c (b := 26) (by decide)
  have h26' := Int.fmod_lt_of_pos c (b := 26) (by decide)
  have h3 := Int.fmod_nonneg_of_pos (c.fdiv 26) (b := 3) (by decide)
  have h3' := Int.fmod_lt_of_pos (c.fdiv 26) (b := 3) (by decide)
  obtain ⟨m, hm⟩ : ∃ m : Nat, c.fmod 26 = m := ⟨(c.fmod 26).toNat, by omega⟩
  obtain ⟨n, hn⟩ : ∃ n : Nat, (c.fdiv 26).fmod 3 = n := ⟨((c.fdiv 26).fmod 3).toNat, by omega⟩
  have hm' : m < 26 := by omega
  have ix : ∀ k : Nat, k < 3 → at? letters (((m : Int) + 7 * (k : Int)).fmod 26) = some (97 + (m + 7 * k) % 26) := fun k hk => by
    have e : ((m : Int) + 7 * (k : Int)).fmod 26 = (((m + 7 * k) % 26 : Nat) : Int) := by
      rw [Int.fmod_eq_emod_of_nonneg _ (by decide)]
      omega
    rw [e, at_letters (Nat.mod_lt _ (by decide))]
  have hd : okDiv 26 = true := okDiv_bd (n := 5) (by decide) bd_lit
  have m0 : ∀ k : Nat, k < 3 → okMul 7 (k : Int) = true := fun k hk => okMul_bd (m := 3) (n := 3) bd_lit (by unfold Bd; omega)
  refine ⟨m, n + 1, hm', by omega, by omega, ?_⟩
  have hw := (namesL_ok hm' (by omega : n + 1 < 4) (by omega)).1
  have hlen : ∀ x, x ≤ 3 → ((List.range x).map fun k => [97 + (m + 7 * k) % 26]).length < 64 := fun x hx => by simp; omega
  have hC : ∀ env : Env, env = [some (.dat (.int c)), some (.dat (.str letters)), none] → COMP (call PG d) (.idx (.var 1) (.bin .mod (.bin .add (.bin .mod (.var 0) (.int 26)) (.bin .mul (.int 7) (.var 2))) (.int 26))) [2] false none [2] (rngL 0 (1 + (n : Int))) env [] = some (((List.range (n + 1)).map fun k => [97 + (m + 7 * k) % 26]).map D.str, []) := fun env he => by
    subst he
    have hL : letters.length ≤ LIM := by show 26 ≤ 16777216; omega
    have i0 := ix 0 (by decide)
    have i1 := ix 1 (by decide)
    have i2 := ix 2 (by decide)
    have k0 := m0 0 (by decide)
    have k1 := m0 1 (by decide)
    have k2 := m0 2 (by decide)
    simp only [Int.natCast_zero, Int.natCast_one, Int.mul_zero, Int.add_zero, Int.mul_one, Int.reduceMul, Int.cast_ofNat_Int] at i0 i1 i2 k0 k1 k2
    have : n = 0 ∨ n = 1 ∨ n = 2 := by omega
    rcases this with e | e | e <;> subst e
    · simp [COMP, compV, wipeE, evC, rngL, List.range, List.range.loop, hm, idxV, hL, i0, k0]
    · simp [COMP, compV, wipeE, evC, rngL, List.range, List.range.loop, hm, idxV, hL, i0, k0, i1, k1]
    · simp [COMP, compV, wipeE, evC, rngL, List.range, List.range.loop, hm, idxV, hL, i0, k0, i1, k1, i2, k2]
  rw [call_go F19 rfl rfl]
  have hr : rngOk 0 (1 + (n : Int)) = true := rngOk_small (by decide) (by omega) (by omega) (by decide)
  have hC' := hC _ rfl
  unfold letters at hC'
  have hs : sortW ((List.range (n + 1)).map fun k => [97 + (m + 7 * k) % 26]) = (namesL m (n + 1)).map (fun c => [c]) := hw
  have hnm : (namesL m (n + 1)).map nmD = ((namesL m (n + 1)).map (fun c => [c])).map D.str := by rw [List.map_map]; rfl
  have h64 : n + 1 < 64 := by omega
  simp [F19, startE, hd]
  rw [hn]
  simp [hr, hC', h64, hs, hnm, -List.map_map]
end NK
set_option Elab.async false
set_option linter.all false
set_option autoImplicit false
set_option maxRecDepth 100000
namespace NK
open PySem L2
theorem c_cell0 (d : Nat) {ns : List Int} (hb : ∀ z ∈ ns, PySem.Builtin.Int.intBits z ≤ 1048576) (k : Nat) : ∃ c, call PG (d + 1) 20 [.dat (.scr ns), .dat (.int k)] [] = some (.dat (.int c), []) ∧ Bd 1050000 c := by
  by_cases h : k < ns.length
  · refine ⟨ns[k], ?_, (bd_intBits (hb _ (List.getElem_mem h))).mono (by decide)⟩
    rw [call_go F20 rfl rfl]
    have e : at? ns (k : Int) = some ns[k] := by rw [at_nat, List.getElem?_eq_getElem h]
    have h' : (k : Int) < ns.length := by omega
    simp [F20, startE, h, h', e]
  · refine ⟨0, ?_, by unfold Bd; exact Nat.two_pow_pos _⟩
    rw [call_go F20 rfl rfl]
    have h' : ¬ (k : Int) < ns.length := by omega
    simp [F20, startE, h, h']
def ptK (ns : List Nat) : List K1 := ns.map fun c => .inr [c]
def ptD (fs : List (Int × Int)) : List D := fs.map frD
def lookP : List Nat → List (Int × Int) → Nat → Int × Int
  | n :: ns, f :: fs, c => if n = c then f else lookP ns fs c
  | _, _, _ => (0, 1)
theorem ptK_mem {ns : List Nat} {c : Nat} : (.inr [c] : K1) ∈ ptK ns ↔ c ∈ ns := by
  unfold ptK
  rw [List.mem_map]
  constructor
  · rintro ⟨a, ha, e⟩
    cases e; exact ha
  · exact fun h => ⟨c, h, rfl⟩
theorem ptK_nodup {ns : List Nat} (h : ns.Nodup) : (ptK ns).Nodup := by
  unfold ptK List.Nodup
  rw [List.pairwise_map]
  exact List.Pairwise.imp (fun hne e => hne (by cases e; rfl)) h
theorem dlook_pt : ∀ {ns : List Nat} {fs : List (Int × Int)} {c : Nat}, fs.length = ns.length → c ∈ ns → dlook (ptK ns) (ptD fs) (.inr [c]) = some (frD (lookP ns fs c)) ∧ lookP ns fs c ∈ fs
  | [], _, _, _, h => by simp at h
  | n :: ns, [], _, h, _ => by simp at h
  | n :: ns, f :: fs, c, hl, hc => by
    by_cases e : n = c
    · subst e
      simp [ptK, ptD, dlook, lookP]
    · have hc' : c ∈ ns := (List.mem_cons.mp hc).resolve_left (fun z => e z.symm)
      obtain ⟨h1, h2⟩ := dlook_pt (ns := ns) (fs := fs) (by simpa using hl) hc'
      have e2 : ¬ (Sum.inr [n] : K1) = .inr [c] := by simpa using e
      refine ⟨?_, ?_⟩
      · show (if (Sum.inr [n] : K1) = .inr [c] then _ else dlook (ptK ns) (ptD fs) (.inr [c])) = _
        rw [if_neg e2, h1, lookP, if_neg e]
      · rw [lookP, if_neg e]
        exact List.mem_cons_of_mem _ h2
structure FsOk' (fs : List (Int × Int)) : Prop where
  fr : ∀ f ∈ fs, Fr f.1 f.2 ∧ Bd 140 f.1 ∧ Bd 60 f.2
theorem ptV_of {ns : List Nat} {fs : List (Int × Int)} {pv : Val} (hl : fs.length = ns.length) (h : FsOk' fs) (hp : pv = .bor (.dK (ptK ns) (ptD fs)) ∨ pv = .dat (.dK (ptK ns) (ptD fs))) : PtV pv (lookP ns fs) ns := by
  refine ⟨?_, fun c hc st => ?_, fun c hc st => ?_, fun c hc => h.fr _ (dlook_pt hl hc).2⟩
  · rcases hp with rfl | rfl
    · exact .inl ⟨_, _, rfl⟩
    · exact .inr ⟨_, _, rfl⟩
  · have e := (dlook_pt hl hc).1
    rcases hp with rfl | rfl
    · exact e
    · exact e
  · have e := (dlook_pt hl hc).1
    rcases hp with rfl | rfl
    · simp [cmpV, cmpV.inV, snap, nmD, toK, e]
    · simp [cmpV, cmpV.inV, snap, nmD, toK, e]
@[simp] theorem en_ownK {ks : List K1} {ds : List D} : endV 0 (.rt (.ref 0) [.dK ks ds]) = some (.own (.dK ks ds), []) := rfl
theorem eqD_fr (f : Int × Int) : eqD (frD f) (frD f) = true := by simp [frD, eqD, eqDs]
theorem eqKs_self : ∀ {ks js : List K1} {ds es : List D}, (js ++ ks).Nodup → js.length = es.length → (∀ d ∈ ds, eqD d d = true) → eqKs ks ds (js ++ ks) (es ++ ds) = true
  | [], _, _, _, _, _, _ => by simp [eqKs]
  | _ :: _, _, [], _, _, _, _ => by simp [eqKs]
  | k :: ks, js, d :: ds, es, hn, hl, h => by
    have look : ∀ {js : List K1} {es : List D}, js.length = es.length → k ∉ js → dlook (js ++ k :: ks) (es ++ d :: ds) k = some d := by
      intro js
      induction js with
      | nil => intro es hl _; cases es with
        | nil => simp [dlook]
        | cons _ _ => simp at hl
      | cons j js ih => intro es hl hm; cases es with
        | nil => simp at hl
        | cons e es =>
          have : ¬ j = k := fun z => hm (by rw [z]; exact List.mem_cons_self)
          simp only [List.cons_append, dlook, if_neg this]
          exact ih (by simpa using hl) fun z => hm (List.mem_cons_of_mem _ z)
    have hk : k ∉ js := fun hm => (List.nodup_append.mp hn).2.2 k hm k List.mem_cons_self rfl
    have ih := eqKs_self (ks := ks) (js := js ++ [k]) (ds := ds) (es := es ++ [d]) (by rw [List.append_assoc]; exact hn) (by simp [hl]) fun x hx => h x (List.mem_cons_of_mem _ hx)
    rw [List.append_assoc, List.append_assoc] at ih
    simp only [eqKs, look hl hk, h d List.mem_cons_self, Bool.true_and]
    exact ih
theorem nods_pt : ∀ fs : List (Int × Int), nods (ptD fs) = true ∧ deps (ptD fs) ≤ 1
  | [] => ⟨rfl, by simp [ptD, deps]⟩
  | f :: fs => by
    obtain ⟨a, b⟩ := nods_pt fs
    have e : ptD (f :: fs) = frD f :: ptD fs := rfl
    rw [e]
    refine ⟨by simp [nods, frD, nod, a], ?_⟩
    simp only [deps, frD, dep, deps]
    omega
theorem pt_same {ns : List Nat} {fs : List (Int × Int)} (hn : ns.Nodup) (hl : fs.length = ns.length) : eqOk (.dK (ptK ns) (ptD fs)) (.dK (ptK ns) (ptD fs)) = true ∧ eqD (.dK (ptK ns) (ptD fs)) (.dK (ptK ns) (ptD fs)) = true := by
  obtain ⟨a, b⟩ := nods_pt fs
  have e1 : (ptK ns).length = (ptD fs).length := by simp [ptK, ptD, hl]
  refine ⟨?_, ?_⟩
  · unfold eqOk
    rw [Bool.or_eq_true]
    right
    simp only [eqOkK, a, e1, Bool.and_true, Bool.true_and, Bool.and_eq_true, decide_eq_true_eq, true_and]
    omega
  · simp only [eqD, beq_self_eq_true, Bool.true_and]
    have := eqKs_self (ks := ptK ns) (js := []) (ds := ptD fs) (es := []) (by simpa using ptK_nodup hn) rfl (fun d hd => by
      obtain ⟨f, _, rfl⟩ := List.mem_map.mp hd
      exact eqD_fr f)
    simpa using this
end NK
set_option Elab.async false
set_option linter.all false
set_option autoImplicit false
set_option maxRecDepth 100000
namespace NK
open PySem L2
mutual
theorem eqD_self : ∀ d : D, nod d = true → eqD d d = true
  | .non, _ => by simp [eqD]
  | .bl _, _ => by simp [eqD]
  | .int _, _ => by simp [eqD]
  | .str _, _ => by simp [eqD]
  | .tup ds, h => by simp only [eqD]; exact eqDs_self ds (by simpa [nod] using h)
  | .lst ds, h => by simp only [eqD]; exact eqDs_self ds (by simpa [nod] using h)
  | .dK _ _, h => by simp [nod] at h
  | .dT _ _, h => by simp [nod] at h
  | .scr ns, _ => by simp [eqD]
theorem eqDs_self : ∀ ds : List D, nods ds = true → eqDs ds ds = true
  | [], _ => by simp [eqDs]
  | d :: ds, h => by
    have h' : nod d = true ∧ nods ds = true := by simpa [nods] using h
    simp [eqDs, eqD_self d h'.1, eqDs_self ds h'.2]
end
theorem c_eq_self {st : Sto} {d : D} (h : nod d = true) (hd : dep d ≤ 190) : cmpV .eq (.dat d) (.dat d) st = some true := by
  have e : eqOk d d = true := by unfold eqOk; simp [h, hd]
  rw [c_eq_of rfl rfl e, eqD_self d h]
def lst5 : W := [108, 101, 97, 115, 116]
def mor4 : W := [109, 111, 114, 101]
def wd (m : Bool) : W := if m then mor4 else lst5
def tmsD (ts : List (Nat × Int)) : D := .tup (ts.map tmD)
def rowD (m : Bool) (ts : List (Nat × Int)) (b : Int) : D := .tup [.str (wd m), tmsD ts, .int b]
theorem c_row (d : Nat) {ns : List Nat} {a b : Int} (h : Pu a b) (hl : ns.length ≤ 10) : ∃ m ts w a' b', call PG (d + 4) 29 [.ref 0, .dat (.tup (ns.map nmD))] [pu a b] = some (.dat (rowD m ts w), [pu a' b']) ∧ Pu a' b' ∧ TmDr ts ns ∧ Bd 80 w := by
  obtain ⟨r, a1, b1, e1, h1, l1, u1⟩ := c_take (d + 2) (m := 2) h (by decide) (bd_lit (n := 20) |>.mono (by decide))
  obtain ⟨ts, a2, b2, e2, h2, hts⟩ := c_terms d (ns := ns) h1 hl
  obtain ⟨w, a3, b3, e3, h3, hw⟩ := c_number21 (d + 1) h2
  have : r = 0 ∨ r = 1 := by omega
  rcases this with e | e <;> subst e
  · refine ⟨false, ts, w, a3, b3, ?_, h3, hts, hw⟩
    rw [call_go F29 rfl rfl]
    simp [F29, startE, e1, e2, e3, rowD, tmsD, wd, lst5]
  · refine ⟨true, ts, w, a3, b3, ?_, h3, hts, hw⟩
    rw [call_go F29 rfl rfl]
    simp [F29, startE, e1, e2, e3, rowD, tmsD, wd, mor4]
section
variable {pv : Val} {look : Nat → Int × Int} {ns : List Nat}
theorem acc_bds (hp : PtV pv look ns) {ts : List (Nat × Int)} (h : TmOk ts ns) (hl : ts.length ≤ 10) : Bd 40000 (acc look ts 0 1).1 ∧ Bd 700 (acc look ts 0 1).2 ∧ 0 < (acc look ts 0 1).2 := by
  have one : Bd 1 1 := bd_lit
  have nil : Bd 1 0 := bd_lit
  obtain ⟨b1, b2⟩ := acc_bd hp h nil one
  refine ⟨b1.mono (by
    have : (1 + 300 * ts.length) * ts.length ≤ (1 + 300 * 10) * 10 := Nat.mul_le_mul (by omega) hl
    omega), b2.mono (by omega), acc_low hp h (by decide)⟩
def soB (look : Nat → Int × Int) (m : Bool) (ts : List (Nat × Int)) (b : Int) : Bool := if m then decide (b * (acc look ts 0 1).2 < (acc look ts 0 1).1) else !decide ((acc look ts 0 1).1 < b * (acc look ts 0 1).2)
theorem c_isso (d : Nat) (hp : PtV pv look ns) {m : Bool} {ts : List (Nat × Int)} {b : Int} (h : TmOk ts ns) (hl : ts.length ≤ 10) (hb : Bd 90 b) : call PG (d + 4) 31 [.dat (rowD m ts b), pv] [] = some (.dat (.bl (soB look m ts b)), []) := by
  obtain ⟨p, q, g1, g2, g3, g4, g5⟩ := c_worth d hp h hl (w := 0) (by_ := 1) bd_lit bd_lit (by decide)
  obtain ⟨h1, h2, h3⟩ := acc_bds hp h hl
  rw [Int.mul_one] at g2
  have m1 : okMul b q = true := okMul_bd hb g5
  have m2 : okMul p 1 = true := okMul_bd g4 (n := 1) bd_lit
  have l1 := c_less (d + 2) b 1 p q m1 m2
  have l2 := c_less (d + 2) p q b 1 m2 m1
  have q0 := g3.pos
  have k1 : (b * q < p * 1) ↔ (b * (acc look ts 0 1).2 < (acc look ts 0 1).1) := by
    generalize (acc look ts 0 1).1 = T at *
    generalize (acc look ts 0 1).2 = B at *
    rw [Int.mul_one]
    constructor
    · intro hlt
      have : b * q * B < p * B := Int.mul_lt_mul_of_pos_right hlt h3
      rw [g2] at this
      have e : b * q * B = (b * B) * q := by grind
      rw [e] at this
      exact Int.lt_of_mul_lt_mul_right this (by omega)
    · intro hlt
      have : b * B * q < T * q := Int.mul_lt_mul_of_pos_right hlt q0
      rw [← g2] at this
      have e : b * B * q = (b * q) * B := by grind
      rw [e] at this
      exact Int.lt_of_mul_lt_mul_right this (by omega)
  have k2 : (p * 1 < b * q) ↔ ((acc look ts 0 1).1 < b * (acc look ts 0 1).2) := by
    generalize (acc look ts 0 1).1 = T at *
    generalize (acc look ts 0 1).2 = B at *
    rw [Int.mul_one]
    constructor
    · intro hlt
      have : p * B < b * q * B := Int.mul_lt_mul_of_pos_right hlt h3
      rw [g2] at this
      have e : b * q * B = (b * B) * q := by grind
      rw [e] at this
      exact Int.lt_of_mul_lt_mul_right this (by omega)
    · intro hlt
      have : T * q < b * B * q := Int.mul_lt_mul_of_pos_right hlt q0
      rw [← g2] at this
      have e : b * B * q = (b * q) * B := by grind
      rw [e] at this
      exact Int.lt_of_mul_lt_mul_right this (by omega)
  have L1 : call PG (d + 3) 7 [.dat (.tup [.int b, .int 1]), .dat (.tup [.int p, .int q])] [] = some (.dat (.bl (decide (b * (acc look ts 0 1).2 < (acc look ts 0 1).1))), []) := by
    rw [show d + 3 = d + 2 + 1 from rfl, l1, decide_eq_decide.mpr k1]
  have L2 : call PG (d + 3) 7 [.dat (.tup [.int p, .int q]), .dat (.tup [.int b, .int 1])] [] = some (.dat (.bl (decide ((acc look ts 0 1).1 < b * (acc look ts 0 1).2))), []) := by
    rw [show d + 3 = d + 2 + 1 from rfl, l2, decide_eq_decide.mpr k2]
  clear l1 l2
  unfold rowD tmsD
  rw [call_go F31 rfl rfl]
  rcases hp.kind with ⟨ks, ds, rfl⟩ | ⟨ks, ds, rfl⟩ <;> cases m <;> simp [F31, startE, g1, L1, L2, soB, wd, mor4, lst5]
end
end NK
set_option Elab.async false
set_option linter.all false
set_option autoImplicit false
set_option maxRecDepth 100000
namespace NK
open PySem L2
def lckN (ms : List Nat) (ts : List (Nat × Int)) : Option Nat := (ts.map (·.1)).find? fun x => !decide (x ∈ ms)
section
variable {C : Calls} {R : RCalls} {env e1 : Env} {st s1 : Sto}
theorem rv_nrms : ∀ {L : List RaS} {env : Env} {st : Sto}, (∀ s ∈ L, ∃ t, s = .nrm t) → rvSs C R L env st = none
  | [], env, st, _ => by simp only [rvSs]
  | s :: L, env, st, h => by
    obtain ⟨t, rfl⟩ := h s List.mem_cons_self
    have ih := fun env st => rv_nrms (L := L) (env := env) (st := st) fun s hs => h s (List.mem_cons_of_mem _ hs)
    have e0 : rvS C R (.nrm t) env st = none := by simp only [rvS]
    simp only [rvSs, e0]
    cases evS C (nrmS (.nrm t)) env st with
    | none => rfl
    | some o => cases o with
      | rt v s => rfl
      | nx e s => exact ih e s
theorem rv_none {s : RaS} {ss : List RaS} (h : rvS C R s env st = none) (h2 : ∀ e s, rvSs C R ss e s = none) : rvSs C R (s :: ss) env st = none := by
  simp only [rvSs, h]
  cases evS C (nrmS s) env st with
  | none => rfl
  | some o => cases o with
    | rt v s => rfl
    | nx e s => exact h2 e s
end
def ptV (ms : List Nat) (fs : List (Int × Int)) : Val := .bor (.dK (ptK ms) (ptD fs))
theorem notin_pt {ms : List Nat} {fs : List (Int × Int)} (hl : fs.length = ms.length) {c : Nat} {st : Sto} : cmpV .notin (.dat (nmD c)) (ptV ms fs) st = some (!decide (c ∈ ms)) := by
  have dn : ∀ {ks : List K1} {ds : List D} {k : K1}, k ∉ ks → dlook ks ds k = none := fun {ks ds k} h => by
    induction ks generalizing ds with
    | nil => cases ds <;> rfl
    | cons a ks ih => cases ds with
      | nil => rfl
      | cons d ds =>
        have : ¬ a = k := fun e => h (by rw [e]; exact List.mem_cons_self)
        simp only [dlook, if_neg this]
        exact ih fun hm => h (List.mem_cons_of_mem _ hm)
  by_cases h : c ∈ ms
  · have e := (dlook_pt hl h).1
    simp [ptV, cmpV, cmpV.inV, snap, nmD, toK, e, h]
  · have e : dlook (ptK ms) (ptD fs) (.inr [c]) = none := dn fun hm => h (ptK_mem.mp hm)
    simp [ptV, cmpV, cmpV.inV, snap, nmD, toK, e, h]
theorem rvf25 (C : Calls) (R : RCalls) {ms : List Nat} {fs : List (Int × Int)} (hl : fs.length = ms.length) (x0 : Option Val) : ∀ {ts : List (Nat × Int)} {x2 x3 : Option Val}, ∃ y2 y3, rvFor (fun d e => bindT [2, 3] true d e) (fun e s => rvSs C R F100025b1 e s) (fun e s => evSs C (nrmSs F100025b1) e s) (ts.map tmD) [x0, some (ptV ms fs), x2, x3] [] =
    (lckN ms ts).map fun x => (xNN (nmD x), [x0, some (ptV ms fs), y2, y3], [])
  | [], x2, x3 => ⟨x2, x3, by simp [rvFor, lckN]⟩
  | (x, w) :: ts, x2, x3 => by
    obtain ⟨y2, y3, ih⟩ := rvf25 C R hl x0 (ts := ts) (x2 := some (.dat (nmD x))) (x3 := some (.dat (.int w)))
    have hn := fun st => notin_pt hl (c := x) (st := st)
    by_cases h : x ∈ ms
    · refine ⟨y2, y3, ?_⟩
      have e : lckN ms ((x, w) :: ts) = lckN ms ts := by simp [lckN, h]
      rw [List.map_cons, e, ← ih]
      generalize ptV ms fs = pv at *
      refine rvf_no (e1 := [x0, some pv, some (.dat (nmD x)), some (.dat (.int w))]) rfl ?_ ?_
      · rw [F100025b1, rv_no (e1 := [x0, some pv, some (.dat (nmD x)), some (.dat (.int w))]) (s1 := []), rv_nil]
        · simp [rvS, rvSs, hn, h, boolR]
        · simp [nrmS, nrmSs, hn, h, boolR]
      · simp [F100025b1, nrmS, nrmSs, hn, h, boolR]
    · refine ⟨some (.dat (nmD x)), some (.dat (.int w)), ?_⟩
      have e : lckN ms ((x, w) :: ts) = some x := by simp [lckN, h]
      rw [List.map_cons, e]
      generalize ptV ms fs = pv at *
      refine rvf_yes (e1 := [x0, some pv, some (.dat (nmD x)), some (.dat (.int w))]) rfl ?_
      rw [F100025b1, rv_yes]
      simp [rvS, rvSs, hn, h, boolR, toDs, toD, xNN]
theorem r_must25 (d : Nat) {ms : List Nat} {fs : List (Int × Int)} (hl : fs.length = ms.length) (ts : List (Nat × Int)) : rcall PG (d + 1) 25 [.dat (tmsD ts), ptV ms fs] [] = (lckN ms ts).map fun x => (xNN (nmD x), []) := by
  obtain ⟨y2, y3, e⟩ := rvf25 (call PG d) (rcall PG d) hl (some (.dat (tmsD ts))) (ts := ts) (x2 := none) (x3 := none)
  rw [rcall_go (fr := F100025) F25 rfl rfl rfl rfl rfl]
  have h1 : rvS (call PG d) (rcall PG d) (.forS [2, 3] true (.e (.var 0)) F100025b1) [some (.dat (tmsD ts)), some (ptV ms fs), none, none] [] = (lckN ms ts).map fun x => (xNN (nmD x), [some (.dat (tmsD ts)), some (ptV ms fs), y2, y3], []) := by
    rw [← e]
    simp only [rvS]
    simp [evI, tmsD]
  show (rvSs (call PG d) (rcall PG d) F100025b0 [some (.dat (tmsD ts)), some (ptV ms fs), none, none] []).map _ = _
  cases hf : lckN ms ts with
  | some x =>
    rw [hf] at h1
    rw [F100025b0, rv_yes h1]
    rfl
  | none =>
    rw [hf] at h1
    rw [F100025b0, rv_none h1 fun e s => rv_nil]
    rfl
theorem callR_db {R : RCalls} {f : Nat} {a b : D} {st : Sto} : callR R f [false, false] [.dat a, .bor b] st = (R f [.dat a, .bor b] []).map (·.1) := rfl
theorem r_worth26 (d : Nat) {ms : List Nat} {fs : List (Int × Int)} (hl : fs.length = ms.length) (ts : List (Nat × Int)) (w m : Int) : rcall PG (d + 2) 26 [.dat (.tup [tmsD ts, .int w, .int m]), ptV ms fs] [] = (lckN ms ts).map fun x => (xNN (nmD x), []) := by
  have h := r_must25 d hl ts
  rw [rcall_go (fr := F100026) F26 rfl rfl rfl rfl rfl]
  have ef : F100026b0 = .nrm (.setT [4, 5, 6] (.var 0)) :: .cal (.expr (.call 25 [false, false] [(.var 4), (.var 1)])) :: F100026b0.drop 2 := rfl
  have hnr : ∀ s ∈ F100026b0.drop 2, ∃ t, s = .nrm t := fun s hs => by
    simp only [F100026b0, List.drop_succ_cons, List.drop_zero, List.mem_cons, List.not_mem_nil, or_false] at hs
    rcases hs with rfl | rfl | rfl | rfl <;> exact ⟨_, rfl⟩
  show (rvSs (call PG (d + 1)) (rcall PG (d + 1)) F100026b0 [some (.dat (.tup [tmsD ts, .int w, .int m])), some (ptV ms fs), none, none, none, none, none, none, none, none, none] []).map _ = _
  generalize tmsD ts = T at *
  have n1 : evS (call PG (d + 1)) (.setT [4, 5, 6] (.var 0)) [some (.dat (.tup [T, .int w, .int m])), some (ptV ms fs), none, none, none, none, none, none, none, none, none] [] = some (.nx [some (.dat (.tup [T, .int w, .int m])), some (ptV ms fs), none, none, some (.dat T), some (.dat (.int w)), some (.dat (.int m)), none, none, none, none] []) := by simp
  rw [ef, rv_nrm n1]
  have a1 : evEs (call PG (d + 1)) [(.var 4), (.var 1)] [some (.dat (.tup [T, .int w, .int m])), some (ptV ms fs), none, none, some (.dat T), some (.dat (.int w)), some (.dat (.int m)), none, none, none, none] [] = some ([.dat T, ptV ms fs], []) := by simp
  have b1 : callR (rcall PG (d + 1)) 25 [false, false] [.dat T, ptV ms fs] [] = (lckN ms ts).map fun x => xNN (nmD x) := by
    show callR (rcall PG (d + 1)) 25 [false, false] [.dat T, .bor (.dK (ptK ms) (ptD fs))] [] = _
    rw [callR_db]
    have h : rcall PG (d + 1) 25 [.dat T, .bor (.dK (ptK ms) (ptD fs))] [] = _ := h
    rw [h, Option.map_map]
    rfl
  cases hf : lckN ms ts with
  | some x =>
    rw [hf] at b1
    rw [rv_cal_yes (f := 25) (m := [false, false]) rfl a1 b1]
    rfl
  | none =>
    rw [hf] at b1
    rw [rv_none (by simp only [rvS, exprOf, Option.bind_some, rvE, rvE0, a1, b1, Option.map_none]) fun e s => rv_nrms hnr]
    rfl
theorem r_isso31 (d : Nat) {ms : List Nat} {fs : List (Int × Int)} (hl : fs.length = ms.length) (m : Bool) (ts : List (Nat × Int)) (b : Int) : rcall PG (d + 3) 31 [.dat (rowD m ts b), ptV ms fs] [] = (lckN ms ts).map fun x => (xNN (nmD x), []) := by
  have h := r_worth26 d hl ts 0 1
  rw [rcall_go (fr := F100031) F31 rfl rfl rfl rfl rfl]
  have ef : F100031b0 = .cal (.set 2 (.call 26 [false, false] [(.tup [(.idx (.var 0) (.int 1)), (.int 0), (.int 1)]), (.var 1)])) :: F100031b0.drop 1 := rfl
  have hnr : ∀ s ∈ F100031b0.drop 1, ∃ t, s = .nrm t := fun s hs => by
    simp only [F100031b0, List.drop_succ_cons, List.drop_zero, List.mem_cons, List.not_mem_nil, or_false] at hs
    rcases hs with rfl | rfl | rfl <;> exact ⟨_, rfl⟩
  show (rvSs (call PG (d + 2)) (rcall PG (d + 2)) F100031b0 [some (.dat (.tup [.str (wd m), tmsD ts, .int b])), some (ptV ms fs), none, none] []).map _ = _
  generalize tmsD ts = T at *
  have a1 : evEs (call PG (d + 2)) [(.tup [(.idx (.var 0) (.int 1)), (.int 0), (.int 1)]), (.var 1)] [some (.dat (.tup [.str (wd m), T, .int b])), some (ptV ms fs), none, none] [] = some ([.dat (.tup [T, .int 0, .int 1]), ptV ms fs], []) := by simp
  have b1 : callR (rcall PG (d + 2)) 26 [false, false] [.dat (.tup [T, .int 0, .int 1]), ptV ms fs] [] = (lckN ms ts).map fun x => xNN (nmD x) := by
    show callR (rcall PG (d + 2)) 26 [false, false] [.dat (.tup [T, .int 0, .int 1]), .bor (.dK (ptK ms) (ptD fs))] [] = _
    rw [callR_db]
    have h : rcall PG (d + 2) 26 [.dat (.tup [T, .int 0, .int 1]), .bor (.dK (ptK ms) (ptD fs))] [] = _ := h
    rw [h, Option.map_map]
    rfl
  rw [ef]
  cases hf : lckN ms ts with
  | some x =>
    rw [hf] at b1
    rw [rv_cal_yes (f := 26) (m := [false, false]) rfl a1 b1]
    rfl
  | none =>
    rw [hf] at b1
    rw [rv_none (by simp only [rvS, exprOf, Option.bind_some, rvE, rvE0, a1, b1, Option.map_none]) fun e s => rv_nrms hnr]
    rfl
end NK
set_option Elab.async false
set_option linter.all false
set_option autoImplicit false
set_option maxRecDepth 100000
namespace NK
open PySem L2
theorem cells_ok {ns : List Int} (hl : ns.length ≤ 63) (hb : ∀ z ∈ ns, PySem.Builtin.Int.intBits z ≤ 1048576) {pre post : List Int} (hp : ∀ c ∈ pre, Bd 1050000 c) (hq : ∀ c ∈ post, Bd 1050000 c) {a b : Nat} : ∀ c ∈ pre ++ (ns.take b).drop a ++ post, Bd 1050000 c := by
  intro c hc
  rw [List.mem_append, List.mem_append] at hc
  rcases hc with (hc | hc) | hc
  · exact hp c hc
  · exact (bd_intBits (hb c (List.mem_of_mem_take (List.mem_of_mem_drop hc)))).mono (by decide)
  · exact hq c hc
theorem cut_mid {α : Type} {xs : List α} {a b : Nat} : cutL xs (some (a : Int)) (some (b : Int)) = (xs.take b).drop a := by
  unfold cutL
  rw [sIx_nat, sIx_nat, List.drop_take]
  by_cases h : a ≤ xs.length
  · rw [Nat.min_eq_left h]
    by_cases h2 : b ≤ xs.length
    · rw [Nat.min_eq_left h2]
    · rw [Nat.min_eq_right (by omega), List.take_of_length_le (by rw [List.length_drop]; omega), List.take_of_length_le (by rw [List.length_drop]; omega)]
  · rw [List.drop_eq_nil_of_le (as := xs) (i := a) (by omega), List.drop_eq_nil_of_le (by omega)]
    simp
end NK
set_option Elab.async false
set_option linter.all false
set_option autoImplicit false
set_option maxRecDepth 100000
namespace NK
open PySem L2
def dlI {κ : Type} [DecidableEq κ] : List κ → List Int → κ → Option Int
  | k :: ks, v :: vs, j => if k = j then some v else dlI ks vs j
  | _, _, _ => none
def dsI {κ : Type} [DecidableEq κ] : List κ → List Int → κ → Int → List Int
  | k :: ks, v :: vs, j, e => (if k = j then e else v) :: dsI ks vs j e
  | _, _, _, _ => []
abbrev KI := List K1 × List Int
def dpI {κ : Type} [DecidableEq κ] (s : List κ × List Int) (j : κ) (x : Int) : List κ × List Int := if j ∈ s.1 then (s.1, dsI s.1 s.2 j x) else (s.1 ++ [j], s.2 ++ [x])
def gtI (s : KI) (j : K1) : Int := (dlI s.1 s.2 j).getD 0
def dO (s : KI) : Obj := .dK s.1 (s.2.map .int)
theorem dlook_int {κ : Type} [DecidableEq κ] : ∀ {ks : List κ} {vs : List Int} {j : κ}, dlook ks (vs.map .int) j = (dlI ks vs j).map .int
  | [], vs, j => by cases vs <;> rfl
  | k :: ks, [], j => rfl
  | k :: ks, v :: vs, j => by
    simp only [List.map_cons, dlook, dlI]
    split
    · rfl
    · exact dlook_int
theorem dlI_mem {κ : Type} [DecidableEq κ] : ∀ {ks : List κ} {vs : List Int} {k : κ} {v : Int}, dlI ks vs k = some v → v ∈ vs
  | [], vs, k, v, h => by cases vs <;> simp [dlI] at h
  | _ :: _, [], k, v, h => by simp [dlI] at h
  | a :: ks, w :: vs, k, v, h => by
    simp only [dlI] at h
    split at h
    · cases h; exact List.mem_cons_self
    · exact List.mem_cons_of_mem _ (dlI_mem h)
theorem dsI_mem {κ : Type} [DecidableEq κ] : ∀ {ks : List κ} {vs : List Int} {k : κ} {x v : Int}, v ∈ dsI ks vs k x → v = x ∨ v ∈ vs
  | [], vs, k, x, v, h => by cases vs <;> simp [dsI] at h
  | _ :: _, [], k, x, v, h => by simp [dsI] at h
  | a :: ks, w :: vs, k, x, v, h => by
    simp only [dsI, List.mem_cons] at h
    rcases h with h | h
    · split at h
      · exact .inl h
      · exact .inr (h ▸ List.mem_cons_self)
    · exact (dsI_mem h).imp id (List.mem_cons_of_mem _)
def Vb (b : Nat) (s : KI) : Prop := ∀ v ∈ s.2, v.natAbs ≤ b
theorem Vb.gt {b : Nat} {s : KI} (h : Vb b s) (j : K1) : (gtI s j).natAbs ≤ b := by
  unfold gtI
  cases e : dlI s.1 s.2 j with
  | none => exact Nat.zero_le _
  | some v => exact h v (dlI_mem e)
theorem Vb.dp {b : Nat} {s : KI} (h : Vb b s) {j : K1} {x : Int} (hx : x.natAbs ≤ b) : Vb b (dpI s j x) := by
  unfold dpI
  split
  · intro v hv
    rcases dsI_mem hv with e | e
    · rw [e]; exact hx
    · exact h v e
  · intro v hv
    rcases List.mem_append.mp hv with e | e
    · exact h v e
    · rw [List.mem_singleton.mp e]; exact hx
theorem Vb.mono {b c : Nat} {s : KI} (h : Vb b s) (hc : b ≤ c) : Vb c s := fun v hv => Nat.le_trans (h v hv) hc
abbrev Row := Bool × List (Nat × Int) × Int
def rD (r : Row) : D := rowD r.1 r.2.1 r.2.2
@[simp] theorem zipG_r {rs : List Row} {ys : List D} : zipG (rs.map rD) ys = some (zipL (rs.map rD) ys) := zipG_of fun x hx => by
  obtain ⟨w, _, rfl⟩ := List.mem_map.mp hx
  rfl
@[simp] theorem prs_tms (ts : List (Nat × Int)) : prs (ts.map tmD) = true := by
  induction ts with
  | nil => rfl
  | cons t ts ih => exact ih
@[simp] theorem get_dO {s : KI} {st : Sto} {l : Nat} {w : W} (h : st[l]? = some (dO s)) : mtV .get (.ref l) [.dat (.str w), .dat (.int 0)] st = some (.dat (.int (gtI s (.inr w))), st) := by
  have e : snap st (.ref l) = some (.dK s.1 (s.2.map .int)) := by simp [snap, h, dO, fzO]
  simp only [mtV, e, toK, Option.map_some, dlook_int, gtI]
  cases dlI s.1 s.2 (Sum.inr w) <;> rfl
end NK
set_option Elab.async false
set_option linter.all false
set_option autoImplicit false
set_option maxRecDepth 100000
namespace NK
open PySem L2
structure Sm where
  ts : List (Nat × Int)
  w : Int
  m : Int
inductive Stm where
  | set (x : Nat) (s : Sm) | any (x : Nat) | note (rs : List Row)
  | cho (a b : List Stm) | ite (r : Row) (a b : List Stm) | whl (r : Row) (rs : List Row) (f : Option (Sm × Int)) (b : List Stm)
abbrev wSet : W := [115, 101, 116]
abbrev wAny : W := [97, 110, 121]
abbrev wNote : W := [110, 111, 116, 101]
abbrev wCho : W := [99, 104, 111, 111, 115, 101]
abbrev wIf : W := [105, 102]
abbrev wWhl : W := [119, 104, 105, 108, 101]
def smD (s : Sm) : D := .tup [.tup (s.ts.map tmD), .int s.w, .int s.m]
def feD : Option (Sm × Int) → D
  | none => .non
  | some p => .tup [smD p.1, .int p.2]
mutual
def sD : Stm → D
  | .set x s => .tup [.str wSet, nmD x, smD s]
  | .any x => .tup [.str wAny, nmD x]
  | .note rs => .tup [.str wNote, .tup (rs.map rD)]
  | .cho a b => .tup [.str wCho, .tup (bD a), .tup (bD b)]
  | .ite r a b => .tup [.str wIf, rD r, .tup (bD a), .tup (bD b)]
  | .whl r rs f b => .tup [.str wWhl, rD r, .tup (rs.map rD), feD f, .tup (bD b)]
def bD : List Stm → List D
  | [] => []
  | s :: b => sD s :: bD b
end
mutual
def cntS (w : Stm → Nat) : Stm → Nat
  | .set x s => w (.set x s)
  | .any x => w (.any x)
  | .note rs => w (.note rs)
  | .cho a b => w (.cho a b) + (cntB w a + cntB w b)
  | .ite r a b => w (.ite r a b) + (cntB w a + cntB w b)
  | .whl r rs f b => w (.whl r rs f b) + cntB w b
def cntB (w : Stm → Nat) : List Stm → Nat
  | [] => 0
  | s :: b => cntS w s + cntB w b
end
def w1 : Stm → Nat := fun _ => 1
def wBr : Stm → Nat
  | .cho _ _ => 1
  | .ite _ _ _ => 1
  | _ => 0
def wLp : Stm → Nat
  | .whl _ _ _ _ => 1
  | _ => 0
def wAn : Stm → Nat
  | .any _ => 1
  | _ => 0
def wNt : Stm → Nat
  | .note rs => rs.length
  | _ => 0
theorem cntB_app {w : Stm → Nat} : ∀ {a b : List Stm}, cntB w (a ++ b) = cntB w a + cntB w b
  | [], b => by simp [cntB]
  | s :: a, b => by simp [cntB, cntB_app (a := a), Nat.add_assoc]
structure Bud where
  at_ : Nat
  n : Nat
  br : Nat
  lp : Nat
  an : Nat
  nt : Nat
structure ConsB (q : Bud) (b : List Stm) (q' : Bud) : Prop where
  at_ : q.at_ ≤ q'.at_
  n : q'.n + cntB w1 b = q.n
  br : q'.br + cntB wBr b = q.br
  lp : q'.lp + cntB wLp b = q.lp
  an : q'.an + cntB wAn b = q.an
  nt : q'.nt + cntB wNt b = q.nt
end NK
set_option Elab.async false
set_option linter.all false
set_option autoImplicit false
set_option maxRecDepth 100000
namespace NK
open PySem L2
@[simp] theorem chk_two {r : Ret} {o o' : Obj} : CHK (r, [o, o']) = if flat o && flat o' then some (r, [o, o']) else none := by simp [CHK]
section
variable {cs : List Int}
@[simp] theorem at_5 {α : Type} {a b c d e f : α} {xs : List α} : at? (a :: b :: c :: d :: e :: f :: xs) 5 = some f := by
  rw [show (5 : Int) = ((5 : Nat) : Int) from rfl, at_nat]; rfl
@[simp] theorem at_6 {α : Type} {a b c d e f g : α} {xs : List α} : at? (a :: b :: c :: d :: e :: f :: g :: xs) 6 = some g := by
  rw [show (6 : Int) = ((6 : Nat) : Int) from rfl, at_nat]; rfl
end
section
variable {cs : List Int} {ns : List Nat}
theorem ConsB.app {q q1 q2 : Bud} {a b : List Stm} (h : ConsB q a q1) (h' : ConsB q1 b q2) : ConsB q (a ++ b) q2 := by
  obtain ⟨h1, h2, h3, h4, h5, h6⟩ := h
  obtain ⟨g1, g2, g3, g4, g5, g6⟩ := h'
  refine ⟨?_, ?_, ?_, ?_, ?_, ?_⟩ <;> (try simp only [cntB_app]) <;> omega
theorem ConsB.nil {q : Bud} : ConsB q [] q := ⟨Nat.le_refl _, rfl, rfl, rfl, rfl, rfl⟩
end
end NK
set_option Elab.async false
set_option linter.all false
set_option autoImplicit false
set_option maxRecDepth 100000
namespace NK
open PySem L2
theorem COMP_t {α : Type} {C : Calls} {elt c : E} {tg own : List Nat} {tup : Bool} {env : Env} {st : Sto} (g : α → D) (p : α → Bool) (f : α → D) : ∀ {L : List α}, (∀ a ∈ L, ∃ e1, bindT tg tup (g a) (wipeE env own) = some e1 ∧ evE C c e1 st = some (.dat (.bl (p a)), st) ∧ (p a = true → evE C elt e1 st = some (.dat (f a), st))) →
    COMP C elt tg tup (some c) own (L.map g) env st = some ((L.filter p).map f, st)
  | [], _ => rfl
  | d :: ds, h => by
    obtain ⟨e1, h1, h2, h3⟩ := h d List.mem_cons_self
    have ih := COMP_t g p f (L := ds) fun d hd => h d (List.mem_cons_of_mem _ hd)
    unfold COMP at ih ⊢
    rw [List.map_cons]
    simp only [compV, h1, evC, h2, ob_some]
    cases hp : p d with
    | false =>
      rw [List.filter_cons_of_neg (by simp [hp])]
      exact ih
    | true =>
      rw [List.filter_cons_of_pos hp, List.map_cons]
      simp only [boolR, ob_some, if_true, h3 hp, toD]
      show Option.map _ (compV own (wipeE env own) (fun d e => bindT tg tup d e) (fun e s => evC C (some c) e s) (fun e s => evE C elt e s) (ds.map g) st) = _
      rw [ih]; rfl
def word : Stm → W
  | .set _ _ => wSet
  | .any _ => wAny
  | .note _ => wNote
  | .cho _ _ => wCho
  | .ite _ _ _ => wIf
  | .whl _ _ _ _ => wWhl
@[simp] theorem at_sD {s : Stm} : ∃ r, sD s = .tup (.str (word s) :: r) := by cases s <;> exact ⟨_, by simp only [sD, word]; rfl⟩
@[simp] theorem add_tup {a b : List D} {st : Sto} : binV .add (.dat (.tup a)) (.dat (.tup b)) st = if a.length + b.length ≤ LIM then some (.dat (.tup (a ++ b))) else none := rfl
end NK
set_option Elab.async false
set_option linter.all false
set_option autoImplicit false
set_option maxRecDepth 100000
namespace NK
open PySem L2
@[simp] theorem idx_word {s : Stm} {st : Sto} : idxV (.dat (sD s)) (.dat (.int 0)) st = some (.str (word s)) := by
  cases s <;> simp [sD, word]
@[simp] theorem bi_sum {ds : List D} {st : Sto} : biV .sum [.dat (.lst ds)] st = (intsD ds).map fun ns => .int ns.sum := nr rfl
end NK
set_option Elab.async false
set_option linter.all false
set_option autoImplicit false
set_option maxRecDepth 100000
namespace NK
open PySem L2
abbrev keepW : W := [75, 101, 101, 112, 69, 114, 114, 111, 114]
def tb429 : List RaS := [.ifS (.cmp .eq (.var 0) (.int 0)) [.cal (.expr (.call 26 [false, false] [(.var 1), (.var 3)]))] [], .ifS (.cmp .eq (.var 0) (.int 1)) [.cal (.expr (.call 31 [false, false] [(.var 2), (.var 3)]))] []]
theorem k429 : F429.kind = .tr tb429 keepW 5 4 [.ret (.var 4)] := rfl
def capD : Option Nat → D
  | some x => xNN (nmD x)
  | none => .non
theorem c_caught429 (d : Nat) {way : Nat} (hw : way < 2) {t r : D} {pv : Val} (hpv : ∃ dd, pv = .bor dd) {f : Nat} {a : D} (hf : (way = 0 ∧ f = 26 ∧ a = t) ∨ (way = 1 ∧ f = 31 ∧ a = r)) {o : Option Nat} (hr : rcall PG d f [.dat a, pv] [] = o.map fun x => (xNN (nmD x), [])) (hc : o = none → ∃ v, call PG d f [.dat a, pv] [] = some (.dat v, [])) :
    call PG (d + 1) 429 [.dat (.int (way : Int)), .dat t, .dat r, pv] [] = some (.dat (capD o), []) := by
  obtain ⟨dd, rfl⟩ := hpv
  rw [call_tr (fn := F429) rfl k429 rfl]
  have p1 : evSs (call PG d) F429.body (startE F429 [.dat (.int (way : Int)), .dat t, .dat r, .bor dd]) [] = some (.nx [some (.dat (.int (way : Int))), some (.dat t), some (.dat r), some (.bor dd), some (.dat .non), none] []) := by simp [F429, startE]
  have hcr : callR (rcall PG d) f [false, false] [.dat a, .bor dd] [] = o.map fun x => xNN (nmD x) := by
    rw [callR_db, hr, Option.map_map]
    rfl
  generalize hE : ([some (.dat (.int (way : Int))), some (.dat t), some (.dat r), some (.bor dd), some (.dat .non), none] : Env) = env at *
  have c0 : evE (call PG d) (.cmp .eq (.var 0) (.int 0)) env [] = some (.dat (.bl (decide ((way : Int) = 0))), []) := by rw [← hE]; simp
  have c1 : evE (call PG d) (.cmp .eq (.var 0) (.int 1)) env [] = some (.dat (.bl (decide ((way : Int) = 1))), []) := by rw [← hE]; simp
  have a0 : evEs (call PG d) [(.var 1), (.var 3)] env [] = some ([.dat t, .bor dd], []) := by rw [← hE]; simp
  have a1 : evEs (call PG d) [(.var 2), (.var 3)] env [] = some ([.dat r, .bor dd], []) := by rw [← hE]; simp
  have fin : ∀ x : D, evSs (call PG d) [.ret (.var 4)] ((env.set 4 (some (.dat x))).set 5 none) [] = some (.rt (.dat x) []) := fun x => by rw [← hE]; simp
  have fin0 : evSs (call PG d) [.ret (.var 4)] env [] = some (.rt (.dat .non) []) := by rw [← hE]; simp
  rcases hf with ⟨rfl, rfl, rfl⟩ | ⟨rfl, rfl, rfl⟩
  · have t0 : decide (((0 : Nat) : Int) = 0) = true := rfl
    have t1 : decide (((0 : Nat) : Int) = 1) = false := rfl
    rw [t0] at c0
    rw [t1] at c1
    cases o with
    | some x =>
      have z : rvS (call PG d) (rcall PG d) (.ifS (.cmp .eq (.var 0) (.int 0)) [.cal (.expr (.call 26 [false, false] [(.var 1), (.var 3)]))] []) env [] = some (xNN (nmD x), env, []) := by
        simp only [rvS, c0, Option.bind_some, boolR, if_true]
        exact rv_cal_yes (s := .expr (.call 26 [false, false] [(.var 1), (.var 3)])) (f := 26) (m := [false, false]) rfl a0 hcr
      have r1 : rvSs (call PG d) (rcall PG d) tb429 env [] = some (xNN (nmD x), env, []) := rv_yes z
      simp only [trV, p1, Option.bind_some, r1, show catB keepW (xNN (nmD x)) = true from rfl, if_true, fin]
      rfl
    | none =>
      obtain ⟨v, hv⟩ := hc rfl
      have z : rvS (call PG d) (rcall PG d) (.ifS (.cmp .eq (.var 0) (.int 0)) [.cal (.expr (.call 26 [false, false] [(.var 1), (.var 3)]))] []) env [] = none := by
        simp only [rvS, c0, Option.bind_some, boolR, if_true]
        exact rv_none (by simp only [rvS, exprOf, Option.bind_some, rvE, rvE0, a0, hcr, Option.map_none]) fun e s => rv_nil
      have n0 : evS (call PG d) (.ifS (.cmp .eq (.var 0) (.int 0)) [.expr (.call 26 [false, false] [(.var 1), (.var 3)])] []) env [] = some (.nx env []) := by
        rw [← hE]; simp [hv]
      have n1 : evS (call PG d) (.ifS (.cmp .eq (.var 0) (.int 1)) [.expr (.call 31 [false, false] [(.var 2), (.var 3)])] []) env [] = some (.nx env []) := by
        simp [c1]
      have z1 : rvS (call PG d) (rcall PG d) (.ifS (.cmp .eq (.var 0) (.int 1)) [.cal (.expr (.call 31 [false, false] [(.var 2), (.var 3)]))] []) env [] = none := by
        simp only [rvS, c1, Option.bind_some, boolR, Bool.false_eq_true, if_false, rvSs]
      have r1 : rvSs (call PG d) (rcall PG d) tb429 env [] = none := by
        unfold tb429
        rw [rv_no z n0, rv_no z1 n1, rv_nil]
      have nn : evSs (call PG d) (nrmSs tb429) env [] = some (.nx env []) := by
        show evSs (call PG d) [.ifS (.cmp .eq (.var 0) (.int 0)) [.expr (.call 26 [false, false] [(.var 1), (.var 3)])] [], .ifS (.cmp .eq (.var 0) (.int 1)) [.expr (.call 31 [false, false] [(.var 2), (.var 3)])] []] env [] = _
        simp only [evSs, n0, n1, Option.bind_some]
      simp only [trV, p1, Option.bind_some, r1, nn, fin0]
      rfl
  · have t0 : decide (((1 : Nat) : Int) = 0) = false := rfl
    have t1 : decide (((1 : Nat) : Int) = 1) = true := rfl
    rw [t0] at c0
    rw [t1] at c1
    have n0 : evS (call PG d) (.ifS (.cmp .eq (.var 0) (.int 0)) [.expr (.call 26 [false, false] [(.var 1), (.var 3)])] []) env [] = some (.nx env []) := by
      simp [c0]
    have z0 : rvS (call PG d) (rcall PG d) (.ifS (.cmp .eq (.var 0) (.int 0)) [.cal (.expr (.call 26 [false, false] [(.var 1), (.var 3)]))] []) env [] = none := by
      simp only [rvS, c0, Option.bind_some, boolR, Bool.false_eq_true, if_false, rvSs]
    cases o with
    | some x =>
      have z : rvS (call PG d) (rcall PG d) (.ifS (.cmp .eq (.var 0) (.int 1)) [.cal (.expr (.call 31 [false, false] [(.var 2), (.var 3)]))] []) env [] = some (xNN (nmD x), env, []) := by
        simp only [rvS, c1, Option.bind_some, boolR, if_true]
        exact rv_cal_yes (s := .expr (.call 31 [false, false] [(.var 2), (.var 3)])) (f := 31) (m := [false, false]) rfl a1 hcr
      have r1 : rvSs (call PG d) (rcall PG d) tb429 env [] = some (xNN (nmD x), env, []) := by
        unfold tb429
        rw [rv_no z0 n0, rv_yes z]
      simp only [trV, p1, Option.bind_some, r1, show catB keepW (xNN (nmD x)) = true from rfl, if_true, fin]
      rfl
    | none =>
      obtain ⟨v, hv⟩ := hc rfl
      have z : rvS (call PG d) (rcall PG d) (.ifS (.cmp .eq (.var 0) (.int 1)) [.cal (.expr (.call 31 [false, false] [(.var 2), (.var 3)]))] []) env [] = none := by
        simp only [rvS, c1, Option.bind_some, boolR, if_true]
        exact rv_none (by simp only [rvS, exprOf, Option.bind_some, rvE, rvE0, a1, hcr, Option.map_none]) fun e s => rv_nil
      have n1 : evS (call PG d) (.ifS (.cmp .eq (.var 0) (.int 1)) [.expr (.call 31 [false, false] [(.var 2), (.var 3)])] []) env [] = some (.nx env []) := by
        rw [← hE]; simp [hv]
      have r1 : rvSs (call PG d) (rcall PG d) tb429 env [] = none := by
        unfold tb429
        rw [rv_no z0 n0, rv_no z n1, rv_nil]
      have nn : evSs (call PG d) (nrmSs tb429) env [] = some (.nx env []) := by
        show evSs (call PG d) [.ifS (.cmp .eq (.var 0) (.int 0)) [.expr (.call 26 [false, false] [(.var 1), (.var 3)])] [], .ifS (.cmp .eq (.var 0) (.int 1)) [.expr (.call 31 [false, false] [(.var 2), (.var 3)])] []] env [] = _
        simp only [evSs, n0, n1, Option.bind_some]
      simp only [trV, p1, Option.bind_some, r1, nn, fin0]
      rfl
theorem eq_nilL {ds : List D} {st : Sto} : cmpV .eq (.dat (.lst ds)) (.dat (.lst [])) st = some ds.isEmpty := by cases ds <;> rfl
theorem comp428 (C : Calls) {ms : List Nat} {fs : List (Int × Int)} (hl : fs.length = ms.length) {x0 x1 x3 x4 x5 : Option Val} (ts : List (Nat × Int)) : COMP C (.var 4) [4, 5] true (some (.cmp .notin (.var 4) (.var 2))) [4, 5] (ts.map tmD) [x0, x1, some (ptV ms fs), x3, x4, x5] [] = some (((ts.map (·.1)).filter fun x => !decide (x ∈ ms)).map nmD, []) := by
  have e : ((ts.map (·.1)).filter fun x => !decide (x ∈ ms)).map nmD = (ts.filter fun t => !decide (t.1 ∈ ms)).map fun t => nmD t.1 := by
    rw [List.filter_map, List.map_map]
    rfl
  rw [e]
  refine COMP_t tmD (fun t => !decide (t.1 ∈ ms)) (fun t => nmD t.1) fun t _ => ⟨_, rfl, ?_, fun _ => by simp [wipeE]⟩
  have hn := fun st => notin_pt hl (c := t.1) (st := st)
  generalize ptV ms fs = pv at *
  simp [wipeE, hn]
theorem c_good428 (d : Nat) {ms : List Nat} {fs : List (Int × Int)} (hl : fs.length = ms.length) (ts : List (Nat × Int)) : call PG (d + 1) 428 [.dat (capD (lckN ms ts)), .dat (tmsD ts), ptV ms fs] [] = some (.dat (.bl true), []) := by
  have hc := fun x3 x4 x5 => comp428 (call PG d) hl (x0 := some (.dat (capD (lckN ms ts)))) (x1 := some (.dat (tmsD ts))) (x3 := x3) (x4 := x4) (x5 := x5) ts
  rw [call_go F428 rfl rfl]
  unfold tmsD at *
  cases hx : lckN ms ts with
  | none =>
    have he : (ts.map (·.1)).filter (fun x => !decide (x ∈ ms)) = [] := by
      rw [List.filter_eq_nil_iff]
      intro a ha
      exact List.find?_eq_none.mp hx a ha
    rw [he, hx] at hc
    generalize ptV ms fs = pv at *
    simp [capD] at hc
    simp [F428, startE, hc, capD, fzO, eq_nilL]
  | some x =>
    obtain ⟨as, bs, h1, h2, h3⟩ : ∃ r, (ts.map (·.1)).filter (fun x => !decide (x ∈ ms)) = x :: r ∧ True ∧ True := by
      have : ∀ L : List Nat, L.find? (fun x => !decide (x ∈ ms)) = some x → ∃ r, L.filter (fun x => !decide (x ∈ ms)) = x :: r := fun L => by
        induction L with
        | nil => intro h; cases h
        | cons a L ih =>
          intro h
          rw [List.find?_cons] at h
          split at h
          · rename_i ha
            cases h
            exact ⟨_, List.filter_cons_of_pos ha⟩
          · rename_i ha
            rw [List.filter_cons_of_neg (by rw [ha]; decide)]
            exact ih h
      obtain ⟨r, hr⟩ := this _ hx
      exact ⟨r, hr, trivial, trivial⟩
    rw [bs, hx] at hc
    generalize ptV ms fs = pv at *
    have n2 : ∀ st, cmpV .eq (.dat (nmD x)) (.dat (nmD x)) st = some true := fun st => by simp [nmD]
    simp only [capD, List.map_cons] at hc ⊢
    generalize as.map nmD = AS at *
    simp [xNN] at hc
    simp [F428, startE, hc, fzO, eq_nilL, xNN, subX, wKeep, wVal, lookX, n2]
theorem e_mkx5 {C : Calls} {w : W} {xs : List W} {es : List E} {env : Env} {st : Sto} : evE C (.mkx w xs es) env st = (evEs C es env st).bind fun r => (toDs r.1 r.2).bind fun q => if q.1.length = xs.length then some (.dat (.exc w xs q.1), q.2) else if xs.isEmpty && decide (q.1.length ≤ 100) then some (.dat (.exc w [] []), q.2) else none := by simp only [evE]
theorem c_made427 (d : Nat) {n : Int} (hn : Bd 200 n) (a b c : Int) : call PG (d + 1) 427 [.dat (.int n), .dat (.tup [.int a, .int b, .int c])] [] = some (.dat (.bl true), []) := by
  have e1 : ∀ st, cmpV .eq (.dat (.tup [.int a, .int b, .int c])) (.dat (.tup [.int a, .int b, .int c])) st = some true := fun st => c_eq_self rfl (by simp [dep, deps])
  rw [call_go F427 rfl rfl]
  simp [F427, startE, e_mkx5, toDs, toD, lookX, e1, subX, wKeep, wVal]
end NK
set_option Elab.async false
set_option linter.all false
set_option autoImplicit false
set_option maxRecDepth 100000
namespace NK
open PySem L2
theorem pick_spare5 (C : Calls) {ns : List Nat} (env : Env) (he : ∃ x0 x2 x3 x4 x5 x6 x7 x8 x9 x10 x11, env = [x0, some (.dat (.tup (ns.map nmD))), x2, x3, x4, x5, x6, x7, x8, x9, x10, x11]) : COMP C (.var 11) [11] false (some (.cmp .notin (.var 11) (.var 1))) [11] [.str [113], .str [106], .str [120], .str [122]] env [] = some ((([113, 106, 120, 122] : List Nat).filter fun c => !ns.contains c).map nmD, []) := by
  obtain ⟨x0, x2, x3, x4, x5, x6, x7, x8, x9, x10, x11, rfl⟩ := he
  have hn : ∀ ns : List Nat, nods (ns.map nmD) = true := fun ns => by induction ns with
    | nil => rfl
    | cons n ns ih => simpa [nods, nmD, nod] using ih
  have hin : ∀ c : Nat, ((ns.map nmD).any fun d => eqD d (.str [c])) = ns.contains c := fun c => by
    rw [List.any_map]
    induction ns with
    | nil => rfl
    | cons n ns ih =>
      rw [List.any_cons, List.contains_cons, ih]
      congr 1
      simp [nmD, eqD, Bool.beq_comm]
  have hc : ∀ c : Nat, ∀ st, cmpV .notin (.dat (.str [c])) (.dat (.tup (ns.map nmD))) st = some (!ns.contains c) := fun c st => by
    simp [cmpV, cmpV.inV, snap, nod, dep, hn ns, hin c]
  cases h1 : ns.contains 113 <;> cases h2 : ns.contains 106 <;> cases h3 : ns.contains 120 <;> cases h4 : ns.contains 122 <;> simp only [COMP, compV, wipeE, evC, List.set, bT_one, ob_some, om_some, e_cmp, e_var, List.getElem?_cons_zero, List.getElem?_cons_succ, hc, bR, h1, h2, h3, h4, tD, List.filter, Bool.not_true, Bool.not_false, if_true, Bool.false_eq_true, if_false, List.map_cons, List.map_nil, nmD]
structure PtW (sp : Nat) (pre : List Nat) (ms : List Nat) (fs : List (Int × Int)) : Prop where
  len : fs.length = ms.length
  nd : ms.Nodup
  sub : ∀ x ∈ ms, x = sp ∨ x ∈ pre
  ok : FsOk' fs
  le : ms.length ≤ pre.length + 1
theorem two_pow3 {i : Nat} (h : i < 3) : ∃ v : Int, at? [D.int 1, .int 2, .int 4] (i : Int) = some (.int v) ∧ v ≠ 0 ∧ okDiv v = true := by
  have : i = 0 ∨ i = 1 ∨ i = 2 := by omega
  rcases this with rfl | rfl | rfl <;> exact ⟨_, rfl, by decide, by decide⟩
theorem for_point5 (C : Calls) {sp : Nat} {nms : List Nat} (hsp : sp ∉ nms) (hnd : nms.Nodup) (hl : nms.length ≤ 3) {x0 x2 x3 x5 x6 x7 x9 x10 x11 : Option Val} {b : Int} (hb : Bd 200 b) {base : Sto} :
    ∃ ms fs y9, FOR C [9] false F430b1 (rngL 0 nms.length) [x0, some (.dat (.tup (nms.map nmD))), x2, x3, some (.dat (.int b)), x5, x6, x7, some (.ref base.length), x9, x10, x11] (base ++ [.dK (ptK [sp]) (ptD [(1, 2)])]) = some (.nx [x0, some (.dat (.tup (nms.map nmD))), x2, x3, some (.dat (.int b)), x5, x6, x7, some (.ref base.length), y9, x10, x11] (base ++ [.dK (ptK ms) (ptD fs)])) ∧ PtW sp nms ms fs := by
  have step := forV_inv (bind := fun d e => bindT [9] false d e) (body := fun e s => evSs C F430b1 e s)
    (fun k env st => ∃ ms fs y9, env = [x0, some (.dat (.tup (nms.map nmD))), x2, x3, some (.dat (.int b)), x5, x6, x7, some (.ref base.length), y9, x10, x11] ∧ st = base ++ [.dK (ptK ms) (ptD fs)] ∧ PtW sp (nms.take k) ms fs)
    (ds := rngL 0 nms.length) (k := 0) (env := [x0, some (.dat (.tup (nms.map nmD))), x2, x3, some (.dat (.int b)), x5, x6, x7, some (.ref base.length), x9, x10, x11]) (st := base ++ [.dK (ptK [sp]) (ptD [(1, 2)])]) ⟨[sp], [(1, 2)], x9, rfl, rfl, ⟨rfl, by simp, fun x hx => .inl (by simpa using hx), ⟨fun f hf => by
      rw [List.mem_singleton] at hf
      subst hf
      exact ⟨⟨by decide, by decide⟩, bd_lit, bd_lit⟩⟩, by simp⟩⟩
  have h := step (by
    rintro i dd env st hi ⟨ms, fs, y9, rfl, rfl, hw⟩
    obtain ⟨rfl, hi2⟩ := rngL_get hi
    rw [Int.zero_add, Nat.zero_add]
    rw [Nat.zero_add] at hw
    have hin : i < nms.length := by omega
    obtain ⟨v, hv, v0, v1⟩ := two_pow3 (i := i) (by omega)
    have d2 : okDiv 2 = true := by decide
    have d7 : okDiv 7 = true := by decide
    have hk : at? (nms.map nmD) (i : Int) = some (nmD nms[i]) := by rw [at_nat, List.getElem?_map, List.getElem?_eq_getElem hin]; rfl
    have hni : nms[i] ∉ nms.take i := fun hm => by
      obtain ⟨j, hj, e⟩ := List.mem_iff_getElem.mp hm
      rw [List.getElem_take] at e
      have hj' : j < i := by
        rw [List.length_take] at hj
        omega
      exact (List.pairwise_iff_getElem.mp hnd) j i (by omega) hin hj' e
    have hnm : nms[i] ∉ ms := fun hm => (hw.sub _ hm).elim (fun e => hsp (e ▸ List.getElem_mem hin)) hni
    have hput : dputK (ptK ms) (ptD fs) (.inr [nms[i]]) (.tup [.int (b.fmod 7), .int 1]) = (ptK (ms ++ [nms[i]]), ptD (fs ++ [(b.fmod 7, 1)])) := by
      unfold dputK
      rw [if_neg (fun h => hnm (ptK_mem.mp h))]
      unfold ptK ptD
      rw [List.map_append, List.map_append]
      rfl
    have htk : (nms.take i).length ≤ 3 := by rw [List.length_take]; omega
    have hlim : (ptK ms).length < LIM := by
      unfold ptK LIM
      have := hw.le
      rw [List.length_map]; omega
    have htk1 : nms.take (i + 1) = nms.take i ++ [nms[i]] := by rw [List.take_succ, List.getElem?_eq_getElem hin]; rfl
    have hle1 : ms.length ≤ (nms.take (i + 1)).length + 1 := by
      have := hw.le
      rw [htk1, List.length_append]
      omega
    generalize hkk : nms[i] = kk at *
    by_cases hc : (b.fdiv v).fmod 2 = 1
    · refine ⟨_, [x0, some (.dat (.tup (nms.map nmD))), x2, x3, some (.dat (.int b)), x5, x6, x7, some (.ref base.length), some (.dat (.int i)), x10, x11], base ++ [.dK (ptK (ms ++ [kk])) (ptD (fs ++ [(b.fmod 7, 1)]))], rfl, ?_, ms ++ [kk], fs ++ [(b.fmod 7, 1)], _, rfl, rfl, ⟨by simp [hw.len], ?_, ?_, ⟨?_⟩, by rw [htk1]; have := hw.le; simp only [List.length_append, List.length_cons, List.length_nil]; omega⟩⟩
      · simp [F430b1, F430i0, hv, v0, v1, d2, d7, hk, nmD, hc, hput, hlim]
      · rw [List.nodup_append]
        refine ⟨hw.nd, by simp, fun a ha c hc2 e => ?_⟩
        simp at hc2
        subst hc2; subst e
        exact hnm ha
      · intro x hx
        rw [htk1]
        rcases List.mem_append.mp hx with h | h
        · exact (hw.sub x h).elim .inl fun h => .inr (List.mem_append_left _ h)
        · exact .inr (List.mem_append_right _ h)
      · intro f hf
        rcases List.mem_append.mp hf with h | h
        · exact hw.ok.fr f h
        · rw [List.mem_singleton] at h
          subst h
          have g0 := Int.fmod_nonneg_of_pos b (b := 7) (by decide)
          have g1 := Int.fmod_lt_of_pos b (b := 7) (by decide)
          refine ⟨⟨Int.one_pos, by simp⟩, ?_, (bd_lit : Bd 60 1)⟩
          exact (fmod_bd (n := 3) (by decide) bd_lit).mono (by decide)
    · refine ⟨_, [x0, some (.dat (.tup (nms.map nmD))), x2, x3, some (.dat (.int b)), x5, x6, x7, some (.ref base.length), some (.dat (.int i)), x10, x11], base ++ [.dK (ptK ms) (ptD fs)], rfl, ?_, ms, fs, _, rfl, rfl, ⟨hw.len, hw.nd, ?_, hw.ok, hle1⟩⟩
      · simp [F430b1, F430i0, hv, v0, v1, d2, hc]
      · intro x hx
        rw [htk1]
        exact (hw.sub x hx).elim .inl fun h => .inr (List.mem_append_left _ h))
  obtain ⟨e, s, h1, ms, fs, y9, rfl, rfl, h4⟩ := h
  refine ⟨ms, fs, y9, h1, ?_⟩
  have hz : nms.take (0 + (rngL 0 (nms.length : Int)).length) = nms := by
    rw [Nat.zero_add, List.take_of_length_le]
    simp [rngL]
  rw [hz] at h4
  exact h4
theorem lck_ok {ms : List Nat} {ts : List (Nat × Int)} {ns : List Nat} (h : TmDr ts ns) (hn : lckN ms ts = none) : TmOk ts ms := ⟨fun t ht => by
  have := List.find?_eq_none.mp hn t.1 (List.mem_map.mpr ⟨t, ht, rfl⟩)
  simpa using this, h.bd⟩
set_option maxHeartbeats 2000000 in
theorem law_main : ∀ ns : List Int, ns.length ≤ 63 → (∀ z ∈ ns, PySem.Builtin.Int.intBits z ≤ 1048576) → call PG 60 430 [.dat (.scr ns)] [] = some (.dat (.bl true), []) := by
  intro ns hl hb
  obtain ⟨c0, hc0, hb0⟩ := c_cell0 58 hb 0
  change call PG (58 + 1) 20 [.dat (.scr ns), .dat (.int 0)] [] = _ at hc0
  obtain ⟨c1, hc1, hb1⟩ := c_cell0 58 hb 1
  change call PG (58 + 1) 20 [.dat (.scr ns), .dat (.int 1)] [] = _ at hc1
  obtain ⟨m, n, hm, hn, hn1, hnm⟩ := c_names 58 hb0
  obtain ⟨_, nok, hlen, hsp⟩ := namesL_ok hm hn hn1
  have hl3 : (namesL m n).length ≤ 3 := by omega
  generalize namesL m n = nms at hnm nok hsp hl3
  let cells : List Int := [0, 1, 2, 3] ++ (ns.take 40).drop 1 ++ []
  have hcs : ∀ c ∈ cells, Bd 1050000 c := cells_ok hl hb (by intro c hc; simp at hc; rcases hc with e | e | e | e <;> subst e <;> exact (bd_lit (n := 5)).mono (by decide)) (by intro c hc; simp at hc)
  have hcl : cells.length ≤ 70 := by simp [cells]; omega
  obtain ⟨sp, spr, hspe⟩ := List.exists_cons_of_ne_nil hsp
  have hspn : sp ∉ nms := by
    have : sp ∈ ([113, 106, 120, 122] : List Nat).filter fun c => !nms.contains c := by rw [hspe]; exact List.mem_cons_self
    have := (List.mem_filter.mp this).2
    simpa using this
  have hnd : nms.Nodup := List.Pairwise.imp (fun h => Nat.ne_of_lt h) nok.asc
  have step := forV_inv (bind := fun d e => bindT [3] false d e) (body := fun e s => evSs (call PG 59) F430b0 e s)
    (fun _ env st => ∃ x3 x4 x5 x6 x7 x8 x9 x10 x11 rest, env = [some (.dat (.scr ns)), some (.dat (.tup (nms.map nmD))), some (.dat (nmD sp)), x3, x4, x5, x6, x7, x8, x9, x10, x11] ∧ st = rest)
    (ds := cells.map .int) (k := 0) (env := [some (.dat (.scr ns)), some (.dat (.tup (nms.map nmD))), some (.dat (nmD sp)), none, none, none, none, none, none, none, none, none]) (st := []) ⟨_, _, _, _, _, _, _, _, _, _, rfl, rfl⟩
  have hlp : ∃ e s, FOR (call PG 59) [3] false F430b0 (cells.map .int) [some (.dat (.scr ns)), some (.dat (.tup (nms.map nmD))), some (.dat (nmD sp)), none, none, none, none, none, none, none, none, none] [] = some (.nx e s) ∧ (∃ x3 x4 x5 x6 x7 x8 x9 x10 x11 rest, e = [some (.dat (.scr ns)), some (.dat (.tup (nms.map nmD))), some (.dat (nmD sp)), x3, x4, x5, x6, x7, x8, x9, x10, x11] ∧ s = rest) := by
    refine (step ?_).elim fun e h => h.elim fun s h => ⟨e, s, h.1, h.2⟩
    rintro i dd env st hi ⟨x3, x4, x5, x6, x7, x8, x9, x10, x11, rest, rfl, rfl⟩
    rw [List.getElem?_map] at hi
    obtain ⟨c, hci, rfl⟩ := Option.map_eq_some_iff.mp hi
    have hcell := hcs c (List.mem_of_getElem? hci)
    have h8 : Bd 1050000 (c.fdiv 8) := bd_fdiv hcell (by decide)
    obtain ⟨a, b, p1, p2⟩ := c_purse 58 h8
    obtain ⟨ts, w, mm, a', b', s1, s2, s3, s4, s5, s6⟩ := c_sum 55 (ns := nms) p2 (by omega)
    obtain ⟨k, us, v, a2, b2, r1, r2, r3, r4⟩ := c_row 55 (ns := nms) s2 (by omega)
    have h56 : Bd 200 (c.fmod 56) := (fmod_bd (n := 6) (by decide) bd_lit).mono (by decide)
    obtain ⟨ms, fs, y9, hf, hw⟩ := for_point5 (call PG 59) hspn hnd hl3 (x0 := some (.dat (.scr ns))) (x2 := some (.dat (nmD sp))) (x3 := some (.dat (.int c))) (x5 := some (.ref st.length)) (x6 := some (.dat (.tup [tmsD ts, .int w, .int mm]))) (x7 := some (.dat (rowD k us v))) (x9 := x9) (x10 := x10) (x11 := x11) h56 (base := st ++ [pu a2 b2])
    have hpv : ∃ dd, ptV ms fs = .bor dd := ⟨_, rfl⟩
    have hP : PtV (ptV ms fs) (lookP ms fs) ms := ptV_of hw.len hw.ok (.inl rfl)
    have hmm : Bd 100 mm := Bd.of_le (b := 10000000000000000000) (by omega) (by decide)
    have hlt : ts.length ≤ 10 := by have := s3.len; omega
    have hlu : us.length ≤ 10 := by have := r3.len; omega
    have g1 := c_caught429 58 (way := 0) (by decide) (t := .tup [tmsD ts, .int w, .int mm]) (r := rowD k us v) hpv (f := 26) (a := .tup [tmsD ts, .int w, .int mm]) (.inl ⟨rfl, rfl, rfl⟩) (o := lckN ms ts) (r_worth26 56 hw.len ts w mm) fun hn => by
      obtain ⟨p, q, e, _⟩ := c_worth 55 hP (lck_ok s3 hn) hlt (s4.mono (by decide)) hmm s5
      exact ⟨_, e⟩
    have g2 := c_caught429 58 (way := 1) (by decide) (t := .tup [tmsD ts, .int w, .int mm]) (r := rowD k us v) hpv (f := 31) (a := rowD k us v) (.inr ⟨rfl, rfl, rfl⟩) (o := lckN ms us) (r_isso31 55 hw.len k us v) fun hn => ⟨_, c_isso 54 hP (lck_ok r3 hn) hlu (r4.mono (by decide))⟩
    have g3 := c_good428 58 hw.len ts
    have g4 := c_good428 58 hw.len us
    change call PG 59 429 [.dat (.int 0), _, _, .bor (.dK (ptK ms) (ptD fs))] _ = _ at g1
    change call PG 59 429 [.dat (.int 1), _, _, .bor (.dK (ptK ms) (ptD fs))] _ = _ at g2
    change call PG 59 428 [_, _, .bor (.dK (ptK ms) (ptD fs))] _ = _ at g3 g4
    obtain ⟨t1, t2⟩ := pt_same (fs := fs) hw.nd hw.len
    have hne := fun (st : Sto) (l : Nat) (h : st[l]? = some (.dK (ptK ms) (ptD fs))) => c_ne_of (st := st) (x := .ref l) (y := .dat (.dK (ptK ms) (ptD fs))) (by simp [h]) rfl t1
    rw [t2] at hne
    have hne' := hne (st ++ [pu a2 b2, .dK (ptK ms) (ptD fs)]) (st.length + 1) (by simp)
    have hrg : rngOk 0 (nms.length : Int) = true := rngOk_small (by decide) (by omega) (by omega) (by decide)
    simp only [List.length_append, List.length_cons, List.length_nil, List.append_assoc, List.cons_append, List.nil_append, Nat.zero_add] at hf
    have s1' : call PG 59 23 [.ref 0, .dat (.tup (nms.map nmD))] [pu a b] = some (.dat (.tup [tmsD ts, .int w, .int mm]), [pu a' b']) := s1
    unfold rowD at *
    generalize tmsD ts = T at *
    generalize tmsD us = U at *
    generalize capD (lckN ms ts) = cT at *
    generalize capD (lckN ms us) = cU at *
    have n56 : Int.fmod c 56 = c.fmod 56 := rfl
    generalize hpk : ptK ms = pk at *
    generalize hpd : ptD fs = pd at *
    refine ⟨_, [some (.dat (.scr ns)), some (.dat (.tup (nms.map nmD))), some (.dat (nmD sp)), some (.dat (.int c)), some (.dat (.int (c.fmod 56))), some (.ref st.length), some (.dat (.tup [T, .int w, .int mm])), some (.dat (.tup [.str (wd k), U, .int v])), some (.ref (st.length + 1)), y9, some (.dat (.dK pk pd)), x11], st ++ [pu a2 b2, .dK pk pd], rfl, ?_, _, _, _, _, _, _, _, _, _, _, rfl, rfl⟩
    have hk1 : (ptK [sp]) = [.inr [sp]] := rfl
    have hd1 : ptD [(1, 2)] = [.tup [.int 1, .int 2]] := rfl
    rw [hk1, hd1, show nmD sp = .str [sp] from rfl] at hf
    have d8 : okDiv 8 = true := by decide
    have d56 : okDiv 56 = true := by decide
    simp [F430b0, d8, d56, keyR, toK, dlook, p1, s1', r1, hrg, hf, nmD, g1, g2, g3, g4, hne']
  obtain ⟨e, s, hlp, x3, x4, x5, x6, x7, x8, x9, x10, x11, rest, rfl, rfl⟩ := hlp
  have hcut : cutL (ns.map D.int) (some 1) (some 40) = ((ns.map D.int).take 40).drop 1 := cut_mid (a := 1) (b := 40)
  have hce : D.int 0 :: D.int 1 :: D.int 2 :: D.int 3 :: (((ns.map D.int).take 40).drop 1) = cells.map .int := by
    simp [cells, List.map_drop, List.map_take]
  have hTl : (((ns.map D.int).take 40).drop 1).length ≤ 40 := by rw [List.length_drop, List.length_take]; omega
  generalize ((ns.map D.int).take 40).drop 1 = T at hcut hce hTl
  have hL1 : 4 + T.length ≤ LIM := by unfold LIM; omega
  have hl4 : 4 ≤ LIM := by unfold LIM; omega
  have hL2 : T.length + 1 + 1 + 1 + 1 ≤ LIM := by unfold LIM; omega
  have hcomp := pick_spare5 (call PG 59) (ns := nms) [some (.dat (.scr ns)), some (.dat (.tup (nms.map nmD))), none, none, none, none, none, none, none, none, none, none] ⟨_, _, _, _, _, _, _, _, _, _, _, rfl⟩
  rw [hspe] at hcomp
  clear_value cells
  have hpw : okPow 10 50 = true := okPow_of
  have hm50 : Bd 200 (c0.fmod (10 ^ 50)) := (fmod_bd (n := 170) (by decide) (by unfold Bd; decide)).mono (by decide)
  have hmade := c_made427 58 hm50 1 (c1.fmod 9) 2
  rw [show (10 : Int) ^ 50 = 100000000000000000000000000000000000000000000000000 from rfl] at hmade
  change call PG 59 427 _ _ = _ at hmade
  have d9 : okDiv 9 = true := by decide
  have d50 : okDiv 100000000000000000000000000000000000000000000000000 = true := by decide
  rw [call_go (d := 59) F430 rfl rfl]
  simp only [List.map_cons, nmD] at hcomp hlp
  simp [F430, startE, hc0, hc1, hnm, itV, hcomp, hcut, hL1, nmD, hce, hlp, hpw, hmade, hl4, hL2, d9, d50]
end NK
set_option maxRecDepth 100000
set_option maxHeartbeats 0
open PySem PySem.W PySem.Calls PyProof.Rows
theorem PySem.Challenge.cw_notekeep_k05_no_name_holds : PySem.Challenge.rw_notekeep_k05_no_name.Holds := by
  refine NK.openL fun said => NK.headL said ?hc
  case hc =>
    refine NK.nk_walk (l := PySem.Challenge.rw_notekeep_k05_no_name) (k := 60) (P := NK.PG) (dl := NK.d17) (x := "_law_script") rfl NK.dfltL ⟨rfl, by decide, by decide⟩ NK.nameL rfl rfl (by decide +kernel) NK.treeL NK.impL ?T NK.law_main
    intro w mg h Y G
    obtain ⟨K, KX, c⟩ := Y
    exact ⟨K, NK.csOf K NK.clL, NK.fsL, NK.gsL, NK.frL, NK.clL, NK.xlL, NK.dsL, KX, NK.top_ok KX G c.1 c.2 NK.kxAll NK.kAll (by decide +kernel) (by decide +kernel), List.mem_of_getElem? (show NK.dsL[17]? = some NK.d17 from rfl)⟩
