import PyProof.Rows.All
import Wide.All
import OpenK.AllK
import Wide.FinOn
import KE.KStateDown
import Lean
import HandS.ForMost
import HandS.Exc
import HandS.ExcOwn
import HandS.TryOnly
import HandS.WordsExc
import HandS.IsInst
import HandS.Wide
import HandS.Steps
import HandS.Style
import HandS.Flow
import HandS.Codes
import HandS.Deep
import HandS.Evl
import HandS.Conv
import HandS.Defaults
import HandS.Head0
import HandS.Head1
import HandS.Head2
import HandS.HeadEnd
import HandS.HeadHook1
import HandS.HeadHook2
import HandS.HeadHook4
import PySem.Challenge.RW_wirewary_k53_whole_plain_data
import HandS.Walk
import HandS.RaiseMore
import KE.KIntText
import PyProof.ReprRoads
import PyProof.Rows.StrOr
set_option Elab.async false
set_option linter.all false
set_option maxRecDepth 100000
set_option maxHeartbeats 4000000
namespace WW
open PySem PySem.Spec PyProof.Rows L2

def digB (K : PySem.W.Frag) : Bool := match K.lookup cStatics with
  | some ⟨_, _, .dict es _, _⟩ => es.all (fun e => match e.key with | .str _ _ => true | _ => false) && (nsFind es "sys.int_max_str_digits").isNone
  | _ => false
/-- what the head tells: its facts, over a base -/
structure Wd (fa : List He.Fa) (fn : List He.DefD) (K : PySem.W.Frag) (mg : Str → Option Value) : Prop where
  c : He.SaysD fa fn K
  h : ∃ h : Heap, K.In h ∧ h.Ns mainGlobals mg
  dg : digB K = true
section
variable {fa : List He.Fa} {fn : List He.DefD} {K : PySem.W.Frag} {mg : Str → Option Value}
theorem Wd.glo (W : Wd fa fn K mg) (i : Nat) {x : Str} (e : fa[i]? = some (.glo x) := by rfl) : mg x = some (.ref (He.ga K x)) := by
  obtain ⟨h, X, G⟩ := W.h
  exact He.glo_ok X G (W.c.fact i e)
theorem Wd.free (W : Wd fa fn K mg) (i : Nat) {x : Str} (e : fa[i]? = some (.free x) := by rfl) : mg x = none := by
  obtain ⟨h, X, G⟩ := W.h
  exact He.free_ok X G (W.c.fact i e)
theorem Wd.intV (W : Wd fa fn K mg) (i : Nat) {x : Str} {n : Int} (e : fa[i]? = some (.int x n) := by rfl) : ∃ u, mg x = some u ∧ RelV (.int n) u := by
  obtain ⟨h, X, G⟩ := W.h
  obtain ⟨t, q⟩ := He.int_ok X G (W.c.fact i e)
  exact ⟨_, q, t, rfl⟩
theorem Wd.strV (W : Wd fa fn K mg) (i : Nat) {x z : Str} (e : fa[i]? = some (.str x z) := by rfl) : ∃ u, mg x = some u ∧ RelV (.str z) u := by
  obtain ⟨h, X, G⟩ := W.h
  obtain ⟨t, q⟩ := He.str_ok X G (W.c.fact i e)
  exact ⟨_, q, t, rfl⟩
theorem Wd.refV (W : Wd fa fn K mg) (i : Nat) {x : Str} (e : fa[i]? = some (.glo x) := by rfl) : ∃ u, mg x = some u ∧ RelV (.ref (He.ga K x)) u := ⟨_, W.glo i e, rfl⟩
theorem Wd.cls (W : Wd fa fn K mg) (i : Nat) {x : Str} (e : fa[i]? = some (.cls x) := by rfl) : Cls K (He.ga K x) := He.cls_ok (W.c.fact i e)
theorem Wd.noat (W : Wd fa fn K mg) (i : Nat) {x f : Str} (e : fa[i]? = some (.noat x f) := by rfl) : NoAttr K (He.ga K x) f := He.noat_ok (W.c.fact i e)
theorem Wd.meth (W : Wd fa fn K mg) (i : Nat) {x m : Str} (e : fa[i]? = some (.meth x m) := by rfl) : Meth K (He.ga K x) m (He.ma K (He.ga K x) m) := He.meth_ok (W.c.fact i e)
theorem Wd.mkr (W : Wd fa fn K mg) (i : Nat) {x : Str} (e : fa[i]? = some (.mkr x) := by rfl) : Mk K (He.ga K x) (He.ma K (He.ga K x) "__init__") := He.mkr_ok (W.c.fact i e)
theorem Wd.exm (W : Wd fa fn K mg) (i : Nat) {x y : Str} {b : Bool} (e : fa[i]? = some (.exm x y b) := by rfl) : PySem.W.exmOne K (.ref (He.ga K x)) (.ref (He.ga K y)) = some b := He.exm_ok (W.c.fact i e)
/-- raise X('m') -/
theorem Wd.pmk (W : Wd fa fn K mg) (i j : Nat) {x m : Str} {X : Cx} {jj : Nat} {p p2 pos : Pos} (hg : Gl X x) (e : fa[i]? = some (.exc x) := by rfl) (e2 : fa[j]? = some (.glo x) := by rfl) (hK : X.K = K := by rfl) (hm : X.mg = mg := by rfl)
    (hdb : (x == ("__debug__" : Str)) = false := by decide) : PMk X (.Call (.Name x p) [.Constant (.str m) jj p2] [] pos) (fun _ H Q => Q (.ref (He.ga K x)) none H) := by
  subst hK hm
  obtain ⟨q1, q2, q3, q4⟩ := He.exc_ok (K := X.K) (x := x) (W.c.fact i e)
  exact pmk_own PySem.F.excBase_ValueError q1 (W.glo j e2) q2 (raises_own q3 q4) hg hdb
end

/-- a def keeps a promise -/
structure OkF (P : Program) (w : World) (K : PySem.W.Frag) (mg : Str → Option Value) (base : Heap) (d : He.DefD) (k : Nat) (ps : List Str) (sp : Sp) : Prop where
  ex : ∃ fd, FnOk P w K mg base (L2.CX P w) k (He.fAd K d.at_) fd ps sp ∧ Binds K fd ps [] ∧ PySem.W.keepIn K (.ref (He.fAd K d.at_)) = true
theorem OkF.mono {P : Program} {w : World} {K : PySem.W.Frag} {mg : Str → Option Value} {base : Heap} {d : He.DefD} {j k : Nat} {ps : List Str} {sp : Sp} (o : OkF P w K mg base d j ps sp) (h : j ≤ k) : OkF P w K mg base d k ps sp := by
  obtain ⟨fd, F, b, kp⟩ := o.ex
  exact ⟨fd, F.mono h, b, kp⟩
theorem OkF.imp {P : Program} {w : World} {K : PySem.W.Frag} {mg : Str → Option Value} {base : Heap} {d : He.DefD} {k : Nat} {ps : List Str} {sp sp' : Sp} (o : OkF P w K mg base d k ps sp) (h : ∀ vs H Q E, sp' vs H Q E → sp vs H Q E) : OkF P w K mg base d k ps sp' := by
  obtain ⟨fd, F, b, kp⟩ := o.ex
  exact ⟨fd, F.imp h, b, kp⟩

/-- a def of the text by names, without defaults -/
def dGlo (x : Str) (st : Stmt) : He.DefD := ⟨(x, none), x, x, defArgs st, defBody st, defScope st, [], []⟩
def dMeth (c m : Str) (st : Stmt) : He.DefD := ⟨(c, some m), m, c ++ "." ++ m, defArgs st, defBody st, defScope st, [], []⟩

section
variable {fa : List He.Fa} {fn : List He.DefD} {P : Program} {w : World} {K : PySem.W.Frag} {mg : Str → Option Value} {base : Heap}
/-- THE RULE for a def -/
theorem okf (W : Wd fa fn K mg) {d : He.DefD} (i : Nat) {N ps : List Str} {k : Nat} {sp : Sp} (S : FnScope N ps d.scope) (hi : fn[i]? = some d := by rfl) (hd : d.dfl = [] := by rfl)
    (hb : ∀ (kV doc pm : Value) (an : Option Addr) (cdv ct : Value) (us : List Value), us.length = ps.length → bindArgs (PySem.W.fnOf d.name d.qual d.params d.body d.scope .none kV doc pm an cdv ct) ⟨us, []⟩ = pure (ps.zip us))
    (len : ∀ vs H Q E, sp vs H Q E → vs.length = ps.length)
    (hbody : ∀ (cdv : Value) (A : Around) (outer : List Env) (s : Shared) (H : Hp) (vs : List V) (Q : VK) (E : XK), Room k (A.deeper (envOfC d.qual d.scope s.heap.objs.size (He.fAd K d.at_) cdv)) → N.Nodup → (A.deeper (envOfC d.qual d.scope s.heap.objs.size (He.fAd K d.at_) cdv)).units + 1 < cLine →
      Takes (cxOf (L2.CX P w) P w K mg base N d.qual d.scope (He.fAd K d.at_) cdv A outer s H E) (fun cls dd _ H => E cls dd H) →
      PassesOwn (model P w) (A.deeper (envOfC d.qual d.scope s.heap.objs.size (He.fAd K d.at_) cdv)) (envOfC d.qual d.scope s.heap.objs.size (He.fAd K d.at_) cdv) (cxOf (L2.CX P w) P w K mg base N d.qual d.scope (He.fAd K d.at_) cdv A outer s H E).xe → sp vs H Q E →
      ∃ t, PSs (cxOf (L2.CX P w) P w K mg base N d.qual d.scope (He.fAd K d.at_) cdv A outer s H E) d.body t ∧ t { nx := fun _ H' => Q .non H', rt := Q } (start N vs) H) :
    OkF P w K mg base d (k + 1) ps sp := by
  obtain ⟨fd, F⟩ := W.c.def_ i hi
  have e : d.dvs K = [] := by unfold He.DefD.dvs; rw [hd]; rfl
  rw [e] at F
  refine ⟨fd, F.ok S len (fun cdv A outer s H vs Q E hr h => hbody cdv A outer s H vs Q E hr S.nd (hu_of hr) ?_ ?_ h), FunD.bindsN F hb, F.kp⟩
  · exact takes_of rfl rfl rfl rfl
  · exact passes_of rfl
end
end WW

set_option maxHeartbeats 4000000
namespace WW
open PySem PySem.Spec PyProof.Rows L2
def top (i : Nat) : Stmt := PySem.Challenge.pw_wirewary_k53_whole_plain_data.main.body.getD i (.Pass ⟨0, 0, 0, 0⟩)
abbrev s_is_whole : Stmt := (top 6)
abbrev s_is_word : Stmt := (top 11)
abbrev s_is_short : Stmt := (top 12)
abbrev s_write_data : Stmt := (top 13)
abbrev s_read_whole : Stmt := (top 14)
abbrev s_pieces_of : Stmt := (top 15)
abbrev s_DataReader___init__ : Stmt := (inClass (top 16) 0)
abbrev s_DataReader_item : Stmt := (inClass (top 16) 1)
abbrev s_DataReader_open_one : Stmt := (inClass (top 16) 2)
abbrev s_DataReader_close_one : Stmt := (inClass (top 16) 3)
abbrev s_DataReader_comma : Stmt := (inClass (top 16) 4)
abbrev s_DataReader_take : Stmt := (inClass (top 16) 5)
abbrev s_read_data : Stmt := (top 17)
abbrev s__law_draw : Stmt := (top 19)
abbrev s__law_take : Stmt := (top 20)
abbrev s__law_data : Stmt := (top 21)
abbrev s__law_word : Stmt := (top 22)
abbrev s__law_written : Stmt := (top 23)
abbrev s__law_number : Stmt := (top 24)
abbrev s__law_read : Stmt := (top 25)
abbrev s__law_told : Stmt := (top 26)
abbrev s_law : Stmt := (top 27)
theorem sc_is_whole : FnScope ["value"] ["value"] (defScope s_is_whole) := ⟨rfl, rfl, rfl, by decide +kernel, rfl, by decide +kernel, by decide +kernel⟩
theorem sc_is_word : FnScope ["value", "sign"] ["value"] (defScope s_is_word) := ⟨rfl, rfl, rfl, by decide +kernel, rfl, by decide +kernel, by decide +kernel⟩
theorem sc_is_short : FnScope ["value", "most", "_"] ["value"] (defScope s_is_short) := ⟨rfl, rfl, rfl, by decide +kernel, rfl, by decide +kernel, by decide +kernel⟩
theorem sc_write_data : FnScope ["data", "waiting", "found", "one", "depth", "k"] ["data"] (defScope s_write_data) := ⟨rfl, rfl, rfl, by decide +kernel, rfl, by decide +kernel, by decide +kernel⟩
theorem sc_read_whole : FnScope ["text", "body", "sign"] ["text"] (defScope s_read_whole) := ⟨rfl, rfl, rfl, by decide +kernel, rfl, by decide +kernel, by decide +kernel⟩
theorem sc_pieces_of : FnScope ["text", "found", "start", "place", "sign"] ["text"] (defScope s_pieces_of) := ⟨rfl, rfl, rfl, by decide +kernel, rfl, by decide +kernel, by decide +kernel⟩
theorem sc_DataReader___init__ : FnScope ["self"] ["self"] (defScope s_DataReader___init__) := ⟨rfl, rfl, rfl, by decide +kernel, rfl, by decide +kernel, by decide +kernel⟩
theorem sc_DataReader_item : FnScope ["self", "value"] ["self", "value"] (defScope s_DataReader_item) := ⟨rfl, rfl, rfl, by decide +kernel, rfl, by decide +kernel, by decide +kernel⟩
theorem sc_DataReader_open_one : FnScope ["self"] ["self"] (defScope s_DataReader_open_one) := ⟨rfl, rfl, rfl, by decide +kernel, rfl, by decide +kernel, by decide +kernel⟩
theorem sc_DataReader_close_one : FnScope ["self", "found"] ["self"] (defScope s_DataReader_close_one) := ⟨rfl, rfl, rfl, by decide +kernel, rfl, by decide +kernel, by decide +kernel⟩
theorem sc_DataReader_comma : FnScope ["self"] ["self"] (defScope s_DataReader_comma) := ⟨rfl, rfl, rfl, by decide +kernel, rfl, by decide +kernel, by decide +kernel⟩
theorem sc_DataReader_take : FnScope ["self", "piece"] ["self", "piece"] (defScope s_DataReader_take) := ⟨rfl, rfl, rfl, by decide +kernel, rfl, by decide +kernel, by decide +kernel⟩
theorem sc_read_data : FnScope ["text", "reader", "piece"] ["text"] (defScope s_read_data) := ⟨rfl, rfl, rfl, by decide +kernel, rfl, by decide +kernel, by decide +kernel⟩
theorem sc__law_draw : FnScope ["script", "seed", "cell"] ["script"] (defScope s__law_draw) := ⟨rfl, rfl, rfl, by decide +kernel, rfl, by decide +kernel, by decide +kernel⟩
theorem sc__law_take : FnScope ["draw", "many", "found"] ["draw", "many"] (defScope s__law_take) := ⟨rfl, rfl, rfl, by decide +kernel, rfl, by decide +kernel, by decide +kernel⟩
theorem sc__law_data : FnScope ["draw", "deep", "k", "turn"] ["draw", "deep"] (defScope s__law_data) := ⟨rfl, rfl, rfl, by decide +kernel, rfl, by decide +kernel, by decide +kernel⟩
theorem sc__law_word : FnScope ["value", "sign"] ["value"] (defScope s__law_word) := ⟨rfl, rfl, rfl, by decide +kernel, rfl, by decide +kernel, by decide +kernel⟩
theorem sc__law_written : FnScope ["data", "parts", "item"] ["data"] (defScope s__law_written) := ⟨rfl, rfl, rfl, by decide +kernel, rfl, by decide +kernel, by decide +kernel⟩
theorem sc__law_number : FnScope ["text", "body", "sign"] ["text"] (defScope s__law_number) := ⟨rfl, rfl, rfl, by decide +kernel, rfl, by decide +kernel, by decide +kernel⟩
theorem sc__law_read : FnScope ["text", "rows", "done", "token", "ahead", "sign", "atom", "row"] ["text"] (defScope s__law_read) := ⟨rfl, rfl, rfl, by decide +kernel, rfl, by decide +kernel, by decide +kernel⟩
theorem sc__law_told : FnScope ["which", "value"] ["which", "value"] (defScope s__law_told) := ⟨rfl, rfl, rfl, by decide +kernel, rfl, by decide +kernel, by decide +kernel⟩
theorem sc_law : FnScope ["script", "draw", "turn", "bad", "long", "deep", "data", "text", "again", "i", "sign", "other", "due", "value"] ["script"] (defScope s_law) := ⟨rfl, rfl, rfl, by decide +kernel, rfl, by decide +kernel, by decide +kernel⟩
def d_is_whole : He.DefD := ⟨("is_whole", none), "is_whole", "is_whole", defArgs s_is_whole, defBody s_is_whole, defScope s_is_whole, [], []⟩
def d_is_word : He.DefD := ⟨("is_word", none), "is_word", "is_word", defArgs s_is_word, defBody s_is_word, defScope s_is_word, [], []⟩
def d_is_short : He.DefD := ⟨("is_short", none), "is_short", "is_short", defArgs s_is_short, defBody s_is_short, defScope s_is_short, [], []⟩
def d_write_data : He.DefD := ⟨("write_data", none), "write_data", "write_data", defArgs s_write_data, defBody s_write_data, defScope s_write_data, [], []⟩
def d_read_whole : He.DefD := ⟨("read_whole", none), "read_whole", "read_whole", defArgs s_read_whole, defBody s_read_whole, defScope s_read_whole, [], []⟩
def d_pieces_of : He.DefD := ⟨("pieces_of", none), "pieces_of", "pieces_of", defArgs s_pieces_of, defBody s_pieces_of, defScope s_pieces_of, [], []⟩
def d_DataReader___init__ : He.DefD := ⟨("DataReader", some "__init__"), "__init__", "DataReader.__init__", defArgs s_DataReader___init__, defBody s_DataReader___init__, defScope s_DataReader___init__, [], []⟩
def d_DataReader_item : He.DefD := ⟨("DataReader", some "item"), "item", "DataReader.item", defArgs s_DataReader_item, defBody s_DataReader_item, defScope s_DataReader_item, [], []⟩
def d_DataReader_open_one : He.DefD := ⟨("DataReader", some "open_one"), "open_one", "DataReader.open_one", defArgs s_DataReader_open_one, defBody s_DataReader_open_one, defScope s_DataReader_open_one, [], []⟩
def d_DataReader_close_one : He.DefD := ⟨("DataReader", some "close_one"), "close_one", "DataReader.close_one", defArgs s_DataReader_close_one, defBody s_DataReader_close_one, defScope s_DataReader_close_one, [], []⟩
def d_DataReader_comma : He.DefD := ⟨("DataReader", some "comma"), "comma", "DataReader.comma", defArgs s_DataReader_comma, defBody s_DataReader_comma, defScope s_DataReader_comma, [], []⟩
def d_DataReader_take : He.DefD := ⟨("DataReader", some "take"), "take", "DataReader.take", defArgs s_DataReader_take, defBody s_DataReader_take, defScope s_DataReader_take, [], []⟩
def d_read_data : He.DefD := ⟨("read_data", none), "read_data", "read_data", defArgs s_read_data, defBody s_read_data, defScope s_read_data, [], []⟩
def d__law_draw : He.DefD := ⟨("_law_draw", none), "_law_draw", "_law_draw", defArgs s__law_draw, defBody s__law_draw, defScope s__law_draw, [], []⟩
def d__law_take : He.DefD := ⟨("_law_take", none), "_law_take", "_law_take", defArgs s__law_take, defBody s__law_take, defScope s__law_take, [], []⟩
def d__law_data : He.DefD := ⟨("_law_data", none), "_law_data", "_law_data", defArgs s__law_data, defBody s__law_data, defScope s__law_data, [], []⟩
def d__law_word : He.DefD := ⟨("_law_word", none), "_law_word", "_law_word", defArgs s__law_word, defBody s__law_word, defScope s__law_word, [], []⟩
def d__law_written : He.DefD := ⟨("_law_written", none), "_law_written", "_law_written", defArgs s__law_written, defBody s__law_written, defScope s__law_written, [], []⟩
def d__law_number : He.DefD := ⟨("_law_number", none), "_law_number", "_law_number", defArgs s__law_number, defBody s__law_number, defScope s__law_number, [], []⟩
def d__law_read : He.DefD := ⟨("_law_read", none), "_law_read", "_law_read", defArgs s__law_read, defBody s__law_read, defScope s__law_read, [], []⟩
def d__law_told : He.DefD := ⟨("_law_told", none), "_law_told", "_law_told", defArgs s__law_told, defBody s__law_told, defScope s__law_told, [], []⟩
def d_law : He.DefD := ⟨("law", none), "law", "law", defArgs s_law, defBody s_law, defScope s_law, [], []⟩
def fn : List He.DefD := [d_is_whole, d_is_word, d_is_short, d_write_data, d_read_whole, d_pieces_of, d_DataReader___init__, d_DataReader_item, d_DataReader_open_one, d_DataReader_close_one, d_DataReader_comma, d_DataReader_take, d_read_data, d__law_draw, d__law_take, d__law_data, d__law_word, d__law_written, d__law_number, d__law_read, d__law_told, d_law]
def fa : List He.Fa := [.free "isinstance",
  .free "bool",
  .free "int",
  .free "all",
  .str "DIGITS" "0123456789",
  .str "LETTERS" "abcdefghijklmnopqrstuvwxyz",
  .free "len",
  .int "MOST_WORD" 12,
  .free "str",
  .glo "is_whole",
  .free "range",
  .int "MOST_DIGITS" 4000,
  .int "MOST_DEPTH" 1000,
  .free "tuple",
  .glo "is_short",
  .glo "is_word",
  .exc "Malformed",
  .glo "Malformed",
  .free "enumerate",
  .cls "DataReader",
  .meth "DataReader" "item",
  .meth "DataReader" "open_one",
  .meth "DataReader" "close_one",
  .meth "DataReader" "comma",
  .glo "read_whole",
  .glo "DataReader",
  .mkr "DataReader",
  .glo "pieces_of",
  .meth "DataReader" "take",
  .free "abs",
  .glo "_law_take",
  .glo "_law_data",
  .glo "_law_written",
  .glo "_law_word",
  .free "any",
  .glo "_law_number",
  .glo "write_data",
  .glo "read_data",
  .glo "_law_told",
  .glo "_law_draw",
  .free "repr",
  .glo "_law_read",
  .noat "DataReader" "tuples",
  .noat "DataReader" "ready",
  .noat "DataReader" "told",
  .exm "Malformed" "Malformed" true,
  .glo "law"]
end WW

set_option maxHeartbeats 4000000
namespace WW
open PySem PySem.Spec PyProof.Rows L2
section
variable {CX : CXT} {P : Program} {w : World} {K : PySem.W.Frag} {mg : Str → Option Value} {base : Heap} {N : List Str} {qual : Str} {scope : Scope} {f : Addr} {cd : Value} {A : Around} {outer : List Env} {s : Shared} {H : Hp} {E : XK}
theorem cxOf_K : (cxOf CX P w K mg base N qual scope f cd A outer s H E).K = K := rfl
theorem cxOf_mg : (cxOf CX P w K mg base N qual scope f cd A outer s H E).mg = mg := rfl
end
/-! ### isinstance -/
def isa (d : PyData) (n : String) : Bool := match d with
  | .int _ => n == "int"
  | .bool _ => n == "bool" || n == "int"
  | .str _ => n == "str"
  | .tuple _ => n == "tuple"
  | .list _ => n == "list"
  | _ => false
def okTy (n : String) : Bool := n == "int" || n == "bool" || n == "str" || n == "tuple" || n == "list"
/-- what isinstance(x, n) answers -/
def IsaV (K : PySem.W.Frag) (H : Hp) (x : V) (n : String) (b : Bool) : Prop := match x with
  | .non => b = isa .none n
  | .bl k => b = isa (.bool k) n
  | .int i => b = isa (.int i) n
  | .str z => b = isa (.str z) n
  | .ref a => (∃ xs, SqL K H a xs ∧ b = (n == "list")) ∨ (∃ xs, SqT K H a xs ∧ b = (n == "tuple"))
  | _ => False
theorem IsaV.of {K : PySem.W.Frag} {H : Hp} {x : V} {d : PyData} {n : String} (h : Dp K H x d) : IsaV K H x n (isa d n) := by
  cases h with
  | non => rfl
  | bl b => rfl
  | int i => rfl
  | str z => rfl
  | lst h1 _ => exact .inl ⟨_, h1, rfl⟩
  | tup h1 _ => exact .inr ⟨_, h1, rfl⟩
theorem tyx_l {K : PySem.W.Frag} {H : Hp} {a : Addr} {xs : List V} (h : SqL K H a xs) : TyX K H (.ref a) (.type "list") := by
  rcases h with (h | ⟨o, h⟩) | ⟨o, its, n, h1, h2, _⟩
  · exact .base (.lst h)
  · exact .base (.frz h)
  · exact .kList h1 h2
theorem tyx_t {K : PySem.W.Frag} {H : Hp} {a : Addr} {xs : List V} (h : SqT K H a xs) : TyX K H (.ref a) (.type "tuple") := by
  rcases h with (h | ⟨o, h⟩) | ⟨o, its, n, h1, h2, _⟩
  · exact .base (.tup h)
  · exact .fTuple h
  · exact .kTuple h1 h2
theorem okTy_cases {n : String} (h : okTy n = true) : n = "int" ∨ n = "bool" ∨ n = "str" ∨ n = "tuple" ∨ n = "list" := by
  simp only [okTy, Bool.or_eq_true, beq_iff_eq] at h
  rcases h with (((h | h) | h) | h) | h <;> simp [h]
def rIsaV (K : PySem.W.Frag) : List V → Hp → VK → Prop := fun xs H Q => ∃ x n, xs = [x, V.ty n] ∧ okTy n = true ∧ ∃ b, IsaV K H x n b ∧ Q (.bl b) H
theorem call_isiV {X : Cx} : CallR X (.builtin "isinstance") (rIsaV X.K) := by
  intro pins s σ H xs us Q I r h
  obtain ⟨x, n, rfl, hn, b, hb, hq⟩ := h
  refine call_isi pins s σ H _ us Q I r ?_
  have fin : ∀ {t : String}, TyX X.K H x (.type t) → kitB t n = some b → rIsi X.K [x, V.ty n] H Q := fun {t} h1 h2 => ⟨x, .ty n, .type t, .type n, b, rfl, .ty n, h1, kit_ty h2, hq⟩
  have hn' := okTy_cases hn
  cases x with
  | non =>
    refine fin (.base .non) ?_
    have e : b = isa .none n := hb
    subst e
    rcases hn' with rfl | rfl | rfl | rfl | rfl <;> decide +kernel
  | bl k =>
    refine fin (.base (.bl k)) ?_
    have e : b = isa (.bool k) n := hb
    subst e
    rcases hn' with rfl | rfl | rfl | rfl | rfl <;> (simp only [isa]; decide +kernel)
  | int k =>
    refine fin (.base (.int k)) ?_
    have e : b = isa (.int k) n := hb
    subst e
    rcases hn' with rfl | rfl | rfl | rfl | rfl <;> (simp only [isa]; decide +kernel)
  | str k =>
    refine fin (.base (.str k)) ?_
    have e : b = isa (.str k) n := hb
    subst e
    rcases hn' with rfl | rfl | rfl | rfl | rfl <;> (simp only [isa]; decide +kernel)
  | ref a =>
    rcases hb with ⟨ys, h1, rfl⟩ | ⟨ys, h1, rfl⟩
    · refine fin (tyx_l h1) ?_
      rcases hn' with rfl | rfl | rfl | rfl | rfl <;> decide +kernel
    · refine fin (tyx_t h1) ?_
      rcases hn' with rfl | rfl | rfl | rfl | rfl <;> decide +kernel
  | byt _ => exact hb.elim
  | flt _ => exact hb.elim
  | ty _ => exact hb.elim
end WW

set_option maxHeartbeats 4000000
/-! ### the limit of digits is not set: told by the statics' own dict, a part of what is told -/
namespace WW
open PySem PySem.Spec PyProof.Rows L2
theorem noDigits_of {K : PySem.W.Frag} {h : Heap} (X : K.In h) (d : digB K = true) : h.NoDigits := by
  unfold digB at d
  split at d
  · rename_i c dd es n sl e
    obtain ⟨d1, d2⟩ := Bool.and_eq_true_iff.mp d
    refine ⟨nsFind es, ⟨_, es, n, X _ _ e, rfl, fun en hen => ?_, fun _ => rfl⟩, Option.isNone_iff_eq_none.mp d2⟩
    have q := Array.all_eq_true_iff_forall_mem.mp d1 en hen
    split at q
    · exact ⟨_, _, by assumption⟩
    · cases q
  · cases d
/-! ### str(x) of an int or a text -/
def P43 : Nat := 10 ^ 4300
def rStr1 : List V → Hp → VK → Prop := fun xs H Q => ∃ x, xs = [x] ∧ match x with
  | .int i => i.natAbs < P43 ∧ Q (.str (toString i)) H
  | .str z => Q (.str z) H
  | _ => False
theorem call_str1 {X : Cx} (hc : X.calm = true) (d : digB X.K = true) : CallR X (.type "str") rStr1 := by
  intro pins s σ H xs us Q I r h
  obtain ⟨x, rfl, h⟩ := h
  obtain ⟨u, rfl, ru⟩ := vals1 r
  cases x with
  | int i =>
    obtain ⟨t, rfl⟩ := ru
    obtain ⟨hi, hq⟩ := h
    unfold P43 at hi
    refine str_of_int_or (I.ok.hd hc) (noDigits_of I.kIn d) (fun _ => ⟨.str _, H, I.tok _, ⟨_, rfl⟩, hq⟩) (fun hge => absurd hi (Nat.not_lt.mpr hge))
  | str z =>
    obtain ⟨t, rfl⟩ := ru
    exact PySem.P.str_of_str ⟨.str z, H, I, ⟨t, rfl⟩, h⟩
  | _ => exact h.elim
/-! ### int(text), up to 4300 digits -/
theorem limit_here {M : Model} {A : Around} {E : Value → Shared → Prop} {s : Shared} {Q : Nat → Shared → Prop} (hn : s.heap.NoDigits) (h : Q 4300 s) : wpAny M A Builtin.intMaxStrDigits Q E s := by
  obtain ⟨mc, hns, hnone⟩ := hn
  unfold Builtin.intMaxStrDigits
  refine wpAny_bind (wpAny_nsGet hns ?_)
  rw [hnone]
  exact wpAny_pure h
theorem long_text {M : Model} {A : Around} {E : Value → Shared → Prop} {s : Shared} {Q : Value → Shared → Prop} {v : Value} {text : List Nat} {n : Int} (hn : s.heap.NoDigits)
    (hl : ¬ (text.takeWhile (· != 0)).length ≤ 640) (hr : (int_private% "readNumeral") 4300 10 (text.takeWhile (· != 0)) = (int_private% "Numeral.value") n)
    (ha : ((text.takeWhile (· != 0)).length == text.length) = true) (h : Q (.int n s.toks) { s with toks := s.toks + 1 }) :
    wpAny M A ((int_private% "intFromText") v text 10) Q E s := by
  obtain ⟨hp, g, d, tk, os⟩ := s
  repeat (any_goals (first
    | assumption
    | (with_reducible refine wpAny_ite_false (decide_eq_false hl) ?_)
    | (with_reducible refine wpAny_ite_true (decide_eq_true ha) ?_)
    | (with_reducible refine limit_here hn ?_)
    | wp_step))
  rw [hr]
  dsimp only
  repeat (any_goals (first
    | assumption
    | (with_reducible refine wpAny_ite_true (decide_eq_true ha) ?_)
    | (with_reducible refine wpAny_ite_true ha ?_)
    | wp_step))
structure Hidden (p : Prop) : Prop where
  out : p
theorem meets_long {x : PySem.Str} {u : Tok} {n : Int} (hl : ¬ (numSeenOf x).length ≤ 640) (hx : x.length ≤ sizeLine) (hn : PySem.intText? x = some n) :
    Meets (Builtin.«int.__new__» ⟨[.type "int", .str x u], []⟩) (fun _ R s => s.heap.NoDigits ∧ R (.ok (.ret (.int n s.toks))) { s with toks := s.toks + 1 }) := fun prog w A R s hS => by
  obtain ⟨hd, h⟩ := hS
  have f1 := F.conv_sub_int
  have f2 := F.madeHere_int
  have f3 := PySem.W.KIN.str_int
  have f4 := PySem.W.KIN.str_idx
  have f5 := PySem.W.KIN.str_trunc
  have f6 : typeOf (.str x u) = pure (.type "str") := rfl
  have hr : (int_private% "readNumeral") 4300 10 (numSeenOf x) = (int_private% "Numeral.value") n ∧ ((numSeenOf x).length == (numTextOf x).length) = true := by
    rcases read4300 x hx with ⟨m, h1, h2, h3⟩ | ⟨h1, _⟩
    · rw [hn] at h1
      injection h1 with h1
      subst h1
      exact ⟨h3, h2⟩
    · rw [hn] at h1
      cases h1
  have hk := Hidden.mk (And.intro hl hr)
  clear hl hr hn hx
  obtain ⟨hp, g, d, tk, os⟩ := s
  repeat (any_goals (first
    | assumption
    | ((with_reducible show wpAny _ _ ((int_private% "intFromText") _ _ _) _ _ _); refine long_text hd hk.out.1 hk.out.2.1 hk.out.2.2 ?_)
    | wp_step))
end WW

set_option maxHeartbeats 4000000
namespace WW
open PySem PySem.Spec PyProof.Rows L2
section
variable {X : Cx}
def rIntW : List V → Hp → VK → Prop := fun xs H Q => ∃ a, xs = [.str a] ∧ (∀ c ∈ a.cps.toList, c = 45 ∨ (48 ≤ c ∧ c ≤ 57)) ∧ a.length ≤ sizeLine ∧ ∃ n, PySem.intText? a = some n ∧ Q (.int n) H
theorem call_int_strW (d : digB X.K = true) : CallR X (.type "int") rIntW := by
  intro pins s σ H xs us Q I r h
  obtain ⟨a, rfl, hs, hl, n, hn, hq⟩ := h
  obtain ⟨u, rfl, t, rfl⟩ := vals1 r
  by_cases h6 : (numSeenOf a).length ≤ 640
  · have h7 : a.length ≤ 640 := by
      rw [(numText_signs hs).2] at h6
      exact h6
    exact PySem.W.KIN.call_text hn h7 ⟨.int n, H, I.tok _, ⟨_, rfl⟩, hq⟩
  · exact call_int_1 (meets_long h6 hl hn) ⟨noDigits_of I.kIn d, ⟨typeIs_int _ _ _, .int n, H, I.tok _, ⟨_, rfl⟩, hq⟩⟩
/-! ### text times int -/
theorem rep_toList (n : Nat) (l : List Nat) : (((List.replicate n l.toArray).foldl (· ++ ·) #[]) : Array Nat).toList = (List.replicate n l).flatten := by
  have g : ∀ (n : Nat) (acc : Array Nat), ((List.replicate n l.toArray).foldl (· ++ ·) acc).toList = acc.toList ++ (List.replicate n l).flatten := by
    intro n
    induction n with
    | zero => intro acc; simp
    | succ n ih =>
      intro acc
      rw [List.replicate_succ, List.foldl_cons, ih, List.replicate_succ, List.flatten_cons]
      simp [List.append_assoc]
  rw [g]
  simp
def repS (z : Str) (n : Nat) : Str := ⟨((List.replicate n z.cps.toList).flatten).toArray⟩
def rRepS : R2 := fun x y H Q => ∃ z n, x = .str z ∧ y = .int n ∧ 1 < n ∧ 1 ≤ z.length ∧ (z.length : Int) * n ≤ 16000000 ∧ Q (.str (repS z n.toNat)) H
theorem op_repS : OpR X (binaryOp .Mult) rRepS := by
  intro pins s σ H x y v u Q I rx ry h
  obtain ⟨z, n, rfl, rfl, h1, h0, h2, hq⟩ := h
  obtain ⟨t, rfl⟩ := rx
  obtain ⟨t', rfl⟩ := ry
  have hz1 : (1 : Int) ≤ z.length := by omega
  have hn : n ≤ 16000000 := by
    have := Int.mul_le_mul_of_nonneg_right hz1 (show 0 ≤ n by omega)
    omega
  have hlen : z.length * n.toNat ≤ 16000000 := by
    have e : ((z.length * n.toNat : Nat) : Int) = (z.length : Int) * n := by
      rw [Int.natCast_mul, Int.toNat_of_nonneg (by omega)]
    omega
  have c1 : ¬ n < 1 := by omega
  have c2 : (n == 1 || z.length == 0) = false := by
    have a1 : (n == 1) = false := beq_eq_false_iff_ne.mpr (by omega)
    have a2 : (z.length == 0) = false := beq_eq_false_iff_ne.mpr (by omega)
    rw [a1, a2]; rfl
  refine PySem.P.mul_str ?_ (fun _ _ => ?_) (fun _ _ => ?_) ?_
  · rw [decide_eq_false (by omega), decide_eq_false (by omega)]; rfl
  · have : (z.length : Int) ≤ (2 ^ 63 - 1) / n := by
      rw [Int.le_ediv_iff_mul_le (by omega)]
      omega
    omega
  · show decide (z.length * n.toNat > sizeLine) = false
    exact decide_eq_false (by rw [sizeLine_eq]; omega)
  · rw [if_neg c1, if_neg (by rw [c2]; exact Bool.false_ne_true)]
    have e : (⟨(List.replicate n.toNat z.cps).foldl (· ++ ·) #[]⟩ : Str) = repS z n.toNat := by
      apply TL.ext_tl
      show ((List.replicate n.toNat z.cps).foldl (· ++ ·) #[]).toList = ((List.replicate n.toNat z.cps.toList).flatten).toArray.toList
      have := rep_toList n.toNat z.cps.toList
      simpa using this
    rw [e]
    refine ⟨?_, .str _, H, I.tok _, ⟨_, rfl⟩, hq⟩
    have e2 : (repS z n.toNat).length = z.length * n.toNat := by
      show ((List.replicate n.toNat z.cps.toList).flatten).toArray.size = z.cps.size * n.toNat
      simp [List.length_flatten, Nat.mul_comm]
    rw [e2, sizeLine_eq]
    omega
theorem iop_mulW : OpR X (inplaceOp .Mult) (rI CMulW fun i j => .int (i * j)) := opI fun _ _ _ _ _ _ _ hc q => imul_int q hc.ok
end
/-! ### enumerate(text): each sign in a new pair -/
def IteS (z : Str) : It :=
  ⟨fun i _ => i < z.cps.size, fun i H v H' => ∃ T c, v = .ref T ∧ H T = none ∧ z.cps[i]? = some c ∧ H' = upd H T (.tup [.int (i : Nat), .str ⟨#[c]⟩]), fun i _ => i = z.cps.size⟩
def strTy (ty : String) : Prop := ty = "str_ascii_iterator" ∨ ty = "str_iterator"
theorem draws_str {P : Program} {w : World} {A : Around} (hh : A.handled = none) (it : Addr) (z : Str) (t : Tok) {ty : String} (hty : strTy ty) :
    Draws P w A it [it] z.cps.size (fun i v => ∃ c u, z.cps[i]? = some c ∧ v = .str ⟨#[c]⟩ u) (fun i h => h.IsStrIter it ty z t i) := by
  rcases hty with e | e
  · rw [e]; exact Draws.strAscii hh it z t
  · rw [e]; exact Draws.strWide hh it z t
theorem turn_enumS {P : Program} {w : World} {K : PySem.W.Frag} {elts : List Expr} {kk : Nat} {tpos : Pos} (e it : Addr) (z : Str) (t : Tok) {ty : String} (hty : strTy ty) :
    Turn P w K (.Tuple elts kk tpos) (IteS z) [e, it] e (fun i h => (∃ old, IsEnum h e it ((i : Nat) : Int) old) ∧ h.IsStrIter it ty z t i ∧ e ≠ it) where
  mem := List.mem_cons_self
  obj := fun i h st b hb => by
    obtain ⟨⟨old, he⟩, ⟨o, ho, hc, hd⟩, _⟩ := st
    rcases List.mem_cons.mp hb with q | q
    · subst q
      exact ⟨_, he, fun v r => nomatch r⟩
    · have q := List.mem_singleton.mp q
      subst q
      exact ⟨o, ho, fun v r => by rw [hd] at r; cases r⟩
  keep := fun i h h' st k => by
    obtain ⟨⟨old, he⟩, ⟨o, ho, r⟩, hne⟩ := st
    exact ⟨⟨old, k e (List.mem_cons_self) _ he⟩, ⟨o, k it (List.mem_cons_of_mem _ List.mem_cons_self) o ho, r⟩, hne⟩
  item := by
    intro X hP hw hK hc i pins s σ H E I hf st hg
    subst hP hw hK
    obtain ⟨⟨old, he⟩, hit, hne⟩ := st
    have hel : e < s.heap.objs.size := Heap.lt_size he
    have hil : it < s.heap.objs.size := by
      obtain ⟨_, q, _⟩ := hit
      exact Heap.lt_size q
    have hef : e ∉ [it] := fun q => hne (List.mem_singleton.mp q)
    have D := draws_str (P := X.prog) (w := X.w) (A := X.A.in1) (I.ok.hd hc) it z t hty
    refine wpAny_pyNext_enum_itemD D he hit hg hne hef fun v h' tk hv ho hit' hT hsz hk => ?_
    obtain ⟨c, u, hcx, rfl⟩ := hv
    refine ⟨_, rfl, wpAny_letOwnedTupleGo_enum (s := { s with heap := h', toks := tk + 1 }) ho fun h2 he2 sb => ?_⟩
    have hT2 : h2.get? s.heap.objs.size = some { cls := .type "tuple", data := .seq #[.int i tk, .str ⟨#[c]⟩ u] } := (sb.2 _ (Nat.ne_of_gt hel)).trans hT
    have new : ObjOk X.prog X.w (upd H s.heap.objs.size (.tup [.int (i : Nat), .str ⟨#[c]⟩])) h2 s.heap.objs.size (.tup [.int (i : Nat), .str ⟨#[c]⟩]) :=
      ⟨by show 2 ≤ sizeLine; decide, [.int i tk, .str ⟨#[c]⟩ u], .cons ⟨_, rfl⟩ (.cons ⟨_, rfl⟩ .nil), ⟨_, hT2, rfl, _, rfl⟩⟩
    have out : ∀ b, b ∉ [e, it] → b ≠ e ∧ b ≠ it := fun b hb => ⟨fun q => hb (by rw [q]; exact List.mem_cons_self), fun q => hb (by rw [q]; exact List.mem_cons_of_mem _ List.mem_cons_self)⟩
    have I1 : Inv X pins σ (upd H s.heap.objs.size (.tup [.int (i : Nat), .str ⟨#[c]⟩])) { s with heap := h2, toks := tk + 1 } :=
      I.turnedNew (ch := [e, it]) (fun b ob hb q => (sb.2 b (out b hb).1).trans (hk b ob (out b hb).1 (out b hb).2 q)) hf (Nat.le_refl _) new
    refine ⟨.ref s.heap.objs.size, _, I1, rfl, ⟨_, c, rfl, I.hok.fresh (Nat.le_refl _), hcx, rfl⟩, ⟨⟨.str ⟨#[c]⟩ u, ?_⟩, ?_, hne⟩, fun b hb => ?_⟩
    · have e1 : ((i + 1 : Nat) : Int) = (i : Int) + 1 := by omega
      rw [e1]
      exact he2
    · obtain ⟨oi, q, r⟩ := hit'
      exact ⟨oi, (sb.2 it (Ne.symm hne)).trans q, r⟩
    · have hb' : b < s.heap.objs.size := by
        rcases List.mem_cons.mp hb with q | q
        · rw [q]; exact hel
        · rw [List.mem_singleton.mp q]; exact hil
      rw [upd_ne (Nat.ne_of_lt hb')]
      exact (hf b hb).1
  done := by
    intro X hP hw hK hc i pins s σ H E I hf st hg
    subst hP hw hK
    obtain ⟨⟨old, he⟩, hit, hne⟩ := st
    have hi : i = z.cps.size := hg
    subst hi
    obtain ⟨f0, f1, f2, f3, f4, f5⟩ := hf it (List.mem_cons_of_mem _ List.mem_cons_self)
    have D := draws_str (P := X.prog) (w := X.w) (A := X.A.in1) (I.ok.hd hc) it z t hty
    exact wpAny_pyNext_enum_endD D he hit fun h' eb => ⟨rfl, I.turned (t' := s.toks) (fun b o hb q => eb b o hb q) f0 f1 f3 f4 f5⟩
  self := fun A i s Q E st h => let ⟨⟨_, he⟩, _⟩ := st; wpAny_pyIter_enum he h
def iEnumS (ta : TA) : TI := fun σ H R => ta σ H fun vs H1 => ∃ z, vs = [.str z] ∧ R (IteS z) H1
theorem pi_enumS {X : Cx} {e : Expr} {ta : TA} {p pos tpos : Pos} {elts : List Expr} {kk : Nat} (hg : Gl X "enumerate") (hm : X.mg "enumerate" = none) (ha : PA X [e] ta) (hs : starEach [e] X.env = [(false, eval e X.env)] := by rfl) :
    PI X (.Tuple elts kk tpos) (.Call (.Name "enumerate" p) [e] [] pos) (iEnumS ta) := by
  constructor
  intro pins s σ H R I h
  refine Call_ (ld_blt I hg hm boot_enumerate (PyProof.Rows.callWith_type1 (thn (ha.run pos pins s σ H _ I h) fun us s1 hh => ?_) hs rfl))
  obtain ⟨vs, H1, I1, r1, z, rfl, q⟩ := hh
  obtain ⟨u, rfl, t, rfl⟩ := vals1 r1
  refine PySem.call_enumerate_str fun h' he hit hsz hk => wpAny_pyIter_enum he ?_
  have I2 : Inv X pins σ H1 { s1 with heap := h' } := I1.kept (t' := s1.toks) hk
  have hty : strTy (strIterType z) := by
    unfold strIterType
    split
    · exact .inl rfl
    · exact .inr rfl
  refine ⟨s1.heap.objs.size + 1, [s1.heap.objs.size + 1, s1.heap.objs.size], _, _, H1, rfl, I2, turn_enumS (s1.heap.objs.size + 1) s1.heap.objs.size z t hty, ⟨⟨.none, he⟩, hit, Nat.succ_ne_self _⟩, fun b hb => ?_, q⟩
  have hle : s1.heap.objs.size ≤ b := by
    rcases List.mem_cons.mp hb with q | q
    · rw [q]; exact Nat.le_add_right _ _
    · rw [List.mem_singleton.mp q]; exact Nat.le_refl _
  exact I1.fpOk hle (I1.hok.fresh hle)
theorem walk_enumS {z : Str} : Walk (IteS z) z.cps.size (fun _ => True) (fun i H v H' => ∃ T c, v = .ref T ∧ H T = none ∧ z.cps[i]? = some c ∧ H' = upd H T (.tup [.int (i : Nat), .str ⟨#[c]⟩])) :=
  ⟨fun _ _ hi _ => hi, fun _ _ => rfl, fun _ _ _ _ _ _ y => y⟩
/-! ### repr of data -/
def rRepr (K : PySem.W.Frag) : List V → Hp → VK → Prop := fun xs H Q => ∃ x d, xs = [x] ∧ Dp K H x d ∧ d.showable = true ∧ d.hasDict = false ∧ d.depth ≤ 500 ∧ d.shown.length ≤ sizeLine ∧ Q (.str d.shown) H
theorem call_repr {X : Cx} (hg : X.A.guards = some []) (hu : X.A.units + 1000 < cLine) : CallR X (.builtin "repr") (rRepr X.K) := by
  intro pins s σ H xs us Q I r h
  obtain ⟨x, d, rfl, hx, h1, h2, h3, h4, hq⟩ := h
  obtain ⟨u, rfl, ru⟩ := vals1 r
  cases hx with
  | non =>
    cases ru
    exact PySem.P.repr_of_none ⟨.str _, H, I.tok _, ⟨_, rfl⟩, hq⟩
  | bl b =>
    cases ru
    exact PySem.P.repr_of_bool ⟨.str _, H, I.tok _, ⟨_, rfl⟩, hq⟩
  | int i =>
    obtain ⟨t, rfl⟩ := ru
    have h1' : i.natAbs.log2 < 1920 := by simpa [PyData.showable] using h1
    exact PySem.P.repr_of_int h1' ⟨.str _, H, I.tok _, ⟨_, rfl⟩, hq⟩
  | str z =>
    obtain ⟨t, rfl⟩ := ru
    exact PySem.P.repr_of_str ⟨.str _, H, I.tok _, ⟨_, rfl⟩, hq⟩ h4
  | lst a b =>
    cases ru
    obtain ⟨as, hr⟩ := Dp.reads I _ _ _ (Dp.lst a b) rfl
    exact repr_of_reads' hr h1 (PyData.noDict_hsm h2) hg (by omega) (fun _ _ e => e) (fun h' u tk hk => ⟨.str _, H, I.kept (t' := tk) hk, ⟨_, rfl⟩, hq⟩) h4
  | tup a b =>
    cases ru
    obtain ⟨as, hr⟩ := Dp.reads I _ _ _ (Dp.tup a b) rfl
    exact repr_of_reads' hr h1 (PyData.noDict_hsm h2) hg (by omega) (fun _ _ e => e) (fun h' u tk hk => ⟨.str _, H, I.kept (t' := tk) hk, ⟨_, rfl⟩, hq⟩) h4
end WW

set_option maxHeartbeats 4000000
namespace WW
open PySem PySem.Spec PyProof.Rows L2
/-! ### the head's facts, with the statics' dict beside -/
def partS (n : Nat) (g : Addr → Option Obj) : PySem.W.Frag := He.frG g (cStatics :: He.asD g n)
abbrev AlS : Type := He.AlD × Bool
def obsS (n : Nat) (fa : List He.Fa) (fn : List He.DefD) (g : Addr → Option Obj) : AlS := (He.obsD fa fn (partS n g), digB (partS n g))
def hookS (n : Nat) (fa : List He.Fa) (fn : List He.DefD) : PySem.W.Hook where
  α := AlS
  obs := fun s => obsS n fa fn s.heap.get?
  val := fun _ => (He.valD fn, true)
  says := fun _ h => ∃ K : PySem.W.Frag, K.In h ∧ (He.SaysD fa fn K ∧ digB K = true)
  of := fun _ _ e => ⟨_, He.frG_in, congrArg (fun z : AlS => z.1) e, congrArg (fun z : AlS => z.2) e⟩
  keeps := fun _ _ _ hh k => by
    obtain ⟨K, hK, c⟩ := hh
    exact ⟨K, PySem.W.Frag.In.keeps hK k, c⟩
theorem obsS_eq {n : Nat} {fa : List He.Fa} {fn : List He.DefD} {g : Addr → Option Obj} {s : Shared} (h : ∀ a, g a = s.heap.get? a) : obsS n fa fn g = (hookS n fa fn).obs s := by
  have e : g = s.heap.get? := funext h
  rw [e]
  rfl
/-! ### a law's def, called from the top alone: nothing is being shown then -/
structure LawOk (P : Program) (w : World) (K : PySem.W.Frag) (mg : Str → Option Value) (base : Heap) (fa : Addr) (x : Str) (fd : FuncData) (sp : Sp) : Prop where
  run : ∀ (s : Shared) (H : Hp) (us : List Value) (vs : List V) (Q : VK) (E : XK), Env0 P w K mg base callerA [] s H → BindsTo s fd ⟨us, []⟩ ([x].zip us) → Vals vs us → sp vs H Q E →
    codeAny (model P w) callerA (.call (.ref fa) ⟨us, []⟩) (CR (L2.CX P w) [] P w H s Q E) s
theorem law_run {P : Program} {w : World} {K : PySem.W.Frag} {mg mb : Str → Option Value} {fa a : Addr} {fd : FuncData} {x : Str} {sp : Sp} {s₁ : Shared} {vs : List Value} {ns : List Int}
    (KX : K.In s₁.heap) (G : s₁.heap.Ns mainGlobals mg) (B : s₁.heap.Ns builtinsNs mb) (hmb : ∀ y : Str, y ≠ "__name__" → mb y = bootBuiltins y) (lim : s₁.heap.NoLimit) (hgens : s₁.gens = #[])
    (ha : s₁.heap.get? a = some { cls := .type "list", data := .seq vs.toArray }) (hi : IntsAre vs ns) (hl : ns.length ≤ sizeLine)
    (F : ∀ base : Heap, K.In base → base.Ns mainGlobals mg → LawOk P w K mg base fa x fd sp) (hb : ∀ (s : Shared) (u : Value), BindsTo s fd ⟨[u], []⟩ [(x, u)])
    (hsp : ∀ H : Hp, Only H → SqL K H a (ns.map V.int) → sp [.ref a] H (fun v _ => v = .bl true) fun _ _ _ => False) :
    codeAny (model P w) callerA (.call (.ref fa) ⟨[.ref a], []⟩) (fun r s' => r = .ok (.ret (.bool true)) ∧ OldK s₁.heap s'.heap ∧ s'.os = s₁.os ∧ AllBare s'.gens) s₁ := by
  have rv := vals_ints hi
  have lv := hi.length
  have go : ∀ H : Hp, Only H → SqL K H a (ns.map V.int) → HOk P w H s₁.heap → (∀ b, H b ≠ none → b = a) → (H a ≠ none → K.lookup a = none) →
      codeAny (model P w) callerA (.call (.ref fa) ⟨[.ref a], []⟩) (fun r s' => r = .ok (.ret (.bool true)) ∧ OldK s₁.heap s'.heap ∧ s'.os = s₁.os ∧ AllBare s'.gens) s₁ := by
    intro H hO hS hok only kno
    have inB : ∀ {b : Addr} {o : Obj}, s₁.heap.get? b = some o → H b = none → (hidT s₁.heap H).get? b = some o := fun e n => hidT_get e n
    have dic : ∀ {b : Addr} {o : Obj} {es : Array DictEntry} {ep : Nat}, s₁.heap.get? b = some o → o.data = .dict es ep → H b = none := by
      intro b o es ep e d
      cases q : H b with
      | none => rfl
      | some u =>
        have e' := only b (by rw [q]; exact fun z => nomatch z)
        subst e'
        rw [ha] at e
        cases e
        cases (show Data.seq vs.toArray _ = Data.dict es ep from d)
    have nsB : ∀ {b : Addr} {m : Str → Option Value}, s₁.heap.Ns b m → (hidT s₁.heap H).Ns b m := by
      rintro b m ⟨o, es, ep, e, d, r⟩
      exact ⟨o, es, ep, inB e (dic e d), d, r⟩
    have kB : K.In (hidT s₁.heap H) := by
      intro b o e
      refine inB (KX b o e) ?_
      cases q : H b with
      | none => rfl
      | some u =>
        have e' := only b (by rw [q]; exact fun z => nomatch z)
        subst e'
        rw [kno (by rw [q]; exact fun z => nomatch z)] at e
        cases e
    have md : Mod K mg (hidT s₁.heap H) := by
      refine ⟨kB, nsB G, ⟨mb, nsB B, hmb⟩, ?_⟩
      obtain ⟨mc, h1, h2⟩ := lim
      exact ⟨mc, nsB h1, h2⟩
    have e0 : Env0 P w K mg (hidT s₁.heap H) callerA [] s₁ H :=
      { frames := rfl, mod := md, bs := fun b o e => of_hidT e, bsz := Nat.le_of_eq (hidT_size _ _), funs := trivial, frf := (fun b hb => nomatch (show b ∈ ([] : List Addr) from hb)), hok := hok, bare := .of_eq hgens }
    refine codeAny_mono ((F _ kB (nsB G)).run s₁ H [.ref a] [.ref a] _ _ e0 (hb s₁ (.ref a)) (.cons rfl .nil) (hsp H hO hS)) fun r s' h => ?_
    cases r with
    | error e =>
      obtain ⟨_, _, _, _, _, _, _, _, _, _, _, _, z⟩ := h
      exact z.elim
    | ok fl =>
      cases fl with
      | next => exact h.elim
      | brk => exact h.elim
      | cont => exact h.elim
      | ret u =>
        obtain ⟨v, H', os, bare, un, hok', r', q⟩ := h
        have q' : v = .bl true := q
        subst q'
        obtain rfl : u = Value.bool true := r'
        refine ⟨rfl, OldK.of_keep fun b o e => ?_, os, bare⟩
        cases q : H b with
        | none => exact un.keep b o e q (fun z => nomatch (show b ∈ ([] : List Addr) from z)) (fun z => nomatch z)
        | some u =>
          rcases hO b with z | ⟨ob, xs, z⟩
          · rw [q] at z
            cases z
          · obtain ⟨e1, _⟩ := hok b _ z
            obtain ⟨e2, _⟩ := hok' b _ (un.frzs b ob _ z)
            rw [e] at e1
            cases e1
            exact e2
  cases hk : K.lookup a with
  | some o =>
    have e := KX a o hk
    rw [ha] at e
    cases e
    refine go (fun _ => none) (fun _ => .inl rfl) (.inr ⟨_, vs.toArray, _, hk, rfl, rfl, rfl, ?_, by simpa using rv⟩) (fun b u z => nomatch (show (none : Option HO) = some u from z)) (fun b z => absurd rfl z) (fun z => absurd rfl z)
    rw [List.size_toArray, lv]
    exact hl
  | none =>
    let H0 : Hp := fun b => if b = a then some (.frz { cls := .type "list", data := .seq vs.toArray } (.lst (ns.map V.int))) else none
    have h0 : H0 a = some (.frz { cls := .type "list", data := .seq vs.toArray } (.lst (ns.map V.int))) := if_pos rfl
    have h1 : ∀ b, b ≠ a → H0 b = none := fun b n => if_neg n
    refine go H0 (fun b => ?_) (.inl (.inr ⟨_, h0⟩)) (fun b u z => ?_) (fun b z => ?_) fun _ => hk
    · by_cases q : b = a
      · subst q
        exact .inr ⟨_, _, h0⟩
      · exact .inl (h1 b q)
    · by_cases q : b = a
      · subst q
        rw [h0] at z
        cases z
        exact ⟨ha, by rw [List.length_map]; exact hl, vs, _, rv, ha⟩
      · rw [h1 b q] at z
        cases z
    · by_cases q : b = a
      · exact q
      · exact absurd (h1 b q) z
theorem law_walk {l : PySem.W.OpenLaw} {n : Nat} {q : Program} {loose : List Str} {XP : (Str → Option Value) → Heap → Prop} {YP : World → Heap → Prop} {d : DefRec} {x : Str}
    (hn : l.most = some n) (hn2 : n ≤ sizeLine) (hdf : d.params.defaults = [])
    (F : ∀ (w : World) (mg : Str → Option Value) (fa : Addr) (h : Heap), YP w h → h.Ns mainGlobals mg → mg d.name = some (.ref fa) →
      ∃ (K : PySem.W.Frag) (fd : FuncData) (sp : Sp), K.In h ∧ (∀ (s : Shared) (u : Value), BindsTo s fd ⟨[u], []⟩ [(x, u)]) ∧
        (∀ (H : Hp) (a : Addr) (ns : List Int), ns.length ≤ n → Only H → SqL K H a (ns.map V.int) → sp [.ref a] H (fun v _ => v = .bl true) fun _ _ _ => False) ∧
        ∀ base : Heap, K.In base → base.Ns mainGlobals mg → LawOk l.prog w K mg base fa x fd sp) :
    PySem.W.WalkO q loose XP YP l.row.toRowW d [] (fun f vs => PySem.call f vs) := by
  refine Att.attach_call hn hdf fun w s₀ s₁ mg mb fa o pm cd doc a vs ns G Y _ _ _ hmg hobj hints hlen hg => ?_
  obtain ⟨K, fd, sp, KX, hb, hsp, hF⟩ := F w mg fa _ Y G.T.g hmg
  exact law_run KX G.T.g G.T.b G.T.builtins G.T.nolimit hg hobj hints (Nat.le_trans hlen hn2) hF hb fun H hO hS => hsp H a ns hlen hO hS
section
variable {fa : List He.Fa} {fn : List He.DefD} {P : Program} {w : World} {K : PySem.W.Frag} {mg : Str → Option Value} {base : Heap}
/-- THE RULE for the law's def -/
theorem okLaw (W : Wd fa fn K mg) {d : He.DefD} (i : Nat) {x : Str} {N : List Str} {k : Nat} {sp : Sp} (S : FnScope N [x] d.scope) (hr : Room (k + 1) callerA) (hi : fn[i]? = some d := by rfl) (hd : d.dfl = [] := by rfl)
    (len : ∀ vs H Q E, sp vs H Q E → vs.length = [x].length)
    (hbody : ∀ (base : Heap) (cdv : Value) (s : Shared) (H : Hp) (vs : List V) (Q : VK) (E : XK), Room k (callerA.deeper (envOfC d.qual d.scope s.heap.objs.size (He.fAd K d.at_) cdv)) → N.Nodup → (callerA.deeper (envOfC d.qual d.scope s.heap.objs.size (He.fAd K d.at_) cdv)).units + 1 < cLine →
      Takes (cxOf (L2.CX P w) P w K mg base N d.qual d.scope (He.fAd K d.at_) cdv callerA [] s H E) (fun cls dd _ H => E cls dd H) →
      PassesOwn (model P w) (callerA.deeper (envOfC d.qual d.scope s.heap.objs.size (He.fAd K d.at_) cdv)) (envOfC d.qual d.scope s.heap.objs.size (He.fAd K d.at_) cdv) (cxOf (L2.CX P w) P w K mg base N d.qual d.scope (He.fAd K d.at_) cdv callerA [] s H E).xe → sp vs H Q E →
      ∃ t, PSs (cxOf (L2.CX P w) P w K mg base N d.qual d.scope (He.fAd K d.at_) cdv callerA [] s H E) d.body t ∧ t { nx := fun _ H' => Q .non H', rt := Q } (start N vs) H) :
    ∃ fd, FunD K d.name d.qual d.params d.body d.scope [] (d.kws K) (He.fAd K d.at_) fd ∧ ∀ base : Heap, LawOk P w K mg base (He.fAd K d.at_) x fd sp := by
  obtain ⟨fd, F⟩ := W.c.def_ i hi
  have e : d.dvs K = [] := by unfold He.DefD.dvs; rw [hd]; rfl
  rw [e] at F
  refine ⟨fd, F, fun base => ⟨?_⟩⟩
  obtain ⟨oc, od, dV, kV, doc, pm, an, cdv, ct, osl, rfl, lk, hcd, _, _⟩ := F.ex
  intro s H us vs Q E e0 hb r hsp
  have hl := len _ _ _ _ hsp
  have kept : ∀ b o, base.get? b = some o → s.heap.get? b = some o := fun b o q => (e0.bs b o q).1
  have KX : K.In s.heap := e0.mod.kin.keeps kept
  have lim : s.heap.NoLimit := e0.mod.nolimit.keeps kept
  have kinds : ∀ y ∈ [x].zip us, d.scope.names.lookup y.1 = some .local ∨ (d.scope.names.lookup y.1 = some .cell ∧ ((cellsFrom (s.heap.objs.size + 1) d.scope.names []).lookup y.1).isSome = true) := by
    rintro ⟨n, v⟩ hy
    rcases S.par n (List.of_mem_zip hy).1 with q | q
    · exact .inl q
    · exact .inr ⟨q, PySem.W.cellsFrom_some _ _ _ (.inl q)⟩
  refine codeAny_call_function hr.depth (KX _ _ lk) rfl S.co S.gen rfl (PySem.W.codeRec_of KX hcd) (hb _ _ _ _ ?_)
  refine wpAny_newFunctionEnv_cells S.kind kinds fun env he s1 z => ?_
  subst he
  refine ⟨lim.keeps z.toInCall.keep, codeAny_func ?_⟩
  obtain ⟨t, ht, hq⟩ := hbody base cdv s H vs Q E (hr.deeper _) S.nd (hu_of (hr.deeper _)) (takes_of rfl rfl rfl rfl) (passes_of rfl) hsp
  have I : Inv (cxOf (L2.CX P w) P w K mg base N d.qual d.scope (He.fAd K d.at_) cdv callerA [] s H E) [] (L2.start N vs) H s1 := inv_start S hr.hd e0 hl r z
  refine wpAny_mono (ht.run [] s1 (L2.start N vs) H _ I hq) (fun fl s' hs => ?_) fun e s' hs => hs
  have fin : ∀ {σ' : L2.St} {H' : Hp} {v : V} {u : Value}, Inv (cxOf (L2.CX P w) P w K mg base N d.qual d.scope (He.fAd K d.at_) cdv callerA [] s H E) [] σ' H' s' → RelV v u → Q v H' → CE [] P w H s Q u s' :=
    fun {σ' H' v u} J rv q => ⟨v, H', J.os, J.bare, J.base, J.hok, rv, q⟩
  cases fl with
  | ret u =>
    obtain ⟨v, σ', H', J, rv, q⟩ := hs
    exact fin J rv q
  | next =>
    obtain ⟨σ', H', J, q⟩ := hs
    exact fin (v := V.non) (u := Value.none) J rfl q
  | brk =>
    obtain ⟨_, _, _, q⟩ := hs
    exact q.elim
  | cont =>
    obtain ⟨_, _, _, q⟩ := hs
    exact q.elim
end
end WW

set_option maxHeartbeats 4000000
namespace WW
open PySem PySem.Spec PyProof.Rows L2
/-! ### signs -/
def isLow (c : Nat) : Bool := decide (97 ≤ c) && decide (c ≤ 122)
def isDig (c : Nat) : Bool := decide (48 ≤ c) && decide (c ≤ 57)
def isBrk (c : Nat) : Bool := c == 91 || c == 93 || c == 44
theorem low_lit : (Str.ofString "abcdefghijklmnopqrstuvwxyz").cps.toList = [97,98,99,100,101,102,103,104,105,106,107,108,109,110,111,112,113,114,115,116,117,118,119,120,121,122] := by decide +kernel
theorem dig_lit : (Str.ofString "0123456789").cps.toList = [48,49,50,51,52,53,54,55,56,57] := by decide +kernel
theorem brk_lit : (Str.ofString "[],").cps.toList = [91, 93, 44] := by decide +kernel
theorem brk4_lit : (Str.ofString "[],;").cps.toList = [91, 93, 44, 59] := by decide +kernel
theorem in_low (c : Nat) : decide (c ∈ (Str.ofString "abcdefghijklmnopqrstuvwxyz").cps.toList) = isLow c := by
  rw [low_lit, Bool.eq_iff_iff]
  simp only [List.mem_cons, List.not_mem_nil, or_false, decide_eq_true_eq, isLow, Bool.and_eq_true]
  omega
theorem in_dig (c : Nat) : decide (c ∈ (Str.ofString "0123456789").cps.toList) = isDig c := by
  rw [dig_lit, Bool.eq_iff_iff]
  simp only [List.mem_cons, List.not_mem_nil, or_false, decide_eq_true_eq, isDig, Bool.and_eq_true]
  omega
theorem in_brk (c : Nat) : decide (c ∈ (Str.ofString "[],").cps.toList) = isBrk c := by
  rw [brk_lit, Bool.eq_iff_iff]
  simp only [List.mem_cons, List.not_mem_nil, or_false, decide_eq_true_eq, isBrk, Bool.or_eq_true, beq_iff_eq]
  omega
theorem in_brk4 (c : Nat) : decide (c ∈ (Str.ofString "[],;").cps.toList) = (isBrk c || c == 59) := by
  rw [brk4_lit, Bool.eq_iff_iff]
  simp only [List.mem_cons, List.not_mem_nil, or_false, decide_eq_true_eq, isBrk, Bool.or_eq_true, beq_iff_eq]
  omega
theorem mem_low (c : Nat) : (c ∈ (Str.ofString "abcdefghijklmnopqrstuvwxyz").cps.toList) = (isLow c = true) := propext (by rw [← in_low, decide_eq_true_eq])
theorem mem_dig (c : Nat) : (c ∈ (Str.ofString "0123456789").cps.toList) = (isDig c = true) := propext (by rw [← in_dig, decide_eq_true_eq])
theorem mem_brk (c : Nat) : (c ∈ (Str.ofString "[],").cps.toList) = (isBrk c = true) := propext (by rw [← in_brk, decide_eq_true_eq])
theorem mem_brk4 (c : Nat) : (c ∈ (Str.ofString "[],;").cps.toList) = ((isBrk c || c == 59) = true) := propext (by rw [← in_brk4, decide_eq_true_eq])
theorem sgn_inj (a b : Nat) : ((⟨#[a]⟩ : Str) = ⟨#[b]⟩) = (a = b) := propext ⟨fun h => by injection h with h; simpa using h, fun h => by rw [h]⟩
/-- a text of codes -/
def S (l : List Nat) : Str := ⟨l.toArray⟩
theorem S_tl (z : Str) : S z.cps.toList = z := rfl
theorem tl_S (l : List Nat) : (S l).cps.toList = l := rfl
theorem S_inj {l m : List Nat} : S l = S m ↔ l = m := ⟨fun h => by have := congrArg (fun z : Str => z.cps.toList) h; simpa [S] using this, fun h => by rw [h]⟩
theorem len_S (l : List Nat) : (S l).length = l.length := rfl
theorem len_str (z : Str) : z.length = z.cps.toList.length := rfl
theorem str_ext {y z : Str} (h : y.cps.toList = z.cps.toList) : y = z := TL.ext_tl h
theorem S_app (l m : List Nat) : S l ++ S m = S (l ++ m) := str_ext (by show TL.tl (S l ++ S m) = _; rw [TL.tl_append]; rfl)
/-! ### words and small numbers -/
def wordL (l : List Nat) : Bool := decide (1 ≤ l.length) && decide (l.length ≤ 12) && (match l with | c :: _ => isLow c | [] => false) && l.all fun c => isLow c || isDig c
def wordD : PyData → Bool
  | .str z => wordL z.cps.toList
  | _ => false
def bigP (n : Nat) : Int := (10 ^ 32) ^ n
def shortI (i : Int) : Bool := decide (-(bigP 125) < i) && decide (i < bigP 125)
def shortD : PyData → Bool
  | .int i => shortI i
  | _ => false
theorem bigP_succ (n : Nat) : bigP (n + 1) = bigP n * 10 ^ 32 := Int.pow_succ ..
theorem bigP_pos (n : Nat) : 0 < bigP n := Int.pow_pos (by decide)
theorem bigP_mono {m n : Nat} (h : m ≤ n) : bigP m ≤ bigP n := by
  induction n with
  | zero => have : m = 0 := by omega
            subst this; exact Int.le_refl _
  | succ n ih =>
    by_cases e : m = n + 1
    · subst e; exact Int.le_refl _
    · refine Int.le_trans (ih (by omega)) ?_
      rw [bigP_succ]
      have := bigP_pos n
      generalize bigP n = x at *
      omega
theorem bigP_bits (n : Nat) : (bigP n).natAbs < 2 ^ (107 * n + 1) := by
  induction n with
  | zero => decide
  | succ n ih =>
    rw [bigP_succ, Int.natAbs_mul]
    have e : 2 ^ (107 * (n + 1) + 1) = 2 ^ (107 * n + 1) * 2 ^ 107 := by rw [← Nat.pow_add]; congr 1
    rw [e]
    exact Nat.mul_lt_mul'' ih (by decide)
/-! ### data as it stands, kept -/
/-- no list, no dict within -/
def imm : PyData → Bool
  | .tuple ds => immAll ds
  | .list _ => false
  | .dict _ => false
  | _ => true
where immAll : List PyData → Bool
  | [] => true
  | d :: ds => imm d && immAll ds
/-- tuples are kept -/
def Tx (H H' : Hp) : Prop := ∀ a xs, (H a = some (.tup xs) → H' a = some (.tup xs)) ∧ ∀ o, H a = some (.frz o (.tup xs)) → H' a = some (.frz o (.tup xs))
theorem Tx.refl (H : Hp) : Tx H H := fun _ _ => ⟨fun h => h, fun _ h => h⟩
theorem Tx.trans {H H1 H2 : Hp} (a : Tx H H1) (b : Tx H1 H2) : Tx H H2 := fun p xs => ⟨fun h => (b p xs).1 ((a p xs).1 h), fun o h => (b p xs).2 o ((a p xs).2 o h)⟩
theorem Tx.of {H H' : Hp} (s : Same H H') : Tx H H' := fun p xs => ⟨fun h => s _ _ h, fun _ h => s _ _ h⟩
/-- what is no tuple -/
def noTup : HO → Prop
  | .tup _ => False
  | .frz _ (.tup _) => False
  | _ => True
theorem Tx.up {H : Hp} {p : Addr} {o u : HO} (h : H p = some o) (n : noTup o) : Tx H (upd H p u) := fun a xs => by
  refine ⟨fun e => ?_, fun o' e => ?_⟩
  · rw [upd_ne]
    · exact e
    · rintro rfl
      rw [h] at e
      cases e
      exact n
  · rw [upd_ne]
    · exact e
    · rintro rfl
      rw [h] at e
      cases e
      exact n
theorem Tx.nw {H : Hp} {p : Addr} {u : HO} (h : H p = none) : Tx H (upd H p u) := fun a xs => by
  refine ⟨fun e => ?_, fun o' e => ?_⟩ <;> (rw [upd_ne (ne_of_none e h)]; exact e)
theorem Tx.sqt {K : PySem.W.Frag} {H H' : Hp} {a : Addr} {xs : List V} (t : Tx H H') (h : SqT K H a xs) : SqT K H' a xs := by
  rcases h with (h | ⟨o, h⟩) | h
  · exact .inl (.inl ((t a xs).1 h))
  · exact .inl (.inr ⟨o, (t a xs).2 o h⟩)
  · exact .inr h
section
variable {K : PySem.W.Frag} {H H' : Hp}
mutual
theorem Dp.tx (t : Tx H H') : ∀ (d : PyData) (v : V), imm d = true → Dp K H v d → Dp K H' v d
  | .none, _, _, h => by cases h; exact .non
  | .bool _, _, _, h => by cases h; exact .bl _
  | .int _, _, _, h => by cases h; exact .int _
  | .str _, _, _, h => by cases h; exact .str _
  | .list _, _, i, _ => by simp [imm] at i
  | .dict _, _, i, _ => by simp [imm] at i
  | .tuple ds, _, i, h => by
    cases h with
    | tup h1 h2 => exact .tup (t.sqt h1) (Dp.txs t ds _ (by simpa [imm] using i) h2)
theorem Dp.txs (t : Tx H H') : ∀ (ds : List PyData) (vs : List V), imm.immAll ds = true → DpAll K H vs ds → DpAll K H' vs ds
  | [], _, _, h => by cases h; exact .nil
  | d :: ds, _, i, h => by
    cases h with
    | cons h1 h2 =>
      obtain ⟨i1, i2⟩ := Bool.and_eq_true_iff.mp (show (imm d && imm.immAll ds) = true by simpa [imm.immAll] using i)
      exact .cons (Dp.tx t d _ i1 h1) (Dp.txs t ds _ i2 h2)
end
mutual
theorem Dp.sm (t : Same H H') : ∀ (d : PyData) (v : V), Dp K H v d → Dp K H' v d
  | .none, _, h => by cases h; exact .non
  | .bool _, _, h => by cases h; exact .bl _
  | .int _, _, h => by cases h; exact .int _
  | .str _, _, h => by cases h; exact .str _
  | .list ds, _, h => by
    cases h with
    | lst h1 h2 => exact .lst (t.seq h1) (Dp.sms t ds _ h2)
  | .dict _, _, h => by cases h
  | .tuple ds, _, h => by
    cases h with
    | tup h1 h2 => exact .tup ((Tx.of t).sqt h1) (Dp.sms t ds _ h2)
theorem Dp.sms (t : Same H H') : ∀ (ds : List PyData) (vs : List V), DpAll K H vs ds → DpAll K H' vs ds
  | [], _, h => by cases h; exact .nil
  | d :: ds, _, h => by
    cases h with
    | cons h1 h2 => exact .cons (Dp.sm t d _ h1) (Dp.sms t ds _ h2)
end
theorem DpAll.length {vs : List V} {ds : List PyData} (h : DpAll K H vs ds) : vs.length = ds.length := by
  induction ds generalizing vs with
  | nil => cases h; rfl
  | cons d ds ih => cases h with
    | cons _ h2 => simp [ih h2]
theorem DpAll.get {vs : List V} {ds : List PyData} (h : DpAll K H vs ds) {i : Nat} {v : V} (e : vs[i]? = some v) : ∃ d, ds[i]? = some d ∧ Dp K H v d := by
  induction ds generalizing vs i with
  | nil => cases h; simp at e
  | cons d ds ih => cases h with
    | cons h1 h2 =>
      cases i with
      | zero => simp at e; subst e; exact ⟨d, rfl, h1⟩
      | succ i => exact ih h2 (by simpa using e)
theorem DpAll.app {vs us : List V} {ds es : List PyData} (h : DpAll K H vs ds) (g : DpAll K H us es) : DpAll K H (vs ++ us) (ds ++ es) := by
  induction ds generalizing vs with
  | nil => cases h; exact g
  | cons d ds ih => cases h with
    | cons h1 h2 => exact .cons h1 (ih h2)
theorem immAll_app (ds es : List PyData) : imm.immAll (ds ++ es) = (imm.immAll ds && imm.immAll es) := by
  induction ds with
  | nil => simp [imm.immAll]
  | cons d ds ih => simp [imm.immAll, ih, Bool.and_assoc]
end
theorem Same.new {H : Hp} {p : Addr} {o : HO} (h : H p = none) : Same H (upd H p o) := fun b u e => by rw [upd_ne (ne_of_none e h)]; exact e
/-- what H does not know may change -/
theorem Same.mut {H H' : Hp} {p : Addr} {o : HO} (s : Same H H') (h : H p = none) : Same H (upd H' p o) := fun b u e => by rw [upd_ne (ne_of_none e h)]; exact s b u e
theorem Same.none {H H' : Hp} {p : Addr} (s : Same H H') (h : H' p = Option.none) : H p = Option.none := s.free h
/-- all([f(c) for c in a text]), the element read without a change -/
theorem lc_str {z : Str} {f : Nat → V} {te : TE} {vs : List Nat} {σ : L2.St} {H1 : Hp} {D : Addr} {Qd : Hp → Prop} {j : Nat} (hz : z.length ≤ 1000000)
    (hw : ∀ x, wipe ((wipe σ vs).set j (some x)) vs = wipe σ vs)
    (he : ∀ c H (R : VK), R (f c) H → te ((wipe σ vs).set j (some (.str ⟨#[c]⟩))) H R)
    (hq : Qd (upd H1 D (.lst (z.cps.toList.map f)))) :
    ∃ W : Nat → Nat → Hp → Prop, (∃ m, W 0 m (upd H1 D (.lst []))) ∧ ∀ i m H, W i m H →
      ((Its z).stop i H ∧ Qd H) ∨ ((Its z).go i H ∧ ∃ Nx : Hp → Prop, (∀ H', Nx H' → ∃ m', m' < m ∧ W (i + 1) m' H') ∧ ∀ x H', (Its z).yld i H x H' → gName j x (wipe σ vs) H' fun σ2 H2 => wipe σ2 vs = wipe σ vs ∧ tYes σ2 H2 fun b H3 =>
        if b = true then te σ2 H3 fun y H4 => ∃ acc, H4 D = some (.lst acc) ∧ acc.length < sizeLine ∧ Nx (upd H4 D (.lst (acc ++ [y]))) else Nx H3) := by
  refine lc_it (walk_str (z := z)) (fun i H => H = upd H1 D (.lst ((z.cps.toList.map f).take i))) (by rw [List.take_zero]) (fun _ _ _ _ => trivial) ?_ ?_
  · rintro i x H H' hi rfl ⟨rfl, c, hc, rfl⟩
    refine ⟨hw _, ?_⟩
    show te ((wipe σ vs).set j (some (.str ⟨#[c]⟩))) _ _
    refine he c _ _ ⟨_, upd_same, ?_, ?_⟩
    · rw [List.length_take, List.length_map, sizeLine_eq]
      have : z.cps.toList.length = z.length := rfl
      omega
    · rw [upd_upd]
      congr 2
      have e : (z.cps.toList.map f)[i]? = some (f c) := by
        rw [List.getElem?_map]
        have : z.cps.toList[i]? = some c := by simpa using hc
        rw [this]
        rfl
      rw [List.take_succ, e]
      rfl
  · rintro H rfl
    have e : (z.cps.toList.map f).take z.cps.size = z.cps.toList.map f := List.take_of_length_le (by simp)
    rw [e]
    exact hq
theorem tLc_str {z : Str} {f : Nat → V} {ta te : TE} {vs : List Nat} {σ : L2.St} {H : Hp} {Q : VK} {j : Nat} (hz : z.length ≤ 1000000) (hta : ∀ R : VK, R (.str z) H → ta σ H R)
    (hw : ∀ x, wipe ((wipe σ vs).set j (some x)) vs = wipe σ vs)
    (he : ∀ c H (R : VK), R (f c) H → te ((wipe σ vs).set j (some (.str ⟨#[c]⟩))) H R)
    (hq : ∀ D, H D = none → Q (.ref D) (upd H D (.lst (z.cps.toList.map f)))) : tLc (iStr ta) (gName j) tYes te vs σ H Q :=
  hta _ ⟨z, rfl, fun D hD => lc_str (Qd := fun H' => Q (.ref D) H') hz hw he (hq D hD)⟩
/-! ### loops, folded -/
theorem tFor_of {J : It} {n : Nat} {G : Hp → Prop} {Y : Nat → Hp → V → Hp → Prop} {wi : TI} {g : TG} {tb : TS} {D : Ends} {σ : L2.St} {H H1 : Hp} (wk : Walk J n G Y) (hwi : ∀ R : It → Hp → Prop, R J H1 → wi σ H R) (Pv : Nat → L2.St → Hp → Prop) (h0 : Pv 0 σ H1)
    (hG : ∀ i σ H, i ≤ n → Pv i σ H → G H) (hs : ∀ i x σ H H', i < n → Pv i σ H → Y i H x H' → g x σ H' fun σ2 H2 => tb { D with nx := Pv (i + 1), ct := Pv (i + 1), bk := D.nx } σ2 H2) (hd : ∀ σ H, Pv n σ H → D.nx σ H) : tFor wi g tb D σ H :=
  hwi _ (for_it wk Pv h0 hG hs hd)
theorem tLc_of {J : It} {n : Nat} {G : Hp → Prop} {Y : Nat → Hp → V → Hp → Prop} {wi : TI} {g : TG} {tt : TT} {te : TE} {vs : List Nat} {σ : L2.St} {H H1 : Hp} {Q : VK} (wk : Walk J n G Y) (hwi : ∀ R : It → Hp → Prop, R J H1 → wi σ H R) (Pv : Addr → Nat → Hp → Prop)
    (h0 : ∀ D, H1 D = none → Pv D 0 (upd H1 D (.lst []))) (hG : ∀ D i H, i ≤ n → Pv D i H → G H)
    (hs : ∀ D i x H H', i < n → Pv D i H → Y i H x H' → g x (wipe σ vs) H' fun σ2 H2 => wipe σ2 vs = wipe σ vs ∧ tt σ2 H2 fun b H3 =>
      if b = true then te σ2 H3 fun y H4 => ∃ acc, H4 D = some (.lst acc) ∧ acc.length < sizeLine ∧ Pv D (i + 1) (upd H4 D (.lst (acc ++ [y]))) else Pv D (i + 1) H3) (hd : ∀ D H, Pv D n H → Q (.ref D) H) : tLc wi g tt te vs σ H Q :=
  hwi _ fun D hD => lc_it wk (Pv D) (h0 D hD) (hG D) (hs D) (hd D)
theorem cut_tl (z : Str) (lo hi : Option Int) : (cutS z lo hi).cps.toList = (z.cps.toList.drop (HT.sIx z.length 0 lo)).take (HT.sIx z.length z.length hi - HT.sIx z.length 0 lo) := rfl
theorem cut_to (z : Str) (n : Nat) : (cutS z none (some (n : Int))) = S (z.cps.toList.take n) := by
  apply str_ext
  rw [cut_tl, HT.sIx_none, HT.sIx_nat, List.drop_zero, Nat.sub_zero, tl_S]
  have e : z.length = z.cps.toList.length := rfl
  rw [e, List.take_eq_take_iff]
  omega
theorem cut_from (z : Str) (n : Nat) : (cutS z (some (n : Int)) none) = S (z.cps.toList.drop n) := by
  apply str_ext
  rw [cut_tl, HT.sIx_none, HT.sIx_nat, tl_S]
  have e : z.length = z.cps.toList.length := rfl
  rw [e]
  by_cases h : n ≤ z.cps.toList.length
  · rw [Nat.min_eq_left h]
    exact List.take_of_length_le (by rw [List.length_drop]; exact Nat.le_refl _)
  · rw [Nat.min_eq_right (by omega), List.drop_of_length_le (Nat.le_refl _), List.drop_of_length_le (by omega)]
    simp
theorem cut_mid (z : Str) (m n : Nat) (hm : m ≤ n) (hn : n ≤ z.length) : (cutS z (some (m : Int)) (some (n : Int))) = S ((z.cps.toList.drop m).take (n - m)) := by
  apply str_ext
  rw [cut_tl, HT.sIx_nat, HT.sIx_nat, tl_S, Nat.min_eq_left hn, Nat.min_eq_left (Nat.le_trans hm hn)]
end WW

set_option maxHeartbeats 4000000
namespace WW
open PySem PySem.Spec PyProof.Rows L2
local macro_rules | `(tactic| walk_at "x") => `(tactic| simp only [tSeq, tNext, tAsg, gName, tRet, tRetN, tIfS, tOp, tUn, rI, rI0, rU, tTest, tB, tAnd, tOr, tNot, tAndV, tOrV, tNotV, tIf, tCons, tNil, tTup, tLst, tCall, tCallS, tMeth, tMake, tFld, sFld, tBM, tBM0, tCB, tSl, tPart, tNoPart, tDrop, tPar, tPar3, tAug, ipI, gTup, gCons, gNil, gSub, rSetL, rAppend, rPop, rIxL, rIxS, rIxT, rEq, rNe, tChain, tNever, tThen, tVar, tC, L2.start, List.map_cons, List.map_nil, List.length_cons, List.length_nil, List.replicate_succ, List.replicate_zero, List.append_nil, List.nil_append, List.cons_append, Nat.reduceAdd, Nat.reduceSub, Nat.add_zero, Nat.zero_add, Nat.sub_zero, Nat.sub_self,
  List.getElem?_cons_zero, List.getElem?_cons_succ, Option.some.injEq, exists_eq_left', exists_eq_left, exists_eq', exists_eq, exists_and_left, List.set_cons_zero, List.set_cons_succ, V.int.injEq, V.bl.injEq, V.str.injEq, V.ref.injEq, V.ty.injEq, List.cons.injEq, and_true, true_and, and_assoc, if_true, if_false, Bool.false_eq_true, reduceCtorEq, false_and, and_false, exists_false, false_or, or_false, Bool.not_true, Bool.not_false, decide_eq_true_eq, ite_true, ite_false, WE, cxOf_K, cxOf_mg, rSlS, scal, wipe, mem_low, mem_dig, mem_brk, mem_brk4, sgn_inj, Bool.decide_eq_true])

def spIsWhole (K : PySem.W.Frag) : Sp := fun vs H Q _ => ∃ x d, vs = [x] ∧ Dp K H x d ∧ Q (.bl (isa d "int" && !isa d "bool")) H
def spIsWord (K : PySem.W.Frag) : Sp := fun vs H Q _ => ∃ x d, vs = [x] ∧ Dp K H x d ∧ (∀ z, x = .str z → z.length ≤ 1000000) ∧ ∀ H', Same H H' → Q (.bl (wordD d)) H'
section
variable {P : Program} {w : World} {K : PySem.W.Frag} {mg : Str → Option Value} {base : Heap}
theorem o_is_whole (W : Wd fa fn K mg) : OkF P w K mg base d_is_whole 1 ["value"] (spIsWhole K) := by
  refine okf W (d := d_is_whole) 0 sc_is_whole rfl rfl (fun _ _ _ _ _ _ us hl => match us, hl with | [_], _ => rfl) ?len (fun cdv A outer s H vs Q E hr nd hu tk po h => ?body)
  case len =>
    rintro vs H Q E ⟨x, d, rfl, _⟩
    rfl
  case body =>
    refine ⟨_, (pss_one (ps_ret (pe_and (pe_callB call_isiV (by rfl) (W.free 0) (by decide +kernel) (pa_cons (pv 0) (pa_cons (pe_bltn (v := .ty "int") (u := .type "int") rfl (W.free 2) (by decide +kernel) rfl) pa_nil))) (pe_one (pe_not (pe_callB call_isiV (by rfl) (W.free 0) (by decide +kernel) (pa_cons (pv 0) (pa_cons (pe_bltn (v := .ty "bool") (u := .type "bool") rfl (W.free 1) (by decide +kernel) rfl) pa_nil)))))))), ?_⟩
    obtain ⟨x, d, rfl, hd, hq⟩ := h
    walk_at "x"
    simp only [rIsaV]
    walk_at "x"
    refine ⟨by decide, _, IsaV.of hd, ?_⟩
    cases h1 : isa d "int" with
    | false => rw [h1] at hq; exact iteF hq
    | true => rw [h1] at hq; exact iteT ⟨by decide, _, IsaV.of hd, hq⟩
theorem o_is_word (W : Wd fa fn K mg) : OkF P w K mg base d_is_word 1 ["value"] (spIsWord K) := by
  refine okf W (d := d_is_word) 1 sc_is_word rfl rfl (fun _ _ _ _ _ _ us hl => match us, hl with | [_], _ => rfl) ?len (fun cdv A outer s H vs Q E hr nd hu tk po h => ?body)
  case len =>
    rintro vs H Q E ⟨x, d, rfl, _⟩
    rfl
  case body =>
    refine ⟨_, (pss_cons (ps_if (PW.pt (pw_or (pt_not (pt_val (pe_callB call_isiV (by rfl) (W.free 0) (by decide +kernel) (pa_cons (pv 0) (pa_cons (pe_bltn (v := .ty "str") (u := .type "str") rfl (W.free 8) (by decide +kernel) rfl) pa_nil))))) (pw_or (pt_not (pt_chain op_le op_le pe_int (pe_callB call_len (by rfl) (W.free 6) (by decide +kernel) (pa_cons (pv 0) pa_nil)) (C8.pe_gc rfl (W.intV 7)))) (pw_or1 (pt_cmpR op_notIn_sign (pe_ix ix_str (pv 0) pe_int (fun _ _ => rfl)) (C8.pe_gc rfl (W.strV 5)) (by rfl)))))) (pss_one (ps_ret pe_bl)) pss_nil)
    (pss_one (ps_ret (pe_callB (cr_all rfl) (by rfl) (W.free 3) (by decide +kernel) (pa_cons (pe_lc (own := [("sign", 1)]) (g := (gName 1)) (tt := tYes) rfl nd (pi_str (pv 0)) (blkOk_by (own := [("sign", 1)]) (N := ["value", "sign"]) (sc := defScope s_is_word) (by decide +kernel)) (fun _ _ _ _ _ => (pg_name (i := 1) nd rfl (by first | exact Or.inl rfl | exact Or.inr rfl))) (fun _ _ _ _ _ => pts_nil) (fun _ _ _ _ _ => (pe_or (pe_cmpR op_in_sign (pv 1) (C8.pe_gc rfl (W.strV 5)) (by rfl)) (pe_one (pe_cmpR op_in_sign (pv 1) (C8.pe_gc rfl (W.strV 4)) (by rfl)))))) pa_nil))))), ?_⟩
    obtain ⟨x, d, rfl, hd, hz, hq⟩ := h
    walk_at "x"
    simp only [rIsaV]
    walk_at "x"
    refine ⟨by decide, _, IsaV.of hd, ?_⟩
    cases hd with
    | str z =>
      have hz := hz z rfl
      simp only [wordD] at hq
      clear tk po
      have e1 : isa (.str z) "str" = true := rfl
      rw [e1]
      walk_at "x"
      refine ⟨z.length, ⟨by rw [sizeLine_eq]; omega, rfl⟩, ?_⟩
      have el : z.length = z.cps.toList.length := rfl
      have same0 := hq _ (Same.refl _)
      cases hl : z.cps.toList with
      | nil =>
        rw [hl, List.length_nil] at el
        rw [if_neg (by omega)]
        simpa [hl, wordL] using same0
      | cons c0 r =>
        rw [hl] at el same0
        have e2 : (((1 : Nat) : Int) ≤ (z.length : Int)) := by rw [el, List.length_cons]; omega
        rw [if_pos (by exact e2)]
        by_cases h12 : (z.length : Int) ≤ 12
        · rw [decide_eq_true h12]
          walk_at "x"
          refine ⟨by rw [sizeLine_eq]; omega, c0, atI_nat (j := 0) rfl, ?_⟩
          cases h0 : isLow c0 with
          | false =>
            refine iteT ?_
            simpa [wordL, h0] using same0
          | true =>
            refine iteF ?_
            refine tLc_str (f := fun c => .bl (isLow c || isDig c)) hz (fun R h => ⟨_, rfl, h⟩) (fun x => rfl) ?_ ?_
            · intro c H2 R hR
              walk_at "x"
              cases h1 : isLow c with
              | true => simpa [h1] using hR
              | false => refine iteF ?_; simpa [h1] using hR
            · intro D hD
              refine ⟨D, z.cps.toList.map fun c => isLow c || isDig c, rfl, SqL.of (by rw [upd_same, List.map_map]; rfl), ?_⟩
              have := hq _ (Same.new (o := .lst (z.cps.toList.map fun c => .bl (isLow c || isDig c))) hD)
              have e3 : wordL z.cps.toList = ((z.cps.toList.map fun c => isLow c || isDig c).all id) := by
                rw [hl]
                simp only [wordL, h0, List.length_cons, List.all_map]
                have a1 : decide (1 ≤ r.length + 1) = true := decide_eq_true (by omega)
                have a2 : decide (r.length + 1 ≤ 12) = true := decide_eq_true (by rw [el, List.length_cons] at h12; omega)
                rw [a1, a2]
                rfl
              rw [e3] at this
              exact this
        · rw [decide_eq_false h12]
          walk_at "x"
          have e4 : wordL (c0 :: r) = false := by
            have : decide ((c0 :: r).length ≤ 12) = false := decide_eq_false (by rw [← el]; omega)
            simp only [wordL, this, Bool.and_false, Bool.false_and]
          rw [e4] at same0
          exact same0
    | _ => exact iteT (hq _ (Same.refl _))
end
end WW

set_option maxHeartbeats 4000000
namespace WW
open PySem PySem.Spec PyProof.Rows L2
local macro_rules | `(tactic| walk_at "x") => `(tactic| simp only [tSeq, tNext, tAsg, gName, tRet, tRetN, tIfS, tOp, tUn, rI, rI0, rU, tTest, tB, tAnd, tOr, tNot, tAndV, tOrV, tNotV, tIf, tCons, tNil, tTup, tLst, tCall, tCallS, tMeth, tMake, tFld, sFld, tBM, tBM0, tCB, tSl, tPart, tNoPart, tDrop, tPar, tPar3, tAug, ipI, gTup, gCons, gNil, gSub, rSetL, rAppend, rPop, rIxL, rIxS, rIxT, rEq, rNe, tChain, tNever, tThen, tVar, tC, L2.start, List.map_cons, List.map_nil, List.length_cons, List.length_nil, List.replicate_succ, List.replicate_zero, List.append_nil, List.nil_append, List.cons_append, Nat.reduceAdd, Nat.reduceSub, Nat.add_zero, Nat.zero_add, Nat.sub_zero, Nat.sub_self,
  List.getElem?_cons_zero, List.getElem?_cons_succ, Option.some.injEq, exists_eq_left', exists_eq_left, exists_eq', exists_eq, exists_and_left, List.set_cons_zero, List.set_cons_succ, V.int.injEq, V.bl.injEq, V.str.injEq, V.ref.injEq, V.ty.injEq, List.cons.injEq, and_true, true_and, and_assoc, if_true, if_false, Bool.false_eq_true, reduceCtorEq, false_and, and_false, exists_false, false_or, or_false, Bool.not_true, Bool.not_false, decide_eq_true_eq, ite_true, ite_false, WE, cxOf_K, cxOf_mg, rSlS, scal, wipe, mem_low, mem_dig, mem_brk, mem_brk4, sgn_inj, Bool.decide_eq_true])

def spIsShort (K : PySem.W.Frag) : Sp := fun vs H Q _ => ∃ x d, vs = [x] ∧ Dp K H x d ∧ Q (.bl (shortD d)) H
section
variable {P : Program} {w : World} {K : PySem.W.Frag} {mg : Str → Option Value} {base : Heap}
theorem o_is_short (W : Wd fa fn K mg) : OkF P w K mg base d_is_short 2 ["value"] (spIsShort K) := by
  have o_is_whole := o_is_whole (P := P) (w := w) (base := base) W
  obtain ⟨fd_is_whole, F_is_whole, b_is_whole, k_is_whole⟩ := o_is_whole.ex
  refine okf W (d := d_is_short) 2 sc_is_short rfl rfl (fun _ _ _ _ _ _ us hl => match us, hl with | [_], _ => rfl) ?len (fun cdv A outer s H vs Q E hr nd hu tk po h => ?body)
  case len =>
    rintro vs H Q E ⟨x, d, rfl, _⟩
    rfl
  case body =>
    refine ⟨_, (pss_cons (ps_if (pt_not (pt_val (by exact (pe_callS F_is_whole (hr.mono (by first | decide | omega)) rfl (W.glo 9) k_is_whole b_is_whole (fun σ => passAt tk σ) (by exact (pa_cons (pv 0) pa_nil)))))) (pss_one (ps_ret pe_bl)) pss_nil)
    (pss_cons (ps_set (i := 1) nd rfl (by first | exact Or.inl rfl | exact Or.inr rfl) (pe_op op_pow pe_int pe_int))
    (pss_cons (ps_if (pt_chain op_lt op_lt (pe_un un_neg (pv 1)) (pv 0) (pv 1)) (pss_one (ps_ret pe_bl)) pss_nil)
    (pss_cons (ps_for po rfl (pi_range1 rfl (W.free 10) (pa_cons (pe_op op_sub (pe_op op_fdiv (C8.pe_gc rfl (W.intV 11)) pe_int) pe_int) pa_nil)) (pg_name (i := 2) nd rfl (by first | exact Or.inl rfl | exact Or.inr rfl))
      (pss_one (ps_aug (i := 1) nd rfl (by first | exact Or.inl rfl | exact Or.inr rfl) (pe_op op_pow pe_int pe_int) iop_mulW)))
    (pss_one (ps_ret (pe_chain op_lt op_lt (pe_un un_neg (pv 1)) (pv 0) (pv 1)))))))), ?_⟩
    obtain ⟨x, d, rfl, hd, hq⟩ := h
    clear tk po
    walk_at "x"
    simp only [spIsWhole]
    walk_at "x"
    refine ⟨d, hd, ?_⟩
    cases hd with
    | int i =>
      have e0 : (isa (.int i) "int" && !isa (.int i) "bool") = true := rfl
      rw [e0]
      walk_at "x"
      refine ⟨⟨by decide, by decide, by decide⟩, ?_⟩
      have e1 : (10 : Int) ^ Int.toNat 32 = bigP 1 := by decide
      rw [e1]
      have fin : ∀ y : Option V, tRet (tChain (rI0 fun i j => V.bl (decide (i < j))) (rI0 fun i j => V.bl (decide (i < j))) (tUn (rU fun i => V.int (-i)) (tVar 1)) (tVar 0) (tVar 1)) { nx := fun _ H' => Q V.non H', rt := Q } [some (.int i), some (.int (bigP 125)), y] H := by
        intro y
        walk_at "x"
        simp only [shortD, shortI] at hq
        by_cases h : -bigP 125 < i
        · rw [if_pos h]
          rw [decide_eq_true h, Bool.true_and] at hq
          exact hq
        · rw [if_neg h]
          rw [decide_eq_false h, Bool.false_and] at hq
          exact hq
      have loop : tFor (iRng1 (tCons (tOp (rI0 fun i j => V.int (i - j)) (tOp (rI CDiv fun i j => V.int (i / j)) (tC (V.int 4000)) (tC (V.int 32))) (tC (V.int 1))) tNil)) (gName 2)
          (tAug 1 (tOp (rI CPow fun i j => V.int (i ^ j.toNat)) (tC (V.int 10)) (tC (V.int 32))) (rI CMulW fun i j => V.int (i * j)))
          { nx := tRet (tChain (rI0 fun i j => V.bl (decide (i < j))) (rI0 fun i j => V.bl (decide (i < j))) (tUn (rU fun i => V.int (-i)) (tVar 1)) (tVar 0) (tVar 1)) { nx := fun _ H' => Q V.non H', rt := Q }, rt := Q }
          [some (.int i), some (.int (bigP 1)), none] H := by
        refine tFor_of (walk_range (lo := 0) (n := 124)) (H1 := H) ?_ (fun k σ H' => H' = H ∧ ∃ y, σ = [some (.int i), some (.int (bigP (k + 1))), y]) ⟨rfl, _, rfl⟩ (fun _ _ _ _ _ => trivial) ?_ ?_
        · intro R hR
          simp only [iRng1]
          walk_at "x"
          exact ⟨⟨by decide, by decide⟩, by decide, by decide, hR⟩
        · rintro k v σ H1 H2 hk ⟨rfl, y, rfl⟩ ⟨rfl, rfl⟩
          walk_at "x"
          refine ⟨⟨by decide, by decide, by decide⟩, ?_, ?_⟩
          · have b1 := bigP_bits (k + 1)
            refine wide_mul (a := 107 * (k + 1) + 1) (b := 107) b1 (by decide) (by omega) (by omega) (by omega)
          · rw [bigP_succ (k + 1)]
            rfl
        · rintro σ H' ⟨rfl, y, rfl⟩
          exact fin y
      simp only [shortD, shortI] at hq
      by_cases h1 : -bigP 1 < i
      · rw [if_pos h1]
        by_cases h2 : i < bigP 1
        · rw [if_pos h2]
          have m := bigP_mono (show 1 ≤ 125 by decide)
          rw [decide_eq_true (by omega), decide_eq_true (by omega)] at hq
          exact hq
        · rw [if_neg h2]
          exact loop
      · rw [if_neg h1]
        exact loop
    | bl b => exact iteT hq
    | _ => exact iteT hq
/-- the digits of a text -/
def bodyL (l : List Nat) : List Nat := if l.take 1 = [45] then l.drop 1 else l
def okBody (l : List Nat) : Bool := decide (1 ≤ (bodyL l).length) && decide ((bodyL l).length ≤ 4000) && (bodyL l).all isDig && !(((bodyL l).head? == some 48) && !decide (l = [48]))
/-- read_whole: the whole number of a text -/
def wholeL (l : List Nat) : Option Int := if okBody l then PySem.intText? (S l) else none
theorem all_dig {l : List Nat} (h : l.all isDig = true) : NumText.AllDigits l := by
  intro c hc
  have := List.all_eq_true.mp h c hc
  simp only [isDig, Bool.and_eq_true, decide_eq_true_eq] at this
  exact this
theorem body_int {l : List Nat} (h1 : 1 ≤ (bodyL l).length) (h2 : (bodyL l).length ≤ 4000) (h3 : (bodyL l).all isDig = true) : (∀ c ∈ l, c = 45 ∨ (48 ≤ c ∧ c ≤ 57)) ∧ ∃ n, PySem.intText? (S l) = some n := by
  unfold bodyL at h1 h2 h3
  by_cases h : l.take 1 = [45]
  · rw [if_pos h] at h1 h2 h3
    cases l with
    | nil => simp at h
    | cons c r =>
      have e : c = 45 := by simpa using h
      subst e
      have ad := all_dig h3
      refine ⟨fun c hc => ?_, _, PySem.intText_neg (x := S (45 :: r)) (cs := r) rfl ad (by rintro rfl; simp at h1) (by rw [len_S, List.length_cons]; rw [List.drop_one, List.tail_cons] at h2; omega)⟩
      rcases List.mem_cons.mp hc with rfl | hc
      · exact .inl rfl
      · exact .inr (ad c hc)
  · rw [if_neg h] at h1 h2 h3
    have ad := all_dig h3
    exact ⟨fun c hc => .inr (ad c hc), _, PySem.intText_digits (x := S l) ad (by rintro rfl; simp [S] at h1) (by rw [len_S]; omega)⟩
theorem bodyL_le (l : List Nat) : (bodyL l).length ≤ l.length := by
  unfold bodyL
  split
  · rw [List.length_drop]; omega
  · exact Nat.le_refl _
theorem minus_lit : Str.ofString "-" = S [45] := by decide +kernel
theorem zero_lit : Str.ofString "0" = S [48] := by decide +kernel
def spReadWhole (K : PySem.W.Frag) : Sp := fun vs H Q E => ∃ z : Str, vs = [.str z] ∧ z.length ≤ 1000000 ∧ (∀ i, wholeL z.cps.toList = some i → ∀ H', Same H H' → Q (.int i) H') ∧ (wholeL z.cps.toList = none → ∀ H', Same H H' → E (.ref (He.ga K "Malformed")) none H')
theorem o_read_whole (W : Wd fa fn K mg) : OkF P w K mg base d_read_whole 1 ["text"] (spReadWhole K) := by
  refine okf W (d := d_read_whole) 4 sc_read_whole rfl rfl (fun _ _ _ _ _ _ us hl => match us, hl with | [_], _ => rfl) ?len (fun cdv A outer s H vs Q E hr nd hu tk po h => ?body)
  case len =>
    rintro vs H Q E ⟨z, rfl, _⟩
    rfl
  case body =>
    refine ⟨_, (Evl.pss_cut (ps_set (i := 1) nd rfl (by first | exact Or.inl rfl | exact Or.inr rfl) (pe_ifExp (pt_cmpR op_eq (pe_slice sl_str (pv 0) po_none (po_some pe_int)) pe_str (nomark _)) (pe_slice sl_str (pv 0) (po_some pe_int) po_none) (pv 0)))
    (pss_cons (ps_if (PW.pt (pw_or (pt_not (pt_chain op_le op_le pe_int (pe_callB call_len (by rfl) (W.free 6) (by decide +kernel) (pa_cons (pv 1) pa_nil)) (C8.pe_gc rfl (W.intV 11)))) (pw_or1 (pt_not (pt_val (pe_callB (cr_all rfl) (by rfl) (W.free 3) (by decide +kernel) (pa_cons (pe_lc (own := [("sign", 2)]) (g := (gName 2)) (tt := tYes) rfl nd (pi_str (pv 1)) (blkOk_by (own := [("sign", 2)]) (N := ["text", "body", "sign"]) (sc := defScope s_read_whole) (by decide +kernel)) (fun _ _ _ _ _ => (pg_name (i := 2) nd rfl (by first | exact Or.inl rfl | exact Or.inr rfl))) (fun _ _ _ _ _ => pts_nil) (fun _ _ _ _ _ => (pe_cmpR op_in_sign (pv 2) (C8.pe_gc rfl (W.strV 4)) (by rfl)))) pa_nil))))))) (pss_one (ps_raise rfl tk (W.pmk 16 17 rfl))) pss_nil)
    (pss_cons (ps_if (PW.pt (pw_and (pt_cmpR op_eq (pe_ix ix_str (pv 1) pe_int (fun _ _ => rfl)) pe_str (nomark _)) (pw_and1 (pt_cmpR op_ne (pv 0) pe_str (nomark _))))) (pss_one (ps_raise rfl tk (W.pmk 16 17 rfl))) pss_nil)
    (pss_one (ps_ret (pe_callTy (call_int_strW W.dg) (by rfl) (W.free 2) (by decide +kernel) (pa_cons (pv 0) pa_nil))))))), ?_⟩
    obtain ⟨z, rfl, hz, hq, he⟩ := h
    clear tk po
    have el : z.length = z.cps.toList.length := rfl
    unfold Evl.tCut
    refine ⟨fun σ H' => H' = H ∧ σ = [some (.str z), some (.str (S (bodyL z.cps.toList))), none], ?_, ?_⟩
    · walk_at "x"
      refine ⟨by rw [sizeLine_eq]; omega, ?_⟩
      have e1 := cut_to z 1
      have e2 := cut_from z 1
      rw [show ((1 : Nat) : Int) = 1 from rfl] at e1 e2
      rw [e1, e2, minus_lit]
      unfold bodyL
      by_cases h : z.cps.toList.take 1 = [45]
      · rw [if_pos (S_inj.mpr h), if_pos h]
        exact ⟨by rw [sizeLine_eq]; omega, rfl⟩
      · rw [if_neg (fun x => h (S_inj.mp x)), if_neg h]
        rfl
    · rintro σ H' ⟨rfl, rfl⟩
      have lb := bodyL_le z.cps.toList
      have hb := body_int (l := z.cps.toList)
      have ok : okBody z.cps.toList = false → ∀ H1, Same H' H1 → E (.ref (He.ga K "Malformed")) none H1 := fun h => he (by unfold wholeL; rw [h]; rfl)
      unfold okBody at ok
      have hq' : okBody z.cps.toList = true → ∀ i, PySem.intText? z = some i → ∀ H1, Same H' H1 → Q (.int i) H1 := fun h i hi => hq i (by unfold wholeL; rw [h]; exact hi)
      unfold okBody at hq'
      generalize hbd : bodyL z.cps.toList = b at *
      walk_at "x"
      refine ⟨b.length, ⟨by rw [sizeLine_eq, len_S]; omega, rfl⟩, ?_⟩
      by_cases h1 : 1 ≤ b.length
      · rw [if_pos (by omega)]
        by_cases h2 : b.length ≤ 4000
        · rw [decide_eq_true (show (b.length : Int) ≤ 4000 by omega)]
          refine iteF ?_
          refine tLc_str (z := S b) (f := fun c => .bl (isDig c)) (by rw [len_S]; omega) (fun R h => ⟨_, rfl, h⟩) (fun x => rfl) ?_ ?_
          · intro c H2 R hR
            walk_at "x"
            simpa only [in_dig] using hR
          · intro D hD
            refine ⟨D, b.map isDig, rfl, SqL.of (by rw [upd_same, List.map_map]; rfl), ?_⟩
            have sm := Same.new (o := .lst ((S b).cps.toList.map fun c => .bl (isDig c))) hD
            rw [show (b.map isDig).all id = b.all isDig by rw [List.all_map]; rfl]
            rw [decide_eq_true h1, decide_eq_true h2] at ok hq'
            cases h3 : b.all isDig with
            | false =>
              rw [h3] at ok
              exact ⟨_, rfl, iteT (ok rfl _ sm)⟩
            | true =>
              rw [h3] at ok hq'
              refine ⟨_, rfl, iteF ?_⟩
              obtain ⟨g1, n, g2⟩ := hb h1 h2 h3
              have fin : okBody z.cps.toList = true → rIntW [V.str z] (upd H' D (.lst ((S b).cps.toList.map fun c => .bl (isDig c)))) Q := by
                intro h
                unfold okBody at h
                rw [hbd, decide_eq_true h1, decide_eq_true h2, h3] at h
                exact ⟨z, rfl, g1, by rw [sizeLine_eq]; omega, n, g2, hq' h n g2 _ sm⟩
              unfold okBody at fin
              rw [hbd, decide_eq_true h1, decide_eq_true h2, h3] at fin
              refine ⟨by rw [sizeLine_eq, len_S]; omega, ?_⟩
              cases b with
              | nil => simp at h1
              | cons c r =>
                refine ⟨c, atI_nat (j := 0) rfl, ?_⟩
                rw [zero_lit]
                have zl : (z = S [48]) = (z.cps.toList = [48]) := propext ⟨fun h => by rw [h]; rfl, fun h => by rw [← S_tl z, h]⟩
                by_cases hc : c = 48
                · subst hc
                  rw [if_pos (show (⟨#[48]⟩ : Str) = S [48] from rfl)]
                  by_cases h4 : z = S [48]
                  · rw [decide_eq_true h4]
                    refine iteF (fin ?_)
                    have := zl ▸ h4
                    rw [this]
                    rfl
                  · rw [decide_eq_false h4]
                    refine iteT (ok ?_ _ sm)
                    rw [zl] at h4
                    rw [decide_eq_false h4]
                    rfl
                · rw [if_neg (by rw [show (⟨#[c]⟩ : Str) = S [c] from rfl, S_inj]; simpa using hc)]
                  refine fin ?_
                  simp [hc]
        · rw [decide_eq_false (show ¬ (b.length : Int) ≤ 4000 by omega)]
          refine iteT (ok ?_ _ (Same.refl _))
          rw [decide_eq_false h2]
          simp
      · rw [if_neg (by omega)]
        refine ok ?_ _ (Same.refl _)
        rw [decide_eq_false h1]
        simp
end
end WW

set_option maxHeartbeats 4000000
namespace WW
open PySem PySem.Spec PyProof.Rows L2
local macro_rules | `(tactic| walk_at "x") => `(tactic| simp only [tSeq, tNext, tAsg, gName, tRet, tRetN, tIfS, tOp, tUn, rI, rI0, rU, tTest, tB, tAnd, tOr, tNot, tAndV, tOrV, tNotV, tIf, tCons, tNil, tTup, tLst, tCall, tCallS, tMeth, tMake, tFld, sFld, tBM, tBM0, tCB, tSl, tPart, tNoPart, tDrop, tPar, tPar3, tAug, ipI, gTup, gCons, gNil, gSub, rSetL, rAppend, rPop, rIxL, rIxS, rIxT, rEq, rNe, tChain, tNever, tThen, tVar, tC, L2.start, List.map_cons, List.map_nil, List.length_cons, List.length_nil, List.replicate_succ, List.replicate_zero, List.append_nil, List.nil_append, List.cons_append, Nat.reduceAdd, Nat.reduceSub, Nat.add_zero, Nat.zero_add, Nat.sub_zero, Nat.sub_self,
  List.getElem?_cons_zero, List.getElem?_cons_succ, Option.some.injEq, exists_eq_left', exists_eq_left, exists_eq', exists_eq, exists_and_left, List.set_cons_zero, List.set_cons_succ, V.int.injEq, V.bl.injEq, V.str.injEq, V.ref.injEq, V.ty.injEq, List.cons.injEq, and_true, true_and, and_assoc, if_true, if_false, Bool.false_eq_true, reduceCtorEq, false_and, and_false, exists_false, false_or, or_false, Bool.not_true, Bool.not_false, decide_eq_true_eq, ite_true, ite_false, WE, cxOf_K, cxOf_mg, rSlS, scal, wipe, mem_low, mem_dig, mem_brk, mem_brk4, sgn_inj, Bool.decide_eq_true])

/-- the pieces of a text, tok as begun -/
def pcs (tok : List Nat) : List Nat → List (List Nat)
  | [] => if tok = [] then [] else [tok]
  | c :: l => if isBrk c then (if tok = [] then [] else [tok]) ++ [c] :: pcs [] l else pcs (tok ++ [c]) l
def spPieces : Sp := fun vs H Q _ => ∃ z : Str, vs = [.str z] ∧ z.length ≤ 1000000 ∧ ∀ D H', Same H H' → H D = none → H' D = some (.lst ((pcs [] z.cps.toList).map fun p => .str (S p))) → Q (.ref D) H'
theorem pcs_nil (t : List Nat) : pcs t [] = if t = [] then [] else [t] := rfl
theorem pcs_cons (t : List Nat) (c : Nat) (l : List Nat) : pcs t (c :: l) = if isBrk c then (if t = [] then [] else [t]) ++ [c] :: pcs [] l else pcs (t ++ [c]) l := rfl
theorem tyLst {K : PySem.W.Frag} {H : Hp} {p : Addr} {xs : List V} (h : H p = some (.lst xs)) : tyV K "list" (.ref p) H := .inl ⟨rfl, _, SqL.of h⟩
def tokL (l : List Nat) (s i : Nat) : List Nat := (l.drop s).take (i - s)
theorem tok_len {l : List Nat} {s i : Nat} (hi : i ≤ l.length) : (tokL l s i).length = i - s := by
  unfold tokL
  rw [List.length_take, List.length_drop]
  omega
theorem tok_ne {l : List Nat} {s i : Nat} (hi : i ≤ l.length) (h : s < i) : tokL l s i ≠ [] := fun e => by
  have := tok_len (s := s) hi
  rw [e, List.length_nil] at this
  omega
theorem tok_nil {l : List Nat} {s i : Nat} (h : i ≤ s) : tokL l s i = [] := by
  unfold tokL
  rw [show i - s = 0 by omega, List.take_zero]
theorem tok_snoc {l : List Nat} {s i : Nat} {c : Nat} (h : s ≤ i) (e : l[i]? = some c) : tokL l s i ++ [c] = tokL l s (i + 1) := by
  unfold tokL
  rw [show i + 1 - s = (i - s) + 1 by omega, List.take_succ, List.getElem?_drop, show s + (i - s) = i by omega, e]
  rfl
theorem drop_at {α : Type} {l : List α} {i : Nat} {c : α} (e : l[i]? = some c) : l.drop i = c :: l.drop (i + 1) := by
  obtain ⟨h, e⟩ := List.getElem?_eq_some_iff.mp e
  rw [List.drop_eq_getElem_cons h, e]
def pcInv (z : Str) (H : Hp) (p : Addr) (i : Nat) (σ : L2.St) (H' : Hp) : Prop := Same H H' ∧ ∃ found start y3 y4, σ = [some (.str z), some (.ref p), some (.int ((start : Nat) : Int)), y3, y4] ∧ H' p = some (.lst (found.map fun q => .str (S q))) ∧ found.length ≤ 2 * i ∧ start ≤ i ∧
  pcs [] z.cps.toList = found ++ pcs (tokL z.cps.toList start i) (z.cps.toList.drop i)
section
variable {P : Program} {w : World} {K : PySem.W.Frag} {mg : Str → Option Value} {base : Heap}
theorem o_pieces_of (W : Wd fa fn K mg) : OkF P w K mg base d_pieces_of 1 ["text"] spPieces := by
  refine okf W (d := d_pieces_of) 5 sc_pieces_of rfl rfl (fun _ _ _ _ _ _ us hl => match us, hl with | [_], _ => rfl) ?len (fun cdv A outer s H vs Q E hr nd hu tk po h => ?body)
  case len =>
    rintro vs H Q E ⟨z, rfl, _⟩
    rfl
  case body =>
    refine ⟨_, (pss_cons (ps_par (i := 1) (j := 2) (by rfl) nd rfl rfl (by decide) rfl rfl (pa_cons (pe_lst pa_nil) (pa_cons pe_int pa_nil)) (by rfl))
    (pss_cons (ps_for po rfl (pi_enumS (by rfl) (W.free 18) (pa_cons (pv 0) pa_nil)) (pg_tup rfl (pgs_cons (pg_name (i := 3) nd rfl (by first | exact Or.inl rfl | exact Or.inr rfl)) (pgs_cons (pg_name (i := 4) nd rfl (by first | exact Or.inl rfl | exact Or.inr rfl)) pgs_nil)))
      (pss_one (ps_if (pt_cmpR op_in_sign (pv 4) pe_str (by rfl)) (pss_cons (ps_if (pt_cmpR op_lt (pv 2) (pv 3) (nomark _)) (pss_one (ps_expr (pe_bm PySem.F.plainAttrs_list PySem.F.slot_list_append PySem.F.type_list_append mt_append (pv 1) (pa_cons (pe_slice sl_str (pv 0) (po_some (pv 2)) (po_some (pv 3))) pa_nil)))) pss_nil)
    (pss_cons (ps_expr (pe_bm PySem.F.plainAttrs_list PySem.F.slot_list_append PySem.F.type_list_append mt_append (pv 1) (pa_cons (pv 4) pa_nil)))
    (pss_one (ps_set (i := 2) nd rfl (by first | exact Or.inl rfl | exact Or.inr rfl) (pe_op op_add (pv 3) pe_int))))) pss_nil)))
    (pss_one (ps_ret (pe_op op_cat (pv 1) (pe_ifExp (pt_cmpR op_lt (pv 2) (pe_callB call_len (by rfl) (W.free 6) (by decide +kernel) (pa_cons (pv 0) pa_nil)) (nomark _)) (pe_lst (pa_cons (pe_slice sl_str (pv 0) (po_some (pv 2)) po_none) pa_nil)) (pe_lst pa_nil))))))), ?_⟩
    obtain ⟨z, rfl, hz, hq⟩ := h
    clear tk po
    have el : z.length = z.cps.toList.length := rfl
    have es : z.cps.size = z.cps.toList.length := rfl
    walk_at "x"
    refine ⟨by decide, fun p hp => ?_⟩
    refine tFor_of (walk_enumS (z := z)) (H1 := upd H p (.lst [])) ?_ (pcInv z H p) ?_ (fun _ _ _ _ _ => trivial) ?_ ?_
    · intro R hR
      simp only [iEnumS]
      walk_at "x"
      exact hR
    · exact ⟨Same.new hp, [], 0, none, none, rfl, upd_same, by simp, by omega, by simp [tokL]⟩
    · rintro i v σ H1 H2 hi ⟨sm, found, start, y3, y4, rfl, h1, h2, h3, h4⟩ ⟨T, c, rfl, hT, hc, rfl⟩
      have hc' : z.cps.toList[i]? = some c := by simpa using hc
      walk_at "x"
      refine ⟨_, SqT.of upd_same, rfl, _, _, rfl, _, _, rfl, rfl, c, rfl, ?_⟩
      have hpT : p ≠ T := ne_of_none h1 hT
      have smT := Same.mut (o := .tup [.int (i : Nat), .str ⟨#[c]⟩]) sm (Same.none sm hT)
      have g1 : ∀ o, upd H1 T o p = some (.lst (found.map fun q => .str (S q))) := fun o => by rw [upd_ne hpT]; exact h1
      rw [drop_at hc'] at h4
      rw [es] at hi
      cases hb : isBrk c with
      | false =>
        refine iteF ?_
        refine ⟨smT, found, start, _, _, rfl, g1 _, by omega, by omega, ?_⟩
        rw [h4, pcs_cons, hb, tok_snoc h3 hc']
        rfl
      | true =>
        refine iteT ⟨_, rfl, ?_⟩
        have e1 : S [c] = ⟨#[c]⟩ := rfl
        by_cases hs : start < i
        · rw [if_pos (by omega)]
          refine ⟨tyLst (g1 _), _, rfl, by rw [sizeLine_eq]; omega, _, g1 _, by rw [List.length_map, sizeLine_eq]; omega, tyLst upd_same, _, upd_same, by rw [List.length_append, List.length_map, sizeLine_eq, List.length_singleton]; omega, _, rfl, ?_⟩
          have e2 := cut_mid z start i h3 (by omega)
          rw [e2, upd_upd, ← e1]
          refine ⟨Same.mut smT hp, found ++ [tokL z.cps.toList start i, [c]], i + 1, _, _, rfl, ?_, ?_, Nat.le_refl _, ?_⟩
          · rw [upd_same]
            simp [tokL]
          · simp; omega
          · rw [h4]
            conv => lhs; unfold pcs
            rw [hb, if_neg (tok_ne (by omega) hs), tok_nil (Nat.le_refl _)]
            simp
        · rw [if_neg (by omega)]
          refine ⟨tyLst (g1 _), _, g1 _, by rw [List.length_map, sizeLine_eq]; omega, _, rfl, ?_⟩
          rw [← e1]
          refine ⟨Same.mut smT hp, found ++ [[c]], i + 1, _, _, rfl, ?_, ?_, Nat.le_refl _, ?_⟩
          · rw [upd_same]
            simp
          · simp; omega
          · rw [h4]
            conv => lhs; unfold pcs
            rw [hb, tok_nil (show i ≤ start by omega), tok_nil (Nat.le_refl _)]
            simp
    · rintro σ H1 ⟨sm, found, start, y3, y4, rfl, h1, h2, h3, h4⟩
      walk_at "x"
      refine ⟨z.length, ⟨by rw [sizeLine_eq]; omega, rfl⟩, ?_⟩
      rw [es] at h2 h3 h4
      rw [List.drop_length] at h4
      rw [show ∀ t, pcs t [] = if t = [] then [] else [t] from pcs_nil] at h4
      by_cases hs : start < z.length
      · rw [if_pos (by omega)]
        refine ⟨by rw [sizeLine_eq]; omega, by decide, fun b hb => ?_⟩
        rw [cut_from z start]
        refine ⟨p, b, _, _, rfl, rfl, by rw [upd_ne (ne_of_none h1 hb)]; exact h1, upd_same, by rw [List.length_map, sizeLine_eq, List.length_singleton]; omega, fun r hr => ?_⟩
        have sb := Same.mut (o := .lst [.str (S (z.cps.toList.drop start))]) sm (Same.none sm hb)
        refine hq _ _ (Same.mut sb (Same.none sb hr)) (Same.none sb hr) ?_
        rw [upd_same, h4, if_neg (tok_ne (Nat.le_refl _) (by omega))]
        simp only [tokL, List.map_append, List.map_cons, List.map_nil]
        rw [List.take_of_length_le (by rw [List.length_drop]; exact Nat.le_refl _)]
      · rw [if_neg (by omega)]
        refine ⟨by decide, fun b hb => ?_⟩
        refine ⟨p, b, _, _, rfl, rfl, by rw [upd_ne (ne_of_none h1 hb)]; exact h1, upd_same, by rw [List.length_map, sizeLine_eq, List.length_nil]; omega, fun r hr => ?_⟩
        have sb := Same.mut (o := .lst []) sm (Same.none sm hb)
        refine hq _ _ (Same.mut sb (Same.none sb hr)) (Same.none sb hr) ?_
        rw [upd_same, h4, if_pos (tok_nil (by omega))]
        simp
end
end WW

set_option maxHeartbeats 4000000
namespace WW
open PySem PySem.Spec PyProof.Rows L2
local macro_rules | `(tactic| walk_at "x") => `(tactic| simp only [tSeq, tNext, tAsg, gName, tRet, tRetN, tIfS, tOp, tUn, rI, rI0, rU, tTest, tB, tAnd, tOr, tNot, tAndV, tOrV, tNotV, tIf, tCons, tNil, tTup, tLst, tCall, tCallS, tMeth, tMake, tFld, sFld, tBM, tBM0, tCB, tSl, tPart, tNoPart, tDrop, tPar, tPar3, tAug, ipI, gTup, gCons, gNil, gSub, rSetL, rAppend, rPop, rIxL, rIxS, rIxT, rEq, rNe, tChain, tNever, tThen, tVar, tC, L2.start, List.map_cons, List.map_nil, List.length_cons, List.length_nil, List.replicate_succ, List.replicate_zero, List.append_nil, List.nil_append, List.cons_append, Nat.reduceAdd, Nat.reduceSub, Nat.add_zero, Nat.zero_add, Nat.sub_zero, Nat.sub_self,
  List.getElem?_cons_zero, List.getElem?_cons_succ, Option.some.injEq, exists_eq_left', exists_eq_left, exists_eq', exists_eq, exists_and_left, List.set_cons_zero, List.set_cons_succ, V.int.injEq, V.bl.injEq, V.str.injEq, V.ref.injEq, V.ty.injEq, List.cons.injEq, and_true, true_and, and_assoc, if_true, if_false, Bool.false_eq_true, reduceCtorEq, false_and, and_false, exists_false, false_or, or_false, Bool.not_true, Bool.not_false, decide_eq_true_eq, ite_true, ite_false, WE, cxOf_K, cxOf_mg, rSlS, scal, wipe, mem_low, mem_dig, mem_brk, mem_brk4, sgn_inj, Bool.decide_eq_true])

/-! ### the reader, plain -/
structure RS where
  rows : List (List PyData)
  ready : Bool
  told : List PyData
def RS.item (s : RS) (d : PyData) : Option RS := if s.ready then (match s.rows with
  | row :: rest => some ⟨(row ++ [d]) :: rest, false, s.told⟩
  | [] => some ⟨[], false, s.told ++ [d]⟩) else none
def RS.open_ (s : RS) : Option RS := if s.ready && decide (s.rows.length < 1000) then some ⟨[] :: s.rows, s.ready, s.told⟩ else none
def RS.close (s : RS) : Option RS := match s.rows with
  | [] => none
  | row :: rest => if s.ready && decide (0 < row.length) then none else RS.item ⟨rest, true, s.told⟩ (.tuple row)
def RS.comma (s : RS) : Option RS := if s.ready || s.rows.isEmpty then none else some ⟨s.rows, true, s.told⟩
def atomR (p : List Nat) : Option PyData := if wordL p then some (.str (S p)) else (wholeL p).map .int
def RS.take (s : RS) (p : List Nat) : Option RS :=
  if p = [91] then s.open_ else if p = [93] then s.close else if p = [44] then s.comma else (atomR p).bind s.item
/-! ### the reader in the heap -/
def Row (K : PySem.W.Frag) (H : Hp) (n : Nat) (a : Addr) (ds : List PyData) : Prop := ∃ vs, H a = some (.lst vs) ∧ DpAll K H vs ds ∧ imm.immAll ds = true ∧ ds.length ≤ n
inductive RowsOk (K : PySem.W.Frag) (H : Hp) (n : Nat) : List Addr → List (List PyData) → Prop
  | nil : RowsOk K H n [] []
  | cons {a ds as dss} : Row K H n a ds → RowsOk K H n as dss → RowsOk K H n (a :: as) (ds :: dss)
structure Fs (fs : List (Str × V)) (T : Addr) (b : Bool) (L : Addr) : Prop where
  t : fs.lookup (Str.ofString "tuples") = some (V.ref T)
  r : fs.lookup (Str.ofString "ready") = some (V.bl b)
  l : fs.lookup (Str.ofString "told") = some (V.ref L)
  o : ∀ m : Str, m ≠ Str.ofString "tuples" → m ≠ Str.ofString "ready" → m ≠ Str.ofString "told" → fs.lookup m = none
structure RdB (K : PySem.W.Frag) (B : Hp) (n : Nat) (H : Hp) (r : Addr) (s : RS) (dx : Addr) (fs : List (Str × V)) (T L : Addr) (as : List Addr) : Prop where
  hr : H r = some (.ins (He.ga K "DataReader") dx fs)
  fs_ : Fs fs T s.ready L
  fl : fs.length < 100
  ht : H T = some (.lst (as.map V.ref).reverse)
  hl : Row K H n L s.told
  hs : RowsOk K H n as s.rows
  nd : (T :: L :: as).Nodup
  sm : Same B H
  br : B r = none
  bt : B T = none
  bl : B L = none
  bs : ∀ a ∈ as, B a = none
def Rd (K : PySem.W.Frag) (B : Hp) (n : Nat) (H : Hp) (r : Addr) (s : RS) : Prop := ∃ dx fs T L as, RdB K B n H r s dx fs T L as
theorem DpAll.tx {K : PySem.W.Frag} {H H' : Hp} {vs : List V} {ds : List PyData} (t : Tx H H') (i : imm.immAll ds = true) (h : DpAll K H vs ds) : DpAll K H' vs ds := Dp.txs t ds vs i h
theorem Row.tx {K : PySem.W.Frag} {H H' : Hp} {n : Nat} {a : Addr} {ds : List PyData} (t : Tx H H') (e : H' a = H a) (h : Row K H n a ds) : Row K H' (n + 1) a ds := by
  obtain ⟨vs, h1, h2, h3, h4⟩ := h
  exact ⟨vs, e.trans h1, DpAll.tx t h3 h2, h3, by omega⟩
theorem RowsOk.tx {K : PySem.W.Frag} {H H' : Hp} {n : Nat} {as : List Addr} {dss : List (List PyData)} (t : Tx H H') (e : ∀ a ∈ as, H' a = H a) (h : RowsOk K H n as dss) : RowsOk K H' (n + 1) as dss := by
  induction h with
  | nil => exact .nil
  | cons h1 h2 ih => exact .cons (h1.tx t (e _ (List.mem_cons_self ..))) (ih fun a ha => e a (List.mem_cons_of_mem _ ha))
theorem RowsOk.len {K : PySem.W.Frag} {H : Hp} {n : Nat} {as : List Addr} {dss : List (List PyData)} (h : RowsOk K H n as dss) : as.length = dss.length := by
  induction h with
  | nil => rfl
  | cons _ _ ih => rw [List.length_cons, List.length_cons, ih]
theorem RowsOk.some {K : PySem.W.Frag} {H : Hp} {n : Nat} {as : List Addr} {dss : List (List PyData)} (h : RowsOk K H n as dss) : ∀ a ∈ as, ∃ vs, H a = some (.lst vs) := by
  induction h with
  | nil => intro a ha; cases ha
  | cons h1 _ ih =>
    intro a ha
    rcases List.mem_cons.mp ha with rfl | ha
    · exact ⟨_, h1.choose_spec.1⟩
    · exact ih a ha
/-- the instance is none of the lists -/
theorem ne_ins {H : Hp} {a b C dx : Addr} {fs : List (Str × V)} {xs : List V} (h : H a = some (.ins C dx fs)) (g : H b = some (.lst xs)) : a ≠ b := by
  rintro rfl
  rw [h] at g
  cases g
theorem noTup_l {xs : List V} : noTup (.lst xs) := trivial
theorem noTup_i {C dx : Addr} {fs : List (Str × V)} : noTup (.ins C dx fs) := trivial
theorem len_putF {f : Str} {v : V} : ∀ fs : List (Str × V), (fs.lookup f).isSome = true → (putF f v fs).length = fs.length
  | [], h => by cases h
  | (g, x) :: r, h => by
    unfold putF
    by_cases e : g = f
    · rw [if_pos e]; rfl
    · rw [if_neg e, List.length_cons, List.length_cons]
      have e2 : (f == g) = false := by
        cases q : f == g with
        | false => rfl
        | true => exact absurd (eq_of_beq q).symm e
      rw [List.lookup_cons, e2] at h
      rw [len_putF r h]
/-- a field of the instance is set -/
theorem Fs.ready {fs : List (Str × V)} {T L : Addr} {b b' : Bool} (h : Fs fs T b L) : Fs (putF "ready" (.bl b') fs) T b' L :=
  ⟨by rw [lookup_putF, if_neg (by decide)]; exact h.t, by rw [lookup_putF, if_pos rfl], by rw [lookup_putF, if_neg (by decide)]; exact h.l, fun m a b c => by rw [lookup_putF, if_neg b]; exact h.o m a b c⟩
section
variable {K : PySem.W.Frag} {B H : Hp} {n : Nat} {r dx T L : Addr} {s : RS} {fs : List (Str × V)} {as : List Addr}
theorem RdB.r_t (h : RdB K B n H r s dx fs T L as) : r ≠ T := ne_ins h.hr h.ht
theorem RdB.r_l (h : RdB K B n H r s dx fs T L as) : r ≠ L := ne_ins h.hr h.hl.choose_spec.1
theorem RdB.r_s (h : RdB K B n H r s dx fs T L as) : ∀ a ∈ as, r ≠ a := fun a ha => by
  obtain ⟨vs, e⟩ := h.hs.some a ha
  exact ne_ins h.hr e
theorem RdB.t_l (h : RdB K B n H r s dx fs T L as) : T ≠ L := fun e => (List.nodup_cons.mp h.nd).1 (e ▸ List.mem_cons_self ..)
theorem RdB.t_s (h : RdB K B n H r s dx fs T L as) : ∀ a ∈ as, T ≠ a := fun a ha e => (List.nodup_cons.mp h.nd).1 (e ▸ List.mem_cons_of_mem _ ha)
theorem RdB.l_s (h : RdB K B n H r s dx fs T L as) : ∀ a ∈ as, L ≠ a := fun a ha e => (List.nodup_cons.mp (List.nodup_cons.mp h.nd).2).1 (e ▸ ha)
/-- another ready -/
theorem RdB.ready (h : RdB K B n H r s dx fs T L as) (b : Bool) : RdB K B (n + 1) (upd H r (.ins (He.ga K "DataReader") dx (putF "ready" (.bl b) fs))) r ⟨s.rows, b, s.told⟩ dx (putF "ready" (.bl b) fs) T L as := by
  have t : Tx H (upd H r (.ins (He.ga K "DataReader") dx (putF "ready" (.bl b) fs))) := Tx.up h.hr noTup_i
  refine ⟨upd_same, h.fs_.ready, ?_, ?_, h.hl.tx t (upd_ne h.r_l.symm), h.hs.tx t fun a ha => upd_ne (h.r_s a ha).symm, h.nd, Same.mut h.sm h.br, h.br, h.bt, h.bl, h.bs⟩
  · rw [len_putF fs (by rw [h.fs_.r]; rfl)]
    exact h.fl
  · rw [upd_ne h.r_t.symm]
    exact h.ht
theorem RowsOk.nx {as : List Addr} {dss : List (List PyData)} (h : RowsOk K H n as dss) : RowsOk K H (n + 1) as dss := h.tx (Tx.refl _) fun _ _ => rfl
/-- something new aside -/
theorem RdB.aside (h : RdB K B n H r s dx fs T L as) {p : Addr} {o : HO} (e : H p = none) : RdB K B (n + 1) (upd H p o) r s dx fs T L as := by
  have t : Tx H (upd H p o) := Tx.nw e
  obtain ⟨vs, hv, _⟩ := id h.hl
  refine ⟨by rw [upd_ne (ne_of_none h.hr e)]; exact h.hr, h.fs_, h.fl, by rw [upd_ne (ne_of_none h.ht e)]; exact h.ht, h.hl.tx t (upd_ne (ne_of_none hv e)), h.hs.tx t fun a ha => ?_, h.nd, Same.mut h.sm (Same.none h.sm e), h.br, h.bt, h.bl, h.bs⟩
  obtain ⟨us, hu⟩ := h.hs.some a ha
  exact upd_ne (ne_of_none hu e)
end
end WW

set_option maxHeartbeats 4000000
namespace WW
open PySem PySem.Spec PyProof.Rows L2
local macro_rules | `(tactic| walk_at "x") => `(tactic| simp only [tSeq, tNext, tAsg, gName, tRet, tRetN, tIfS, tOp, tUn, rI, rI0, rU, tTest, tB, tAnd, tOr, tNot, tAndV, tOrV, tNotV, tIf, tCons, tNil, tTup, tLst, tCall, tCallS, tMeth, tMake, tFld, sFld, tBM, tBM0, tCB, tSl, tPart, tNoPart, tDrop, tPar, tPar3, tAug, ipI, gTup, gCons, gNil, gSub, rSetL, rAppend, rPop, rIxL, rIxS, rIxT, rEq, rNe, tChain, tNever, tThen, tVar, tC, L2.start, List.map_cons, List.map_nil, List.length_cons, List.length_nil, List.replicate_succ, List.replicate_zero, List.append_nil, List.nil_append, List.cons_append, Nat.reduceAdd, Nat.reduceSub, Nat.add_zero, Nat.zero_add, Nat.sub_zero, Nat.sub_self,
  List.getElem?_cons_zero, List.getElem?_cons_succ, Option.some.injEq, exists_eq_left', exists_eq_left, exists_eq', exists_eq, exists_and_left, List.set_cons_zero, List.set_cons_succ, V.int.injEq, V.bl.injEq, V.str.injEq, V.ref.injEq, V.ty.injEq, List.cons.injEq, and_true, true_and, and_assoc, if_true, if_false, Bool.false_eq_true, reduceCtorEq, false_and, and_false, exists_false, false_or, or_false, Bool.not_true, Bool.not_false, decide_eq_true_eq, ite_true, ite_false, WE, cxOf_K, cxOf_mg, rSlS, scal, wipe, mem_low, mem_dig, mem_brk, mem_brk4, sgn_inj, Bool.decide_eq_true])

section
variable {K : PySem.W.Frag} {B H : Hp} {n : Nat} {r dx T L : Addr} {s : RS} {fs : List (Str × V)} {as : List Addr}
theorem immAll_snoc {ds : List PyData} {d : PyData} (h : imm.immAll ds = true) (hi : imm d = true) : imm.immAll (ds ++ [d]) = true := by
  rw [immAll_app, h]
  simp [imm.immAll, hi]
/-- one more in a list -/
theorem Row.add {a : Addr} {vs : List V} {v : V} {ds : List PyData} {d : PyData} (h : Row K H n a ds) (hv : H a = some (.lst vs)) (hd : Dp K H v d) (hi : imm d = true) : Row K (upd H a (.lst (vs ++ [v]))) (n + 1) a (ds ++ [d]) := by
  obtain ⟨us, h1, h2, h3, h4⟩ := h
  rw [hv] at h1
  cases h1
  have t : Tx H (upd H a (.lst (vs ++ [v]))) := Tx.up hv noTup_l
  exact ⟨_, upd_same, DpAll.app (DpAll.tx t h3 h2) (.cons (Dp.tx t _ _ hi hd) .nil), immAll_snoc h3 hi, by rw [List.length_append]; exact Nat.succ_le_succ h4⟩
theorem RdB.toldAdd (g : RdB K B n H r s dx fs T L as) {vs : List V} {v : V} {d : PyData} (hv : H L = some (.lst vs)) (hd : Dp K H v d) (hi : imm d = true) : RdB K B (n + 1) (upd H L (.lst (vs ++ [v]))) r ⟨s.rows, s.ready, s.told ++ [d]⟩ dx fs T L as := by
  have t : Tx H (upd H L (.lst (vs ++ [v]))) := Tx.up hv noTup_l
  exact ⟨by rw [upd_ne g.r_l]; exact g.hr, g.fs_, g.fl, by rw [upd_ne g.t_l]; exact g.ht, g.hl.add hv hd hi, g.hs.tx t fun a ha => upd_ne (g.l_s a ha).symm, g.nd, Same.mut g.sm g.bl, g.br, g.bt, g.bl, g.bs⟩
theorem RdB.rowAdd {a : Addr} {row : List PyData} {rest : List (List PyData)} {b : Bool} {told : List PyData} (g : RdB K B n H r ⟨row :: rest, b, told⟩ dx fs T L (a :: as)) {vs : List V} {v : V} {d : PyData} (hv : H a = some (.lst vs)) (hd : Dp K H v d) (hi : imm d = true) :
    RdB K B (n + 1) (upd H a (.lst (vs ++ [v]))) r ⟨(row ++ [d]) :: rest, b, told⟩ dx fs T L (a :: as) := by
  have t : Tx H (upd H a (.lst (vs ++ [v]))) := Tx.up hv noTup_l
  obtain ⟨h1, h2⟩ : Row K H n a row ∧ RowsOk K H n as rest := by
    cases g.hs with
    | cons h1 h2 => exact ⟨h1, h2⟩
  have na : a ∉ as := (List.nodup_cons.mp (List.nodup_cons.mp (List.nodup_cons.mp g.nd).2).2).1
  refine ⟨by rw [upd_ne (g.r_s a (List.mem_cons_self ..))]; exact g.hr, g.fs_, g.fl, by rw [upd_ne (g.t_s a (List.mem_cons_self ..))]; exact g.ht, g.hl.tx t (upd_ne (g.l_s a (List.mem_cons_self ..))), ?_, g.nd, Same.mut g.sm (g.bs a (List.mem_cons_self ..)), g.br, g.bt, g.bl, g.bs⟩
  exact .cons (h1.add hv hd hi) (h2.tx t fun c hc => upd_ne fun e => na (e ▸ hc))
theorem RdB.popRow {a : Addr} {row : List PyData} {rest : List (List PyData)} {b : Bool} {told : List PyData} (g : RdB K B n H r ⟨row :: rest, b, told⟩ dx fs T L (a :: as)) :
    RdB K B (n + 1) (upd H T (.lst (as.map V.ref).reverse)) r ⟨rest, b, told⟩ dx fs T L as := by
  have t : Tx H (upd H T (.lst (as.map V.ref).reverse)) := Tx.up g.ht noTup_l
  obtain ⟨h1, h2⟩ : Row K H n a row ∧ RowsOk K H n as rest := by
    cases g.hs with
    | cons h1 h2 => exact ⟨h1, h2⟩
  have nd2 := g.nd
  refine ⟨by rw [upd_ne g.r_t]; exact g.hr, g.fs_, g.fl, upd_same, g.hl.tx t (upd_ne g.t_l.symm), h2.tx t fun c hc => upd_ne (g.t_s c (List.mem_cons_of_mem _ hc)).symm, ?_, Same.mut g.sm g.bt, g.br, g.bt, g.bl, fun c hc => g.bs c (List.mem_cons_of_mem _ hc)⟩
  simp only [List.nodup_cons, List.mem_cons, not_or] at nd2 ⊢
  exact ⟨⟨nd2.1.1, nd2.1.2.2⟩, nd2.2.1.2, nd2.2.2.2⟩
theorem last_ref {a : Addr} {as : List Addr} : atI (((a :: as).map V.ref).reverse) (-1) = some (.ref a) := by
  rw [List.map_cons, List.reverse_cons]
  exact atI_last _ _
end
theorem Row.up {K : PySem.W.Frag} {H : Hp} {n m : Nat} {a : Addr} {ds : List PyData} (h : n ≤ m) (q : Row K H n a ds) : Row K H m a ds := by
  obtain ⟨vs, q1, q2, q3, q4⟩ := q
  exact ⟨vs, q1, q2, q3, by omega⟩
theorem RowsOk.up {K : PySem.W.Frag} {H : Hp} {n m : Nat} {as : List Addr} {dss : List (List PyData)} (h : n ≤ m) (q : RowsOk K H n as dss) : RowsOk K H m as dss := by
  induction q with
  | nil => exact .nil
  | cons a b ih => exact .cons (a.up h) ih
theorem RdB.up {K : PySem.W.Frag} {B H : Hp} {n m : Nat} {r dx T L : Addr} {s : RS} {fs : List (Str × V)} {as : List Addr} (h : n ≤ m) (g : RdB K B n H r s dx fs T L as) : RdB K B m H r s dx fs T L as :=
  ⟨g.hr, g.fs_, g.fl, g.ht, g.hl.up h, g.hs.up h, g.nd, g.sm, g.br, g.bt, g.bl, g.bs⟩
def spInit (K : PySem.W.Frag) : Sp := fun vs H Q _ => ∃ r B dx, vs = [.ref r] ∧ H r = some (.ins (He.ga K "DataReader") dx []) ∧ Same B H ∧ B r = none ∧ ∀ H', Rd K B 0 H' r ⟨[], true, []⟩ → Q .non H'
def mal (K : PySem.W.Frag) : Value := .ref (He.ga K "Malformed")
/-- what a method of the reader answers -/
def Ans (K : PySem.W.Frag) (B : Hp) (n : Nat) (r : Addr) (Q : VK) (E : XK) : Option RS → Prop
  | some s => ∀ H', Rd K B n H' r s → Q .non H'
  | none => ∀ H', Same B H' → E (mal K) none H'
def spItem (K : PySem.W.Frag) : Sp := fun vs H Q E => ∃ r v d B n s, vs = [.ref r, v] ∧ n ≤ 1000000 ∧ Rd K B n H r s ∧ Dp K H v d ∧ imm d = true ∧ Ans K B (n + 2) r Q E (s.item d)
def spOne (K : PySem.W.Frag) (f : RS → Option RS) : Sp := fun vs H Q E => ∃ r B n s, vs = [.ref r] ∧ n ≤ 900000 ∧ Rd K B n H r s ∧ Ans K B (n + 6) r Q E (f s)
section
variable {P : Program} {w : World} {K : PySem.W.Frag} {mg : Str → Option Value} {base : Heap}
theorem o_DataReader___init__ (W : Wd fa fn K mg) : OkF P w K mg base d_DataReader___init__ 1 ["self"] (spInit K) := by
  refine okf W (d := d_DataReader___init__) 6 sc_DataReader___init__ rfl rfl (fun _ _ _ _ _ _ us hl => match us, hl with | [_], _ => rfl) ?len (fun cdv A outer s H vs Q E hr nd hu tk po h => ?body)
  case len =>
    rintro vs H Q E ⟨r, B, dx, rfl, _⟩
    rfl
  case body =>
    refine ⟨_, (pss_cons (ps_fld (pv 0) (pe_lst pa_nil) rfl)
    (pss_cons (ps_fld (pv 0) pe_bl rfl)
    (pss_one (ps_fld (pv 0) (pe_lst pa_nil) rfl)))), ?_⟩
    obtain ⟨r, B, dx, rfl, h1, sm, br, hq⟩ := h
    clear tk po
    walk_at "x"
    refine ⟨by decide, fun T hT => ?_⟩
    have n1 : r ≠ T := ne_of_none h1 hT
    simp only [tSeq, tNext, tAsg, gName, tRet, tRetN, tIfS, tOp, tUn, rI, rI0, rU, tTest, tB, tAnd, tOr, tNot, tAndV, tOrV, tNotV, tIf, tCons, tNil, tTup, tLst, tCall, tCallS, tMeth, tMake, tFld, sFld, tBM, tBM0, tCB, tSl, tPart, tNoPart, tDrop, tPar, tPar3, tAug, ipI, gTup, gCons, gNil, gSub, rSetL, rAppend, rPop, rIxL, rIxS, rIxT, rEq, rNe, tChain, tNever, tThen, tVar, tC, L2.start, List.map_cons, List.map_nil, List.length_cons, List.length_nil, List.replicate_succ, List.replicate_zero, List.append_nil, List.nil_append, List.cons_append, Nat.reduceAdd, Nat.reduceSub, Nat.add_zero, Nat.zero_add, Nat.sub_zero, Nat.sub_self,
  List.getElem?_cons_zero, List.getElem?_cons_succ, Option.some.injEq, exists_eq_left', exists_eq_left, exists_eq', exists_eq, exists_and_left, List.set_cons_zero, List.set_cons_succ, V.int.injEq, V.bl.injEq, V.str.injEq, V.ref.injEq, V.ty.injEq, List.cons.injEq, and_true, true_and, and_assoc, if_true, if_false, Bool.false_eq_true, reduceCtorEq, false_and, and_false, exists_false, false_or, or_false, Bool.not_true, Bool.not_false, decide_eq_true_eq, ite_true, ite_false, WE, cxOf_K, cxOf_mg, rSlS, scal, wipe, mem_low, mem_dig, mem_brk, mem_brk4, sgn_inj, Bool.decide_eq_true, HO.ins.injEq, HO.lst.injEq, HO.tup.injEq, upd_same, ne_eq, not_false_eq_true, h1, upd_ne n1, upd_ne n1.symm]
    refine ⟨W.cls 19, W.noat 42, by decide, W.cls 19, W.noat 43, Nat.lt_of_le_of_lt (length_putF _ _ _) (by decide), by decide, fun L hL => ?_⟩
    have n2 : L ≠ r := by rintro rfl; rw [upd_same] at hL; cases hL
    rw [upd_ne n2, upd_ne n2] at hL
    have n3 : L ≠ T := by rintro rfl; rw [upd_same] at hL; cases hL
    rw [upd_ne n3] at hL
    rw [upd_ne n2.symm, upd_same]
    refine ⟨_, _, _, rfl, W.cls 19, W.noat 44, Nat.lt_of_le_of_lt (Nat.le_trans (length_putF _ _ _) (Nat.succ_le_succ (length_putF _ _ _))) (by decide), hq _ ⟨dx, putF "told" (.ref L) (putF "ready" (.bl true) (putF "tuples" (.ref T) [])), T, L, [], ?_⟩⟩
    have bT := Same.none sm hT
    have bL := Same.none sm hL
    refine ⟨upd_same, ⟨by rw [lookup_putF, if_neg (by decide), lookup_putF, if_neg (by decide), lookup_putF, if_pos rfl], by rw [lookup_putF, if_neg (by decide), lookup_putF, if_pos rfl], by rw [lookup_putF, if_pos rfl], fun m a b c => by rw [lookup_putF, if_neg c, lookup_putF, if_neg b, lookup_putF, if_neg a]; rfl⟩, Nat.lt_of_le_of_lt (Nat.le_trans (length_putF _ _ _) (Nat.succ_le_succ (Nat.le_trans (length_putF _ _ _) (Nat.succ_le_succ (length_putF _ _ _))))) (by decide), ?_, ⟨[], ?_, .nil, rfl, Nat.zero_le _⟩, .nil, ?_, ?_, br, bT, bL, fun _ h => nomatch h⟩
    · rw [upd_ne n1.symm, upd_ne n3.symm, upd_ne n1.symm, upd_ne n1.symm, upd_same]
      rfl
    · rw [upd_ne n2, upd_same]
    · simp [n3.symm]
    · exact Same.mut (Same.mut (Same.mut (Same.mut (Same.mut sm bT) br) br) bL) br
theorem o_DataReader_item (W : Wd fa fn K mg) : OkF P w K mg base d_DataReader_item 1 ["self", "value"] (spItem K) := by
  refine okf W (d := d_DataReader_item) 7 sc_DataReader_item rfl rfl (fun _ _ _ _ _ _ us hl => match us, hl with | [_, _], _ => rfl) ?len (fun cdv A outer s H vs Q E hr nd hu tk po h => ?body)
  case len =>
    rintro vs H Q E ⟨a, b, _, _, _, _, rfl, _⟩
    rfl
  case body =>
    refine ⟨_, (pss_cons (ps_if (pt_not (pt_val (pe_fld (pv 0) rfl))) (pss_one (ps_raise rfl tk (W.pmk 16 17 rfl))) pss_nil)
    (pss_cons (ps_if (pt_cmpR op_gt (pe_callB call_len (by rfl) (W.free 6) (by decide +kernel) (pa_cons (pe_fld (pv 0) rfl) pa_nil)) pe_int (nomark _)) (pss_one (ps_expr (pe_bm PySem.F.plainAttrs_list PySem.F.slot_list_append PySem.F.type_list_append mt_append (pe_ix ix_list (pe_fld (pv 0) rfl) (pe_un un_neg pe_int) (fun _ _ => rfl)) (pa_cons (pv 1) pa_nil)))) (pss_one (ps_expr (pe_bm PySem.F.plainAttrs_list PySem.F.slot_list_append PySem.F.type_list_append mt_append (pe_fld (pv 0) rfl) (pa_cons (pv 1) pa_nil)))))
    (pss_one (ps_fld (pv 0) pe_bl rfl)))), ?_⟩
    obtain ⟨r, v, d, B, n, s, rfl, hn, ⟨dx, fs, T, L, as, g⟩, hd, hi, ha⟩ := h
    clear tk po
    have cl := W.cls (x := "DataReader") 19
    have na1 := W.noat (x := "DataReader") (f := "tuples") 42
    have na2 := W.noat (x := "DataReader") (f := "ready") 43
    have na3 := W.noat (x := "DataReader") (f := "told") 44
    simp only [tSeq, tNext, tAsg, gName, tRet, tRetN, tIfS, tOp, tUn, rI, rI0, rU, tTest, tB, tAnd, tOr, tNot, tAndV, tOrV, tNotV, tIf, tCons, tNil, tTup, tLst, tCall, tCallS, tMeth, tMake, tFld, sFld, tBM, tBM0, tCB, tSl, tPart, tNoPart, tDrop, tPar, tPar3, tAug, ipI, gTup, gCons, gNil, gSub, rSetL, rAppend, rPop, rIxL, rIxS, rIxT, rEq, rNe, tChain, tNever, tThen, tVar, tC, L2.start, List.map_cons, List.map_nil, List.length_cons, List.length_nil, List.replicate_succ, List.replicate_zero, List.append_nil, List.nil_append, List.cons_append, Nat.reduceAdd, Nat.reduceSub, Nat.add_zero, Nat.zero_add, Nat.sub_zero, Nat.sub_self,
  List.getElem?_cons_zero, List.getElem?_cons_succ, Option.some.injEq, exists_eq_left', exists_eq_left, exists_eq', exists_eq, exists_and_left, List.set_cons_zero, List.set_cons_succ, V.int.injEq, V.bl.injEq, V.str.injEq, V.ref.injEq, V.ty.injEq, List.cons.injEq, and_true, true_and, and_assoc, if_true, if_false, Bool.false_eq_true, reduceCtorEq, false_and, and_false, exists_false, false_or, or_false, Bool.not_true, Bool.not_false, decide_eq_true_eq, ite_true, ite_false, WE, cxOf_K, cxOf_mg, rSlS, scal, wipe, mem_low, mem_dig, mem_brk, mem_brk4, sgn_inj, Bool.decide_eq_true, HO.ins.injEq, HO.lst.injEq, HO.tup.injEq, upd_same, ne_eq, not_false_eq_true, g.hr, cl, na1, na2, na3, g.fs_.t, g.fs_.r, g.fs_.l]
    cases hb : s.ready with
    | false =>
      refine iteT ?_
      simp only [RS.item, hb] at ha
      exact ha H g.sm
    | true =>
      refine iteF ?_
      obtain ⟨rows, rd, told⟩ := s
      simp only at hb
      subst hb
      have ln := g.hs.len
      simp only at ln
      refine ⟨as.length, .inl ⟨_, SqL.of g.ht, by simp⟩, ?_⟩
      have g' := id g
      cases rows with
      | nil =>
        rw [if_neg (by rw [ln]; decide)]
        obtain ⟨vs, hv, h2, h3, h4⟩ := id g.hl
        simp only at h4 h2
        have hl := DpAll.length h2
        refine ⟨tyLst hv, vs, hv, by rw [hl, sizeLine_eq]; omega, ?_⟩
        rw [upd_ne g.r_l]
        refine ⟨_, _, _, g.hr, cl, na2, by have := g.fl; omega, ?_⟩
        exact ha _ ⟨_, _, _, _, _, (g.toldAdd hv hd hi).ready false⟩
      | cons row rest =>
        rw [if_pos (by rw [ln, List.length_cons]; omega)]
        obtain ⟨a, as', rfl⟩ : ∃ a as', as = a :: as' := by
          cases as with
          | nil => simp at ln
          | cons a as' => exact ⟨a, as', rfl⟩
        obtain ⟨vs, hv, h2, h3, h4⟩ : Row K H n a row := by
          cases g.hs with
          | cons h1 h2 => exact h1
        have hl := DpAll.length h2
        refine ⟨_, SqL.of g.ht, _, last_ref, tyLst hv, a, rfl, vs, hv, by rw [hl, sizeLine_eq]; omega, ?_⟩
        rw [upd_ne (g.r_s a (List.mem_cons_self ..))]
        refine ⟨_, _, _, g.hr, cl, na2, by have := g.fl; omega, ?_⟩
        exact ha _ ⟨_, _, _, _, _, (g.rowAdd hv hd hi).ready false⟩
theorem o_DataReader_open_one (W : Wd fa fn K mg) : OkF P w K mg base d_DataReader_open_one 1 ["self"] (spOne K RS.open_) := by
  refine okf W (d := d_DataReader_open_one) 8 sc_DataReader_open_one rfl rfl (fun _ _ _ _ _ _ us hl => match us, hl with | [_], _ => rfl) ?len (fun cdv A outer s H vs Q E hr nd hu tk po h => ?body)
  case len =>
    rintro vs H Q E ⟨a, _, _, _, rfl, _⟩
    rfl
  case body =>
    refine ⟨_, (pss_cons (ps_if (PW.pt (pw_or (pt_not (pt_val (pe_fld (pv 0) rfl))) (pw_or1 (pt_cmpR op_ge (pe_callB call_len (by rfl) (W.free 6) (by decide +kernel) (pa_cons (pe_fld (pv 0) rfl) pa_nil)) (C8.pe_gc rfl (W.intV 12)) (nomark _))))) (pss_one (ps_raise rfl tk (W.pmk 16 17 rfl))) pss_nil)
    (pss_one (ps_expr (pe_bm PySem.F.plainAttrs_list PySem.F.slot_list_append PySem.F.type_list_append mt_append (pe_fld (pv 0) rfl) (pa_cons (pe_lst pa_nil) pa_nil))))), ?_⟩
    obtain ⟨r, B, n, s, rfl, hn, ⟨dx, fs, T, L, as, g⟩, ha⟩ := h
    clear tk po
    have cl := W.cls (x := "DataReader") 19
    have na1 := W.noat (x := "DataReader") (f := "tuples") 42
    have na2 := W.noat (x := "DataReader") (f := "ready") 43
    have na3 := W.noat (x := "DataReader") (f := "told") 44
    simp only [tSeq, tNext, tAsg, gName, tRet, tRetN, tIfS, tOp, tUn, rI, rI0, rU, tTest, tB, tAnd, tOr, tNot, tAndV, tOrV, tNotV, tIf, tCons, tNil, tTup, tLst, tCall, tCallS, tMeth, tMake, tFld, sFld, tBM, tBM0, tCB, tSl, tPart, tNoPart, tDrop, tPar, tPar3, tAug, ipI, gTup, gCons, gNil, gSub, rSetL, rAppend, rPop, rIxL, rIxS, rIxT, rEq, rNe, tChain, tNever, tThen, tVar, tC, L2.start, List.map_cons, List.map_nil, List.length_cons, List.length_nil, List.replicate_succ, List.replicate_zero, List.append_nil, List.nil_append, List.cons_append, Nat.reduceAdd, Nat.reduceSub, Nat.add_zero, Nat.zero_add, Nat.sub_zero, Nat.sub_self,
  List.getElem?_cons_zero, List.getElem?_cons_succ, Option.some.injEq, exists_eq_left', exists_eq_left, exists_eq', exists_eq, exists_and_left, List.set_cons_zero, List.set_cons_succ, V.int.injEq, V.bl.injEq, V.str.injEq, V.ref.injEq, V.ty.injEq, List.cons.injEq, and_true, true_and, and_assoc, if_true, if_false, Bool.false_eq_true, reduceCtorEq, false_and, and_false, exists_false, false_or, or_false, Bool.not_true, Bool.not_false, decide_eq_true_eq, ite_true, ite_false, WE, cxOf_K, cxOf_mg, rSlS, scal, wipe, mem_low, mem_dig, mem_brk, mem_brk4, sgn_inj, Bool.decide_eq_true, HO.ins.injEq, HO.lst.injEq, HO.tup.injEq, upd_same, ne_eq, not_false_eq_true, g.hr, cl, na1, na2, na3, g.fs_.t, g.fs_.r, g.fs_.l]
    cases hb : s.ready with
    | false =>
      refine iteT ?_
      simp only [RS.open_, hb] at ha
      exact ha H g.sm
    | true =>
      refine iteF ?_
      have ln := g.hs.len
      refine ⟨as.length, .inl ⟨_, SqL.of g.ht, by simp⟩, ?_⟩
      simp only [RS.open_, hb, Bool.true_and] at ha
      by_cases h1 : s.rows.length < 1000
      · rw [if_neg (by omega)]
        rw [decide_eq_true h1] at ha
        refine ⟨tyLst g.ht, by decide, fun p hp => ?_⟩
        have np : T ≠ p := ne_of_none g.ht hp
        rw [upd_ne np]
        refine ⟨_, g.ht, by simp only [List.length_reverse, List.length_map, sizeLine_eq]; omega, ?_⟩
        have g1 := g.aside (o := .lst []) hp
        have bp := Same.none g.sm hp
        have pl : p ≠ L := by
          obtain ⟨vs, hv, _⟩ := g.hl
          exact (ne_of_none hv hp).symm
        have ps : ∀ a ∈ as, p ≠ a := fun a ha => by
          obtain ⟨vs, hv⟩ := g.hs.some a ha
          exact (ne_of_none hv hp).symm
        have t : Tx (upd H p (.lst [])) (upd (upd H p (.lst [])) T (.lst ((as.map V.ref).reverse ++ [.ref p]))) := Tx.up g1.ht noTup_l
        refine ha _ ⟨dx, fs, T, L, p :: as, ?_⟩
        have e1 : ∀ (H' : Hp) (m : Nat), H' p = some (.lst []) → Row K H' m p [] := fun H' m e => ⟨[], e, .nil, rfl, Nat.zero_le _⟩
        have l1 := g1.hl.tx t (upd_ne g1.t_l.symm)
        have s1 := g1.hs.tx t fun a ha => upd_ne (g1.t_s a ha).symm
        refine ⟨by rw [upd_ne g1.r_t]; exact g1.hr, by have q := g.fs_; rw [hb] at q; exact q, g.fl, ?_, l1.up (by omega), .cons (e1 _ _ (by rw [upd_ne np.symm, upd_same])) (s1.up (by omega)), ?_, Same.mut g1.sm g.bt, g.br, g.bt, g.bl, fun a ha => ?_⟩
        · rw [upd_same]
          simp
        · refine List.nodup_cons.mpr ⟨fun h => ?_, List.nodup_cons.mpr ⟨fun h => ?_, List.nodup_cons.mpr ⟨fun h => ps p h rfl, (List.nodup_cons.mp (List.nodup_cons.mp g.nd).2).2⟩⟩⟩
          · rcases List.mem_cons.mp h with h | h
            · exact g.t_l h
            · rcases List.mem_cons.mp h with h | h
              · exact np h
              · exact g.t_s _ h rfl
          · rcases List.mem_cons.mp h with h | h
            · exact pl h.symm
            · exact g.l_s _ h rfl
        · rcases List.mem_cons.mp ha with rfl | ha
          · exact bp
          · exact g.bs a ha
      · rw [if_pos (by omega)]
        rw [decide_eq_false h1] at ha
        exact ha H g.sm
theorem o_DataReader_comma (W : Wd fa fn K mg) : OkF P w K mg base d_DataReader_comma 1 ["self"] (spOne K RS.comma) := by
  refine okf W (d := d_DataReader_comma) 10 sc_DataReader_comma rfl rfl (fun _ _ _ _ _ _ us hl => match us, hl with | [_], _ => rfl) ?len (fun cdv A outer s H vs Q E hr nd hu tk po h => ?body)
  case len =>
    rintro vs H Q E ⟨a, _, _, _, rfl, _⟩
    rfl
  case body =>
    refine ⟨_, (pss_cons (ps_if (PW.pt (pw_or (pt_val (pe_fld (pv 0) rfl)) (pw_or1 (pt_cmpR op_eq (pe_callB call_len (by rfl) (W.free 6) (by decide +kernel) (pa_cons (pe_fld (pv 0) rfl) pa_nil)) pe_int (nomark _))))) (pss_one (ps_raise rfl tk (W.pmk 16 17 rfl))) pss_nil)
    (pss_one (ps_fld (pv 0) pe_bl rfl))), ?_⟩
    obtain ⟨r, B, n, s, rfl, hn, ⟨dx, fs, T, L, as, g⟩, ha⟩ := h
    clear tk po
    have cl := W.cls (x := "DataReader") 19
    have na1 := W.noat (x := "DataReader") (f := "tuples") 42
    have na2 := W.noat (x := "DataReader") (f := "ready") 43
    have na3 := W.noat (x := "DataReader") (f := "told") 44
    simp only [tSeq, tNext, tAsg, gName, tRet, tRetN, tIfS, tOp, tUn, rI, rI0, rU, tTest, tB, tAnd, tOr, tNot, tAndV, tOrV, tNotV, tIf, tCons, tNil, tTup, tLst, tCall, tCallS, tMeth, tMake, tFld, sFld, tBM, tBM0, tCB, tSl, tPart, tNoPart, tDrop, tPar, tPar3, tAug, ipI, gTup, gCons, gNil, gSub, rSetL, rAppend, rPop, rIxL, rIxS, rIxT, rEq, rNe, tChain, tNever, tThen, tVar, tC, L2.start, List.map_cons, List.map_nil, List.length_cons, List.length_nil, List.replicate_succ, List.replicate_zero, List.append_nil, List.nil_append, List.cons_append, Nat.reduceAdd, Nat.reduceSub, Nat.add_zero, Nat.zero_add, Nat.sub_zero, Nat.sub_self,
  List.getElem?_cons_zero, List.getElem?_cons_succ, Option.some.injEq, exists_eq_left', exists_eq_left, exists_eq', exists_eq, exists_and_left, List.set_cons_zero, List.set_cons_succ, V.int.injEq, V.bl.injEq, V.str.injEq, V.ref.injEq, V.ty.injEq, List.cons.injEq, and_true, true_and, and_assoc, if_true, if_false, Bool.false_eq_true, reduceCtorEq, false_and, and_false, exists_false, false_or, or_false, Bool.not_true, Bool.not_false, decide_eq_true_eq, ite_true, ite_false, WE, cxOf_K, cxOf_mg, rSlS, scal, wipe, mem_low, mem_dig, mem_brk, mem_brk4, sgn_inj, Bool.decide_eq_true, HO.ins.injEq, HO.lst.injEq, HO.tup.injEq, upd_same, ne_eq, not_false_eq_true, g.hr, cl, na1, na2, na3, g.fs_.t, g.fs_.r, g.fs_.l]
    cases hb : s.ready with
    | true =>
      refine iteT ?_
      simp only [RS.comma, hb] at ha
      exact ha H g.sm
    | false =>
      refine iteF ?_
      have ln := g.hs.len
      refine ⟨as.length, .inl ⟨_, SqL.of g.ht, by simp⟩, ?_⟩
      simp only [RS.comma, hb, Bool.false_or] at ha
      cases hr : s.rows with
      | nil =>
        rw [hr] at ln ha
        rw [if_pos (by rw [ln]; rfl)]
        exact ha H g.sm
      | cons row rest =>
        rw [hr] at ln ha
        rw [if_neg (by rw [ln, List.length_cons]; omega)]
        refine ⟨by have := g.fl; omega, ?_⟩
        refine ha _ ⟨dx, putF "ready" (.bl true) fs, T, L, as, ?_⟩
        have g2 := g.ready true
        rw [hr] at g2
        exact g2.up (by omega)
theorem o_DataReader_close_one (W : Wd fa fn K mg) : OkF P w K mg base d_DataReader_close_one 2 ["self"] (spOne K RS.close) := by
  have o_DataReader_item := o_DataReader_item (P := P) (w := w) (base := base) W
  obtain ⟨fd_DataReader_item, F_DataReader_item, b_DataReader_item, k_DataReader_item⟩ := o_DataReader_item.ex
  refine okf W (d := d_DataReader_close_one) 9 sc_DataReader_close_one rfl rfl (fun _ _ _ _ _ _ us hl => match us, hl with | [_], _ => rfl) ?len (fun cdv A outer s H vs Q E hr nd hu tk po h => ?body)
  case len =>
    rintro vs H Q E ⟨a, _, _, _, rfl, _⟩
    rfl
  case body =>
    refine ⟨_, (pss_cons (ps_if (PW.pt (pw_or (pt_cmpR op_eq (pe_callB call_len (by rfl) (W.free 6) (by decide +kernel) (pa_cons (pe_fld (pv 0) rfl) pa_nil)) pe_int (nomark _)) (pw_or1 (PW.pt (pw_and (pt_val (pe_fld (pv 0) rfl)) (pw_and1 (pt_cmpR op_gt (pe_callB call_len (by rfl) (W.free 6) (by decide +kernel) (pa_cons (pe_ix ix_list (pe_fld (pv 0) rfl) (pe_un un_neg pe_int) (fun _ _ => rfl)) pa_nil)) pe_int (nomark _)))))))) (pss_one (ps_raise rfl tk (W.pmk 16 17 rfl))) pss_nil)
    (pss_cons (ps_set (i := 1) nd rfl (by first | exact Or.inl rfl | exact Or.inr rfl) (pe_callTy call_tuple_of (by rfl) (W.free 13) (by decide +kernel) (pa_cons (pe_bm0 PySem.F.plainAttrs_list PySem.F.slot_list_pop PySem.F.type_list_pop mt_pop (pe_fld (pv 0) rfl)) pa_nil)))
    (pss_cons (ps_fld (pv 0) pe_bl rfl)
    (pss_one (ps_expr (pe_meth (pv 0) (W.cls 19) (W.meth 20) F_DataReader_item (hr.mono (by first | decide | omega)) b_DataReader_item .nil (passes_call tk (fun _ _ _ _ h => h)) (pa_cons (pv 1) pa_nil))))))), ?_⟩
    obtain ⟨r, B, n, s, rfl, hn, ⟨dx, fs, T, L, as, g⟩, ha⟩ := h
    clear tk po
    have cl := W.cls (x := "DataReader") 19
    have na1 := W.noat (x := "DataReader") (f := "tuples") 42
    have na2 := W.noat (x := "DataReader") (f := "ready") 43
    have na3 := W.noat (x := "DataReader") (f := "told") 44
    simp only [tSeq, tNext, tAsg, gName, tRet, tRetN, tIfS, tOp, tUn, rI, rI0, rU, tTest, tB, tAnd, tOr, tNot, tAndV, tOrV, tNotV, tIf, tCons, tNil, tTup, tLst, tCall, tCallS, tMeth, tMake, tFld, sFld, tBM, tBM0, tCB, tSl, tPart, tNoPart, tDrop, tPar, tPar3, tAug, ipI, gTup, gCons, gNil, gSub, rSetL, rAppend, rPop, rIxL, rIxS, rIxT, rEq, rNe, tChain, tNever, tThen, tVar, tC, L2.start, List.map_cons, List.map_nil, List.length_cons, List.length_nil, List.replicate_succ, List.replicate_zero, List.append_nil, List.nil_append, List.cons_append, Nat.reduceAdd, Nat.reduceSub, Nat.add_zero, Nat.zero_add, Nat.sub_zero, Nat.sub_self,
  List.getElem?_cons_zero, List.getElem?_cons_succ, Option.some.injEq, exists_eq_left', exists_eq_left, exists_eq', exists_eq, exists_and_left, List.set_cons_zero, List.set_cons_succ, V.int.injEq, V.bl.injEq, V.str.injEq, V.ref.injEq, V.ty.injEq, List.cons.injEq, and_true, true_and, and_assoc, if_true, if_false, Bool.false_eq_true, reduceCtorEq, false_and, and_false, exists_false, false_or, or_false, Bool.not_true, Bool.not_false, decide_eq_true_eq, ite_true, ite_false, WE, cxOf_K, cxOf_mg, rSlS, scal, wipe, mem_low, mem_dig, mem_brk, mem_brk4, sgn_inj, Bool.decide_eq_true, HO.ins.injEq, HO.lst.injEq, HO.tup.injEq, upd_same, ne_eq, not_false_eq_true, g.hr, cl, na1, na2, na3, g.fs_.t, g.fs_.r, g.fs_.l]
    have ln := g.hs.len
    refine ⟨as.length, .inl ⟨_, SqL.of g.ht, by simp⟩, ?_⟩
    obtain ⟨rows, rd, told⟩ := s
    simp only at ln
    cases rows with
    | nil =>
      rw [if_pos (by rw [ln]; rfl)]
      exact ha H g.sm
    | cons row rest =>
      obtain ⟨a, as', rfl⟩ : ∃ a as', as = a :: as' := by
        cases as with
        | nil => simp at ln
        | cons a as' => exact ⟨a, as', rfl⟩
      rw [if_neg (by rw [List.length_cons]; omega)]
      obtain ⟨vs, hv, h2, h3, h4⟩ : Row K H n a row := by
        cases g.hs with
        | cons h1 h2 => exact h1
      have hl := DpAll.length h2
      have hx : ((a :: as').map V.ref).reverse = (as'.map V.ref).reverse ++ [.ref a] := by simp
      have ht : H T = some (.lst ((as'.map V.ref).reverse ++ [.ref a])) := by rw [← hx]; exact g.ht
      have fin : (rd && decide (0 < row.length)) = false → ∀ l, upd H T (.lst (as'.map V.ref).reverse) l = none → ∃ x_4 x_5 x_6, upd (upd H T (.lst (as'.map V.ref).reverse)) l (.tup vs) r = some (.ins x_4 x_5 x_6) ∧ Cls K x_4 ∧ NoAttr K x_4 (Str.ofString "ready") ∧ x_6.length < 1000 ∧ x_4 = He.ga K d_DataReader_item.at_.fst ∧
          List.lookup (Str.ofString "item") (putF (Str.ofString "ready") (V.bl true) x_6) = none ∧ spItem K [V.ref r, V.ref l] (upd (upd (upd H T (.lst (as'.map V.ref).reverse)) l (.tup vs)) r (.ins x_4 x_5 (putF (Str.ofString "ready") (V.bl true) x_6))) (fun x H1 => Q V.non H1) E := by
        intro h0 l hl0
        have g1 := g.popRow
        have g2 := g1.aside (o := .tup vs) hl0
        have g3 := g2.ready true
        refine ⟨_, _, _, g2.hr, cl, na2, by have := g.fl; omega, rfl, g3.fs_.o _ (by decide) (by decide) (by decide), r, .ref l, .tuple row, B, n + 3, ⟨rest, true, told⟩, rfl, by omega, ⟨_, _, _, _, _, g3⟩, ?_, ?_, ?_⟩
        · have nr : l ≠ r := fun e => by rw [e, g1.hr] at hl0; cases hl0
          refine .tup (SqT.of (by rw [upd_ne nr, upd_same])) ?_
          have t1 : Tx H (upd H T (.lst (as'.map V.ref).reverse)) := Tx.up g.ht noTup_l
          have t2 : Tx (upd H T (.lst (as'.map V.ref).reverse)) (upd (upd H T (.lst (as'.map V.ref).reverse)) l (.tup vs)) := Tx.nw hl0
          exact DpAll.tx ((t1.trans t2).trans (Tx.up g2.hr noTup_i)) h3 h2
        · simpa [imm] using h3
        · simp only [RS.close, h0] at ha
          have e : ∀ o : Option RS, Ans K B (n + 6) r Q E o → Ans K B (n + 3 + 2) r (fun _ H1 => Q V.non H1) E o := by
            intro o
            cases o with
            | none => exact fun h => h
            | some s => exact fun h H' ⟨q1, q2, q3, q4, q5, q⟩ => h H' ⟨q1, q2, q3, q4, q5, q.up (by omega)⟩
          exact e _ ha
      have hT : SqL K (upd H T (.lst (as'.map V.ref).reverse)) a vs := SqL.of (by rw [upd_ne (g.t_s a (List.mem_cons_self ..)).symm]; exact hv)
      have ix : ((as'.map V.ref).reverse ++ [V.ref a])[((as'.map V.ref).reverse ++ [V.ref a]).length - 1]? = some (.ref a) := by simp
      have dl : ((as'.map V.ref).reverse ++ [V.ref a]).dropLast = (as'.map V.ref).reverse := List.dropLast_concat
      cases rd with
      | false =>
        refine iteF ⟨tyLst g.ht, _, ht, _, ix, a, rfl, vs, .inl ⟨by rw [dl]; exact hT, ?_⟩⟩
        rw [dl]
        exact fin rfl
      | true =>
        refine iteT ⟨_, SqL.of g.ht, _, last_ref, vs.length, .inl ⟨_, SqL.of hv, rfl⟩, ?_⟩
        by_cases h0 : 0 < row.length
        · rw [if_pos (by rw [hl]; omega)]
          simp only [RS.close, decide_eq_true h0] at ha
          exact ha H g.sm
        · rw [if_neg (by rw [hl]; omega)]
          refine ⟨tyLst g.ht, _, ht, _, ix, a, rfl, vs, .inl ⟨by rw [dl]; exact hT, ?_⟩⟩
          rw [dl]
          exact fin (by rw [decide_eq_false h0]; rfl)
end
end WW

set_option maxHeartbeats 4000000
namespace WW
open PySem PySem.Spec PyProof.Rows L2
local macro_rules | `(tactic| walk_at "x") => `(tactic| simp only [tSeq, tNext, tAsg, gName, tRet, tRetN, tIfS, tOp, tUn, rI, rI0, rU, tTest, tB, tAnd, tOr, tNot, tAndV, tOrV, tNotV, tIf, tCons, tNil, tTup, tLst, tCall, tCallS, tMeth, tMake, tFld, sFld, tBM, tBM0, tCB, tSl, tPart, tNoPart, tDrop, tPar, tPar3, tAug, ipI, gTup, gCons, gNil, gSub, rSetL, rAppend, rPop, rIxL, rIxS, rIxT, rEq, rNe, tChain, tNever, tThen, tVar, tC, L2.start, List.map_cons, List.map_nil, List.length_cons, List.length_nil, List.replicate_succ, List.replicate_zero, List.append_nil, List.nil_append, List.cons_append, Nat.reduceAdd, Nat.reduceSub, Nat.add_zero, Nat.zero_add, Nat.sub_zero, Nat.sub_self,
  List.getElem?_cons_zero, List.getElem?_cons_succ, Option.some.injEq, exists_eq_left', exists_eq_left, exists_eq', exists_eq, exists_and_left, List.set_cons_zero, List.set_cons_succ, V.int.injEq, V.bl.injEq, V.str.injEq, V.ref.injEq, V.ty.injEq, List.cons.injEq, and_true, true_and, and_assoc, if_true, if_false, Bool.false_eq_true, reduceCtorEq, false_and, and_false, exists_false, false_or, or_false, Bool.not_true, Bool.not_false, decide_eq_true_eq, ite_true, ite_false, WE, cxOf_K, cxOf_mg, rSlS, scal, wipe, mem_low, mem_dig, mem_brk, mem_brk4, sgn_inj, Bool.decide_eq_true])

theorem ob_lit : Str.ofString "[" = S [91] := by decide +kernel
theorem cb_lit : Str.ofString "]" = S [93] := by decide +kernel
theorem co_lit : Str.ofString "," = S [44] := by decide +kernel
theorem str_S {z : Str} {l : List Nat} : z = S l ↔ z.cps.toList = l := ⟨fun h => by rw [h]; rfl, fun h => by rw [← h]; rfl⟩
section
variable {K : PySem.W.Frag} {B H H' : Hp} {n : Nat} {r dx T L : Addr} {s : RS} {fs : List (Str × V)} {as : List Addr}
theorem Row.same {a : Addr} {ds : List PyData} (t : Same H H') (h : Row K H n a ds) : Row K H' n a ds := by
  obtain ⟨vs, h1, h2, h3, h4⟩ := h
  exact ⟨vs, t _ _ h1, Dp.sms t ds _ h2, h3, h4⟩
theorem RowsOk.same {dss : List (List PyData)} (t : Same H H') (h : RowsOk K H n as dss) : RowsOk K H' n as dss := by
  induction h with
  | nil => exact .nil
  | cons a b ih => exact .cons (a.same t) ih
theorem RdB.same (t : Same H H') (g : RdB K B n H r s dx fs T L as) : RdB K B n H' r s dx fs T L as :=
  ⟨t _ _ g.hr, g.fs_, g.fl, t _ _ g.ht, g.hl.same t, g.hs.same t, g.nd, Same.trans g.sm t, g.br, g.bt, g.bl, g.bs⟩
def cutB (H : Hp) (l : List Addr) : Hp := fun a => if a ∈ l then none else H a
theorem RdB.rebase (g : RdB K B n H r s dx fs T L as) : RdB K (cutB H (r :: T :: L :: as)) n H r s dx fs T L as ∧ Same B (cutB H (r :: T :: L :: as)) := by
  have z : ∀ a, a ∈ r :: T :: L :: as → cutB H (r :: T :: L :: as) a = none := fun a ha => if_pos ha
  refine ⟨⟨g.hr, g.fs_, g.fl, g.ht, g.hl, g.hs, g.nd, fun a o e => ?_, z _ (by simp), z _ (by simp), z _ (by simp), fun a ha => z _ (by simp [ha])⟩, fun a o e => ?_⟩
  · unfold cutB at e
    split at e
    · cases e
    · exact e
  · unfold cutB
    rw [if_neg]
    · exact g.sm _ _ e
    · intro h
      have h : a = r ∨ a = T ∨ a = L ∨ a ∈ as := by simpa using h
      have bn : B a = none := by
        rcases h with rfl | rfl | rfl | h
        · exact g.br
        · exact g.bt
        · exact g.bl
        · exact g.bs _ h
      rw [bn] at e
      cases e
end
def spTake (K : PySem.W.Frag) : Sp := fun vs H Q E => ∃ r z B n s, vs = [.ref r, .str z] ∧ n ≤ 800000 ∧ z.length ≤ 1000000 ∧ Rd K B n H r s ∧ Ans K B (n + 8) r Q E (s.take z.cps.toList)
/-- all pieces -/
def takes (s : RS) : List (List Nat) → Option RS
  | [] => some s
  | p :: ps => (s.take p).bind fun s' => takes s' ps
def doneR : Option RS → Option PyData
  | some ⟨[], _, [d]⟩ => some d
  | _ => none
def readR (l : List Nat) : Option PyData := doneR (takes ⟨[], true, []⟩ (pcs [] l))
def readD : PyData → Option PyData
  | .str z => readR z.cps.toList
  | _ => none
theorem pcs_len' : ∀ (l t : List Nat), (pcs t l).length ≤ 2 * l.length + (if t = [] then 0 else 1)
  | [], t => by
    rw [pcs_nil]
    split <;> simp
  | c :: l, t => by
    rw [pcs_cons]
    split
    · have := pcs_len' l []
      rw [if_pos rfl] at this
      rw [List.length_append, List.length_cons, List.length_cons]
      split <;> simp <;> omega
    · have := pcs_len' l (t ++ [c])
      rw [if_neg (by simp)] at this
      rw [List.length_cons]
      split <;> omega
theorem pcs_each : ∀ (l t p : List Nat), p ∈ pcs t l → p.length ≤ t.length + l.length + 1
  | [], t, p, h => by
    rw [pcs_nil] at h
    split at h
    · cases h
    · rw [List.mem_singleton.mp h]; omega
  | c :: l, t, p, h => by
    rw [pcs_cons] at h
    split at h
    · rcases List.mem_append.mp h with h | h
      · split at h
        · cases h
        · rw [List.mem_singleton.mp h]; omega
      · rcases List.mem_cons.mp h with rfl | h
        · simp
        · have := pcs_each l [] p h
          rw [List.length_nil] at this
          rw [List.length_cons]
          omega
    · have := pcs_each l (t ++ [c]) p h
      rw [List.length_append, List.length_singleton] at this
      rw [List.length_cons]
      omega
theorem pcs_len (l : List Nat) : (pcs [] l).length ≤ 2 * l.length := by
  have := pcs_len' l []
  rw [if_pos rfl] at this
  omega
/-- what a def answers: data or Malformed -/
def AnsD (K : PySem.W.Frag) (H : Hp) (Q : VK) (E : XK) : Option PyData → Prop
  | some d => ∀ v H', Same H H' → Dp K H' v d → imm d = true → Q v H'
  | none => ∀ H', Same H H' → E (mal K) none H'
def spRead (K : PySem.W.Frag) : Sp := fun vs H Q E => ∃ x d, vs = [x] ∧ Dp K H x d ∧ (∀ z, x = .str z → z.length ≤ 50000) ∧ AnsD K H Q E (readD d)
section
variable {P : Program} {w : World} {K : PySem.W.Frag} {mg : Str → Option Value} {base : Heap}
theorem Ans.up {K : PySem.W.Frag} {B : Hp} {n m : Nat} {r : Addr} {Q : VK} {E : XK} (h : n ≤ m) : ∀ {o : Option RS}, Ans K B m r Q E o → Ans K B n r (fun x H1 => Q V.non H1) E o
  | none, q => q
  | some s, q => fun H' ⟨q1, q2, q3, q4, q5, q6⟩ => q H' ⟨q1, q2, q3, q4, q5, q6.up h⟩
theorem o_DataReader_take (W : Wd fa fn K mg) : OkF P w K mg base d_DataReader_take 3 ["self", "piece"] (spTake K) := by
  have o_DataReader_item := (o_DataReader_item (P := P) (w := w) (base := base) W).mono (show 1 ≤ 2 by decide)
  have o_DataReader_open_one := (o_DataReader_open_one (P := P) (w := w) (base := base) W).mono (show 1 ≤ 2 by decide)
  have o_DataReader_comma := (o_DataReader_comma (P := P) (w := w) (base := base) W).mono (show 1 ≤ 2 by decide)
  have o_DataReader_close_one := o_DataReader_close_one (P := P) (w := w) (base := base) W
  have o_is_word := (o_is_word (P := P) (w := w) (base := base) W).mono (show 1 ≤ 2 by decide)
  have o_read_whole := (o_read_whole (P := P) (w := w) (base := base) W).mono (show 1 ≤ 2 by decide)
  obtain ⟨fd_DataReader_open_one, F_DataReader_open_one, b_DataReader_open_one, k_DataReader_open_one⟩ := o_DataReader_open_one.ex; obtain ⟨fd_DataReader_close_one, F_DataReader_close_one, b_DataReader_close_one, k_DataReader_close_one⟩ := o_DataReader_close_one.ex; obtain ⟨fd_DataReader_comma, F_DataReader_comma, b_DataReader_comma, k_DataReader_comma⟩ := o_DataReader_comma.ex; obtain ⟨fd_DataReader_item, F_DataReader_item, b_DataReader_item, k_DataReader_item⟩ := o_DataReader_item.ex; obtain ⟨fd_is_word, F_is_word, b_is_word, k_is_word⟩ := o_is_word.ex; obtain ⟨fd_read_whole, F_read_whole, b_read_whole, k_read_whole⟩ := o_read_whole.ex
  refine okf W (d := d_DataReader_take) 11 sc_DataReader_take rfl rfl (fun _ _ _ _ _ _ us hl => match us, hl with | [_, _], _ => rfl) ?len (fun cdv A outer s H vs Q E hr nd hu tk po h => ?body)
  case len =>
    rintro vs H Q E ⟨_, _, _, _, _, rfl, _⟩
    rfl
  case body =>
    refine ⟨_, (pss_one (ps_if (pt_cmpR op_eq (pv 1) pe_str (nomark _)) (pss_one (ps_expr (pe_meth0 (pv 0) (W.cls 19) (W.meth 21) F_DataReader_open_one (hr.mono (by first | decide | omega)) b_DataReader_open_one .nil (passes_call tk (fun _ _ _ _ h => h))))) (pss_one (ps_if (pt_cmpR op_eq (pv 1) pe_str (nomark _)) (pss_one (ps_expr (pe_meth0 (pv 0) (W.cls 19) (W.meth 22) F_DataReader_close_one (hr.mono (by first | decide | omega)) b_DataReader_close_one .nil (passes_call tk (fun _ _ _ _ h => h))))) (pss_one (ps_if (pt_cmpR op_eq (pv 1) pe_str (nomark _)) (pss_one (ps_expr (pe_meth0 (pv 0) (W.cls 19) (W.meth 23) F_DataReader_comma (hr.mono (by first | decide | omega)) b_DataReader_comma .nil (passes_call tk (fun _ _ _ _ h => h))))) (pss_one (ps_expr (pe_meth (pv 0) (W.cls 19) (W.meth 20) F_DataReader_item (hr.mono (by first | decide | omega)) b_DataReader_item .nil (passes_call tk (fun _ _ _ _ h => h)) (pa_cons (pe_ifExp (pt_val (by exact (pe_callS F_is_word (hr.mono (by first | decide | omega)) rfl (W.glo 15) k_is_word b_is_word (fun σ => passAt tk σ) (by exact (pa_cons (pv 1) pa_nil))))) (pv 1) (by exact (pe_callS F_read_whole (hr.mono (by first | decide | omega)) rfl (W.glo 24) k_read_whole b_read_whole (fun σ => passAt tk σ) (by exact (pa_cons (pv 1) pa_nil))))) pa_nil)))))))))), ?_⟩
    obtain ⟨r, z, B, n, s, rfl, hn, hz, ⟨dx, fs, T, L, as, g⟩, ha⟩ := h
    clear tk po
    have cl := W.cls (x := "DataReader") 19
    have na1 := g.fs_.o (Str.ofString "item") (by decide) (by decide) (by decide)
    have na2 := g.fs_.o (Str.ofString "open_one") (by decide) (by decide) (by decide)
    have na3 := g.fs_.o (Str.ofString "close_one") (by decide) (by decide) (by decide)
    have na4 := g.fs_.o (Str.ofString "comma") (by decide) (by decide) (by decide)
    simp only [tSeq, tNext, tAsg, gName, tRet, tRetN, tIfS, tOp, tUn, rI, rI0, rU, tTest, tB, tAnd, tOr, tNot, tAndV, tOrV, tNotV, tIf, tCons, tNil, tTup, tLst, tCall, tCallS, tMeth, tMake, tFld, sFld, tBM, tBM0, tCB, tSl, tPart, tNoPart, tDrop, tPar, tPar3, tAug, ipI, gTup, gCons, gNil, gSub, rSetL, rAppend, rPop, rIxL, rIxS, rIxT, rEq, rNe, tChain, tNever, tThen, tVar, tC, L2.start, List.map_cons, List.map_nil, List.length_cons, List.length_nil, List.replicate_succ, List.replicate_zero, List.append_nil, List.nil_append, List.cons_append, Nat.reduceAdd, Nat.reduceSub, Nat.add_zero, Nat.zero_add, Nat.sub_zero, Nat.sub_self,
  List.getElem?_cons_zero, List.getElem?_cons_succ, Option.some.injEq, exists_eq_left', exists_eq_left, exists_eq', exists_eq, exists_and_left, List.set_cons_zero, List.set_cons_succ, V.int.injEq, V.bl.injEq, V.str.injEq, V.ref.injEq, V.ty.injEq, List.cons.injEq, and_true, true_and, and_assoc, if_true, if_false, Bool.false_eq_true, reduceCtorEq, false_and, and_false, exists_false, false_or, or_false, Bool.not_true, Bool.not_false, decide_eq_true_eq, ite_true, ite_false, WE, cxOf_K, cxOf_mg, rSlS, scal, wipe, mem_low, mem_dig, mem_brk, mem_brk4, sgn_inj, Bool.decide_eq_true, HO.ins.injEq, HO.lst.injEq, HO.tup.injEq, upd_same, ne_eq, not_false_eq_true, g.hr, cl, na1, na2, na3, na4, ob_lit, cb_lit, co_lit, str_S]
    simp only [RS.take] at ha
    by_cases h1 : z.cps.toList = [91]
    · rw [if_pos h1] at ha ⊢
      exact ⟨rfl, r, B, n, s, rfl, by omega, ⟨_, _, _, _, _, g⟩, Ans.up (by omega) ha⟩
    rw [if_neg h1] at ha ⊢
    by_cases h2 : z.cps.toList = [93]
    · rw [if_pos h2] at ha ⊢
      exact ⟨rfl, r, B, n, s, rfl, by omega, ⟨_, _, _, _, _, g⟩, Ans.up (by omega) ha⟩
    rw [if_neg h2] at ha ⊢
    by_cases h3 : z.cps.toList = [44]
    · rw [if_pos h3] at ha ⊢
      exact ⟨rfl, r, B, n, s, rfl, by omega, ⟨_, _, _, _, _, g⟩, Ans.up (by omega) ha⟩
    rw [if_neg h3] at ha ⊢
    refine ⟨rfl, .str z, .str z, rfl, .str z, fun y e => by cases e; exact hz, fun H1 s1 => ⟨_, rfl, ?_⟩⟩
    simp only [atomR] at ha
    rcases Bool.eq_false_or_eq_true (wordL z.cps.toList) with hw | hw
    · rw [if_pos hw] at ha
      rw [if_pos (show wordD (.str z) = true from hw)]
      exact ⟨r, .str z, .str z, B, n, s, rfl, by omega, ⟨_, _, _, _, _, g.same s1⟩, .str z, rfl, Ans.up (by omega) ha⟩
    · rw [if_neg (by rw [hw]; decide)] at ha
      rw [if_neg (by rw [show wordD (.str z) = false from hw]; decide)]
      refine ⟨z, rfl, hz, ?_, ?_⟩
      · intro i hi H2 s2
        rw [hi] at ha
        exact ⟨r, .int i, .int i, B, n, s, rfl, by omega, ⟨_, _, _, _, _, g.same (Same.trans s1 s2)⟩, .int i, rfl, Ans.up (by omega) ha⟩
      · intro hi H2 s2
        rw [hi] at ha
        exact ha H2 (Same.trans g.sm (Same.trans s1 s2))
theorem o_read_data (W : Wd fa fn K mg) : OkF P w K mg base d_read_data 4 ["text"] (spRead K) := by
  have o_DataReader___init__ := (o_DataReader___init__ (P := P) (w := w) (base := base) W).mono (show 1 ≤ 2 by decide)
  have o_pieces_of := (o_pieces_of (P := P) (w := w) (base := base) W).mono (show 1 ≤ 3 by decide)
  have o_DataReader_take := (o_DataReader_take (P := P) (w := w) (base := base) W)
  obtain ⟨fd_DataReader___init__, F_DataReader___init__, b_DataReader___init__, k_DataReader___init__⟩ := o_DataReader___init__.ex; obtain ⟨fd_pieces_of, F_pieces_of, b_pieces_of, k_pieces_of⟩ := o_pieces_of.ex; obtain ⟨fd_DataReader_take, F_DataReader_take, b_DataReader_take, k_DataReader_take⟩ := o_DataReader_take.ex
  refine okf W (d := d_read_data) 12 sc_read_data rfl rfl (fun _ _ _ _ _ _ us hl => match us, hl with | [_], _ => rfl) ?len (fun cdv A outer s H vs Q E hr nd hu tk po h => ?body)
  case len =>
    rintro vs H Q E ⟨_, _, rfl, _⟩
    rfl
  case body =>
    refine ⟨_, (pss_cons (ps_if (pt_not (pt_val (pe_callB call_isiV (by rfl) (W.free 0) (by decide +kernel) (pa_cons (pv 0) (pa_cons (pe_bltn (v := .ty "str") (u := .type "str") rfl (W.free 8) (by decide +kernel) rfl) pa_nil))))) (pss_one (ps_raise rfl tk (W.pmk 16 17 rfl))) pss_nil)
    (pss_cons (ps_set (i := 1) nd rfl (by first | exact Or.inl rfl | exact Or.inr rfl) (pe_make0 (W.mkr 26) F_DataReader___init__ (hr.mono (by first | decide | omega)) rfl (W.glo 25) b_DataReader___init__ .nil passL))
    (pss_cons (ps_for po rfl (pi_list (by exact (pe_callS F_pieces_of (hr.mono (by first | decide | omega)) rfl (W.glo 27) k_pieces_of b_pieces_of (fun σ => passAt tk σ) (by exact (pa_cons (pv 0) pa_nil))))) (pg_name (i := 2) nd rfl (by first | exact Or.inl rfl | exact Or.inr rfl))
      (pss_one (ps_expr (pe_meth (pv 1) (W.cls 19) (W.meth 28) F_DataReader_take (hr.mono (by first | decide | omega)) b_DataReader_take .nil (passes_call tk (fun _ _ _ _ h => h)) (pa_cons (pv 2) pa_nil)))))
    (pss_cons (ps_if (PW.pt (pw_or (pt_cmpR op_gt (pe_callB call_len (by rfl) (W.free 6) (by decide +kernel) (pa_cons (pe_fld (pv 1) rfl) pa_nil)) pe_int (nomark _)) (pw_or1 (pt_cmpR op_ne (pe_callB call_len (by rfl) (W.free 6) (by decide +kernel) (pa_cons (pe_fld (pv 1) rfl) pa_nil)) pe_int (nomark _))))) (pss_one (ps_raise rfl tk (W.pmk 16 17 rfl))) pss_nil)
    (pss_one (ps_ret (pe_ix ix_list (pe_fld (pv 1) rfl) pe_int (fun _ _ => rfl)))))))), ?_⟩
    obtain ⟨x, d, rfl, hd, hz, ha⟩ := h
    clear tk po
    walk_at "x"
    simp only [rIsaV]
    walk_at "x"
    refine ⟨by decide, _, IsaV.of hd, ?_⟩
    cases hd with
    | str z =>
      have hz := hz z rfl
      have cl := W.cls (x := "DataReader") 19
      have na1 := W.noat (x := "DataReader") (f := "tuples") 42
      have na3 := W.noat (x := "DataReader") (f := "told") 44
      refine iteF fun r dx hr0 hdx hne => ?_
      refine ⟨r, H, dx, rfl, upd_same, Same.mut (Same.new hdx) hr0, hr0, fun H1 R1 => ⟨rfl, ?_⟩⟩
      obtain ⟨dx1, fs1, T1, L1, as1, g1⟩ := R1
      simp only [readD] at ha
      unfold readR at ha
      generalize hp : pcs [] z.cps.toList = ps at ha
      have lp : ps.length ≤ 2 * z.length := by
        rw [← hp]
        exact pcs_len z.cps.toList
      have hI : ∀ (R : It → Hp → Prop), (∀ D H2, Same H1 H2 → H1 D = none → H2 D = some (HO.lst ((pcs [] z.cps.toList).map fun p => V.str (S p))) → R (Itl K D) H2) → iList K (tCallS spPieces (WE fun cls dd x H => E cls dd H) (tCons (tVar 0) tNil)) [some (V.str z), some (V.ref r), none] H1 R := by
        intro R hR
        simp only [iList]
        walk_at "x"
        exact ⟨z, rfl, by omega, fun D H2 s2 hD h2 => ⟨D, rfl, ⟨_, SqL.of h2⟩, hR D H2 s2 hD h2⟩⟩
      unfold tFor
      refine hI _ fun D H2 s2 hD h2 => ?_
      rw [hp] at h2
      have g2 := g1.same s2
      have n1 : D ≠ r := fun e => by rw [e, g1.hr] at hD; cases hD
      have n2 : D ≠ T1 := fun e => by rw [e, g1.ht] at hD; cases hD
      have n3 : D ≠ L1 := fun e => by obtain ⟨vs, q, _⟩ := g1.hl; rw [e, q] at hD; cases hD
      have n4 : D ∉ as1 := fun e => by obtain ⟨vs, q⟩ := g1.hs.some D e; rw [q] at hD; cases hD
      obtain ⟨g3, sb⟩ := g2.rebase
      generalize hB : cutB H2 (r :: T1 :: L1 :: as1) = B2 at g3 sb
      have bD : B2 D = some (.lst (ps.map fun p => .str (S p))) := by
        rw [← hB]
        unfold cutB
        rw [if_neg (by simp [n1, n2, n3, n4]), h2]
      refine for_it (walk_list (K := K) (a := D) (xs := ps.map fun p => .str (S p))) (fun i σ H' => ∃ s y, σ = [some (.str z), some (.ref r), y] ∧ takes ⟨[], true, []⟩ ps = takes s (ps.drop i) ∧ Rd K B2 (8 * i) H' r s) ⟨_, _, rfl, rfl, _, _, _, _, _, g3⟩ ?_ ?_ ?_
      · rintro i σ H' hi ⟨s, y, rfl, ht, dx2, fs2, T2, Lx, as2, g⟩
        exact SqL.of (g.sm _ _ bD)
      · rintro i x σ H3 H4 hi ⟨s, y, rfl, ht, R2⟩ ⟨rfl, hx⟩
        rw [List.length_map] at hi
        have ei : ps[i]? = some ps[i] := List.getElem?_eq_getElem hi
        rw [List.getElem?_map, ei] at hx
        cases hx
        rw [drop_at ei] at ht
        walk_at "x"
        obtain ⟨dx2, fs2, T2, Lx, as2, g⟩ := id R2
        refine ⟨_, _, g.hr, g.fs_.o _ (by decide) (by decide) (by decide), r, S ps[i], B2, 8 * i, s, rfl, by omega, ?_, R2, ?_⟩
        · have := pcs_each z.cps.toList [] ps[i] (by rw [hp]; exact List.getElem_mem hi)
          rw [len_S]
          have e : z.length = z.cps.toList.length := rfl
          rw [List.length_nil] at this
          omega
        · rw [tl_S]
          rw [show takes s (ps[i] :: ps.drop (i + 1)) = (s.take ps[i]).bind (fun s' => takes s' (ps.drop (i + 1))) from rfl] at ht
          cases hs : s.take ps[i] with
          | none =>
            rw [hs] at ht
            rw [ht] at ha
            exact fun H5 s5 => ha H5 (Same.trans sb s5)
          | some s' =>
            rw [hs] at ht
            exact fun H5 R5 => ⟨s', ht, R5⟩
      · rintro σ H' ⟨s, y, rfl, ht, dx2, fs2, T2, Lx, as2, g⟩
        rw [List.length_map, List.drop_length] at ht
        rw [ht] at ha
        unfold takes at ha
        simp only [tSeq, tNext, tAsg, gName, tRet, tRetN, tIfS, tOp, tUn, rI, rI0, rU, tTest, tB, tAnd, tOr, tNot, tAndV, tOrV, tNotV, tIf, tCons, tNil, tTup, tLst, tCall, tCallS, tMeth, tMake, tFld, sFld, tBM, tBM0, tCB, tSl, tPart, tNoPart, tDrop, tPar, tPar3, tAug, ipI, gTup, gCons, gNil, gSub, rSetL, rAppend, rPop, rIxL, rIxS, rIxT, rEq, rNe, tChain, tNever, tThen, tVar, tC, L2.start, List.map_cons, List.map_nil, List.length_cons, List.length_nil, List.replicate_succ, List.replicate_zero, List.append_nil, List.nil_append, List.cons_append, Nat.reduceAdd, Nat.reduceSub, Nat.add_zero, Nat.zero_add, Nat.sub_zero, Nat.sub_self,
  List.getElem?_cons_zero, List.getElem?_cons_succ, Option.some.injEq, exists_eq_left', exists_eq_left, exists_eq', exists_eq, exists_and_left, List.set_cons_zero, List.set_cons_succ, V.int.injEq, V.bl.injEq, V.str.injEq, V.ref.injEq, V.ty.injEq, List.cons.injEq, and_true, true_and, and_assoc, if_true, if_false, Bool.false_eq_true, reduceCtorEq, false_and, and_false, exists_false, false_or, or_false, Bool.not_true, Bool.not_false, decide_eq_true_eq, ite_true, ite_false, WE, cxOf_K, cxOf_mg, rSlS, scal, wipe, mem_low, mem_dig, mem_brk, mem_brk4, sgn_inj, Bool.decide_eq_true, HO.ins.injEq, HO.lst.injEq, HO.tup.injEq, upd_same, ne_eq, not_false_eq_true, g.hr, cl, na1, na3, g.fs_.t, g.fs_.l]
        obtain ⟨rows, rd, told⟩ := s
        have ln := g.hs.len
        simp only at ln
        refine ⟨as2.length, .inl ⟨_, SqL.of g.ht, by simp⟩, ?_⟩
        have sm2 : Same H H' := Same.trans sb g.sm
        cases rows with
        | cons row rest =>
          rw [if_pos (by rw [ln, List.length_cons]; omega)]
          exact ha H' sm2
        | nil =>
          rw [if_neg (by rw [ln]; decide)]
          obtain ⟨vs, hv, h2, h3, h4⟩ := g.hl
          have hl := DpAll.length h2
          simp only at h2 h3 hl
          refine ⟨vs.length, .inl ⟨vs, SqL.of hv, rfl⟩, ?_⟩
          match told, vs, h2, h3, hl with
          | [], [], _, _, _ => exact ha H' sm2
          | [d], [v], .cons q1 _, h3, _ => exact ⟨_, SqL.of hv, _, rfl, ha v H' sm2 q1 (by simpa [imm.immAll] using h3)⟩
          | _ :: _ :: _, _ :: _ :: _, _, _, _ => exact ha H' sm2
    | _ => exact iteT (ha H (Same.refl H))
end
end WW

set_option maxHeartbeats 4000000
namespace WW
open PySem PySem.Spec PyProof.Rows L2
/-! ### what write_data gives -/
def strD : PyData → List Nat
  | .str z => z.cps.toList
  | .int i => (Str.ofString (toString i)).cps.toList
  | _ => []
mutual
def wD : Nat → PyData → Option (List Nat)
  | k, .tuple ds => if k ≤ 1000 then (wDs (k + 1) ds).map fun t => 91 :: (t ++ [93]) else none
  | _, .str z => if wordD (.str z) || shortD (.str z) then some (strD (.str z)) else none
  | _, .int i => if wordD (.int i) || shortD (.int i) then some (strD (.int i)) else none
  | _, _ => none
def wDs : Nat → List PyData → Option (List Nat)
  | _, [] => some []
  | k, d :: ds => (wD k d).bind fun a => if ds.isEmpty then some a else (wDs k ds).map fun t => a ++ 44 :: t
end
mutual
def smallD : PyData → Bool
  | .str z => decide (z.length ≤ 1000000)
  | .tuple ds => smallDs ds
  | _ => true
def smallDs : List PyData → Bool
  | [] => true
  | d :: ds => smallD d && smallDs ds
end
mutual
def szD : PyData → Nat
  | .tuple ds => 2 + szDs ds
  | _ => 1
def szDs : List PyData → Nat
  | [] => 0
  | d :: ds => szD d + 1 + szDs ds
end
def one (k : Nat) (d : PyData) : Option (List Nat) := match k, d with
  | 0, .str z => some z.cps.toList
  | 0, _ => none
  | k + 1, d => wD (k + 1) d
def pend : List (Nat × PyData) → Option (List Nat)
  | [] => some []
  | e :: l => (one e.1 e.2).bind fun a => (pend l).map fun t => a ++ t
def meas : List (Nat × PyData) → Nat
  | [] => 0
  | e :: l => szD e.2 + meas l
theorem szD_pos (d : PyData) : 1 ≤ szD d := by cases d <;> simp only [szD] <;> omega
theorem meas_len (l : List (Nat × PyData)) : l.length ≤ meas l := by
  induction l with
  | nil => exact Nat.le_refl _
  | cons e l ih =>
    have := szD_pos e.2
    rw [List.length_cons]
    simp only [meas]
    omega
theorem meas_app (a b : List (Nat × PyData)) : meas (a ++ b) = meas a + meas b := by
  induction a with
  | nil => simp [meas]
  | cons e a ih => simp only [List.cons_append, meas, ih]; omega
theorem pend_app (a b : List (Nat × PyData)) : pend (a ++ b) = (pend a).bind fun x => (pend b).map fun y => x ++ y := by
  induction a with
  | nil =>
    simp only [List.nil_append, pend, Option.bind_some]
    cases pend b <;> rfl
  | cons e a ih =>
    simp only [List.cons_append, pend, ih]
    cases one e.1 e.2 with
    | none => rfl
    | some x =>
      simp only [Option.bind_some]
      cases pend a with
      | none => rfl
      | some y =>
        simp only [Option.bind_some, Option.map_some]
        cases pend b with
        | none => rfl
        | some t => simp
def comma : PyData := .str (S [44])
def close : PyData := .str (S [93])
def cm (k : Nat) : List PyData → List (Nat × PyData)
  | [] => []
  | d :: ds => (0, comma) :: (k + 1, d) :: cm k ds
theorem cm_app (k : Nat) (a b : List PyData) : cm k (a ++ b) = cm k a ++ cm k b := by
  induction a with
  | nil => rfl
  | cons d a ih => simp [cm, ih]
theorem pend_cm (k : Nat) (ds : List PyData) : pend (cm k ds) = if ds.isEmpty then some [] else (wDs (k + 1) ds).map fun t => 44 :: t := by
  induction ds with
  | nil => rfl
  | cons d ds ih =>
    simp only [cm, pend, one, wDs, comma, tl_S, ih, Option.bind_some, List.isEmpty_cons]
    cases wD (k + 1) d with
    | none => rfl
    | some a =>
      cases ds with
      | nil => simp
      | cons e es =>
        simp only [List.isEmpty_cons, Bool.false_eq_true, if_false, Option.bind_some]
        cases wDs (k + 1) (e :: es) <;> simp
theorem pend_cm1 (k : Nat) (ds : List PyData) : pend ((cm k ds).drop 1) = wDs (k + 1) ds := by
  cases ds with
  | nil => rfl
  | cons d ds =>
    simp only [cm, List.drop_succ_cons, List.drop_zero, pend, one, pend_cm, wDs]
    cases wD (k + 1) d with
    | none => rfl
    | some a =>
      cases ds with
      | nil => simp
      | cons e es =>
        simp only [List.isEmpty_cons, Bool.false_eq_true, if_false, Option.bind_some]
        cases wDs (k + 1) (e :: es) <;> simp
theorem meas_cm (k : Nat) (ds : List PyData) : meas (cm k ds) = szDs ds := by
  induction ds with
  | nil => rfl
  | cons d ds ih => simp only [cm, meas, ih, szDs, comma, szD]; omega
theorem meas_drop (l : List (Nat × PyData)) (n : Nat) : meas (l.drop n) ≤ meas l := by
  induction l generalizing n with
  | nil => simp
  | cons e l ih =>
    cases n with
    | zero => exact Nat.le_refl _
    | succ n => simp only [List.drop_succ_cons, meas]; have := ih n; omega
/-- a tuple opened -/
theorem pend_tup {k : Nat} {ds : List PyData} {l : List (Nat × PyData)} (hk : k + 1 ≤ 1000) : pend ((k + 1, .tuple ds) :: l) = (pend ((cm (k + 1) ds).drop 1 ++ (0, close) :: l)).map fun t => 91 :: t := by
  rw [pend_app, pend_cm1]
  simp only [pend, one, wD, if_pos hk, close, tl_S]
  cases wDs (k + 1 + 1) ds with
  | none => rfl
  | some a =>
    simp only [Option.map_some, Option.bind_some]
    cases pend l with
    | none => rfl
    | some t => simp
theorem meas_tup (k : Nat) (ds : List PyData) (l : List (Nat × PyData)) : meas ((cm k ds).drop 1 ++ (0, close) :: l) + 1 ≤ meas ((k, PyData.tuple ds) :: l) := by
  have h1 := meas_drop (cm k ds) 1
  rw [meas_cm] at h1
  rw [meas_app]
  simp only [meas, szD, close]
  omega
theorem smallDs_get {ds : List PyData} (h : smallDs ds = true) {i : Nat} {d : PyData} (e : ds[i]? = some d) : smallD d = true := by
  induction ds generalizing i with
  | nil => simp at e
  | cons c ds ih =>
    simp only [smallDs, Bool.and_eq_true] at h
    cases i with
    | zero => simp at e; exact e ▸ h.1
    | succ i => exact ih h.2 (by simpa using e)
theorem joinL_nil (fs : List (List Nat)) : TL.joinL [] fs = fs.flatten := by
  induction fs with
  | nil => rfl
  | cons f fs ih =>
    cases fs with
    | nil => simp [TL.joinL]
    | cons g gs =>
      show f ++ ([] ++ TL.joinL [] (g :: gs)) = _
      rw [ih]
      simp
theorem join_S (fs : List (List Nat)) : Txt.join (Str.ofString "") (fs.map S) = S fs.flatten := by
  apply str_ext
  rw [show (Txt.join (Str.ofString "") (fs.map S)).cps.toList = TL.tl (Txt.join (Str.ofString "") (fs.map S)) from rfl, TL.join_eq, TL.tl_join]
  rw [show TL.tl (Str.ofString "") = [] by decide +kernel, List.map_map, show (TL.tl ∘ S) = id from rfl, List.map_id, joinL_nil]
  rfl
theorem lens_S (fs : List (List Nat)) : ((fs.map S).map (·.length)).sum = fs.flatten.length := by
  induction fs with
  | nil => rfl
  | cons f fs ih => simp only [List.map_cons, List.sum_cons, ih, len_S, List.flatten_cons, List.length_append]
/-! ### the stack in the heap -/
def It1 (K : PySem.W.Frag) (H0 H : Hp) (a : Addr) (e : Nat × PyData) : Prop := ∃ v, SqT K H a [v, .int ((e.1 : Nat) : Int)] ∧ Dp K H0 v e.2 ∧ smallD e.2 = true ∧ (e.1 = 0 → ∃ z, e.2 = .str z)
inductive Stk (K : PySem.W.Frag) (H0 H : Hp) : List Addr → List (Nat × PyData) → Prop
  | nil : Stk K H0 H [] []
  | cons {a e as l} : It1 K H0 H a e → Stk K H0 H as l → Stk K H0 H (a :: as) (e :: l)
theorem Stk.tx {K : PySem.W.Frag} {H0 H H' : Hp} {as : List Addr} {l : List (Nat × PyData)} (t : Tx H H') (h : Stk K H0 H as l) : Stk K H0 H' as l := by
  induction h with
  | nil => exact .nil
  | cons a b ih =>
    obtain ⟨v, h1, h2⟩ := a
    exact .cons ⟨v, t.sqt h1, h2⟩ ih
theorem Stk.len {K : PySem.W.Frag} {H0 H : Hp} {as : List Addr} {l : List (Nat × PyData)} (h : Stk K H0 H as l) : as.length = l.length := by
  induction h with
  | nil => rfl
  | cons _ _ ih => rw [List.length_cons, List.length_cons, ih]
/-- the two lists, and the rest kept -/
structure WH (K : PySem.W.Frag) (H0 H : Hp) (Wa Fa : Addr) (as : List Addr) (l : List (Nat × PyData)) (fs : List (List Nat)) : Prop where
  sm : Same H0 H
  w : H Wa = some (.lst (as.map V.ref).reverse)
  f : H Fa = some (.lst (fs.map fun q => V.str (S q)))
  s : Stk K H0 H as l
  bw : H0 Wa = none
  bf : H0 Fa = none
  ne : Wa ≠ Fa
section
variable {K : PySem.W.Frag} {H0 H : Hp} {Wa Fa : Addr} {as : List Addr} {l : List (Nat × PyData)} {fs : List (List Nat)}
theorem WH.push (g : WH K H0 H Wa Fa as l fs) {p : Addr} {v : V} {k : Nat} {d : PyData} (hp : H p = none) (hd : Dp K H0 v d) (hs : smallD d = true) (hk : k = 0 → ∃ z, d = .str z) :
    WH K H0 (upd (upd H p (.tup [v, .int (k : Int)])) Wa (.lst ((as.map V.ref).reverse ++ [.ref p]))) Wa Fa (p :: as) ((k, d) :: l) fs := by
  have np : p ≠ Wa := (ne_of_none g.w hp).symm
  have nf : Fa ≠ p := ne_of_none g.f hp
  have t1 : Tx H (upd H p (.tup [v, .int (k : Int)])) := Tx.nw hp
  have t2 : Tx (upd H p (.tup [v, .int (k : Int)])) (upd (upd H p (.tup [v, .int (k : Int)])) Wa (.lst ((as.map V.ref).reverse ++ [.ref p]))) := Tx.up (by rw [upd_ne np.symm]; exact g.w) noTup_l
  refine ⟨Same.mut (Same.mut g.sm (Same.none g.sm hp)) g.bw, by rw [upd_same]; simp, by rw [upd_ne g.ne.symm, upd_ne nf]; exact g.f, .cons ⟨v, SqT.of (by rw [upd_ne np, upd_same]), hd, hs, hk⟩ (g.s.tx (t1.trans t2)), g.bw, g.bf, g.ne⟩
theorem WH.pop {a : Addr} {e : Nat × PyData} (g : WH K H0 H Wa Fa (a :: as) (e :: l) fs) : WH K H0 (upd H Wa (.lst (as.map V.ref).reverse)) Wa Fa as l fs := by
  have t : Tx H (upd H Wa (.lst (as.map V.ref).reverse)) := Tx.up g.w noTup_l
  have s : Stk K H0 H as l := by
    cases g.s with
    | cons _ h => exact h
  exact ⟨Same.mut g.sm g.bw, upd_same, by rw [upd_ne g.ne.symm]; exact g.f, s.tx t, g.bw, g.bf, g.ne⟩
theorem WH.put (g : WH K H0 H Wa Fa as l fs) (f : List Nat) : WH K H0 (upd H Fa (.lst ((fs.map fun q => V.str (S q)) ++ [.str (S f)]))) Wa Fa as l (fs ++ [f]) := by
  have t : Tx H (upd H Fa (.lst ((fs.map fun q => V.str (S q)) ++ [.str (S f)]))) := Tx.up g.f noTup_l
  exact ⟨Same.mut g.sm g.bf, by rw [upd_ne g.ne]; exact g.w, by rw [upd_same]; simp, g.s.tx t, g.bw, g.bf, g.ne⟩
theorem WH.same {H' : Hp} (g : WH K H0 H Wa Fa as l fs) (t : Same H H') : WH K H0 H' Wa Fa as l fs :=
  ⟨Same.trans g.sm t, t _ _ g.w, t _ _ g.f, g.s.tx (Tx.of t), g.bw, g.bf, g.ne⟩
end
end WW

set_option maxHeartbeats 4000000
namespace WW
open PySem PySem.Spec PyProof.Rows L2
local macro_rules | `(tactic| walk_at "x") => `(tactic| simp only [tSeq, tNext, tAsg, gName, tRet, tRetN, tIfS, tOp, tUn, rI, rI0, rU, tTest, tB, tAnd, tOr, tNot, tAndV, tOrV, tNotV, tIf, tCons, tNil, tTup, tLst, tCall, tCallS, tMeth, tMake, tFld, sFld, tBM, tBM0, tCB, tSl, tPart, tNoPart, tDrop, tPar, tPar3, tAug, ipI, gTup, gCons, gNil, gSub, rSetL, rAppend, rPop, rIxL, rIxS, rIxT, rEq, rNe, tChain, tNever, tThen, tVar, tC, L2.start, List.map_cons, List.map_nil, List.length_cons, List.length_nil, List.replicate_succ, List.replicate_zero, List.append_nil, List.nil_append, List.cons_append, Nat.reduceAdd, Nat.reduceSub, Nat.add_zero, Nat.zero_add, Nat.sub_zero, Nat.sub_self,
  List.getElem?_cons_zero, List.getElem?_cons_succ, Option.some.injEq, exists_eq_left', exists_eq_left, exists_eq', exists_eq, exists_and_left, List.set_cons_zero, List.set_cons_succ, V.int.injEq, V.bl.injEq, V.str.injEq, V.ref.injEq, V.ty.injEq, List.cons.injEq, and_true, true_and, and_assoc, if_true, if_false, Bool.false_eq_true, reduceCtorEq, false_and, and_false, exists_false, false_or, or_false, Bool.not_true, Bool.not_false, decide_eq_true_eq, ite_true, ite_false, WE, cxOf_K, cxOf_mg, rSlS, scal, wipe, mem_low, mem_dig, mem_brk, mem_brk4, sgn_inj, Bool.decide_eq_true])

def AnsT (K : PySem.W.Frag) (H : Hp) (Q : VK) (E : XK) : Option (List Nat) → Prop
  | some t => ∀ H', Same H H' → Q (.str (S t)) H'
  | none => ∀ H', Same H H' → E (mal K) none H'
def spWrite (K : PySem.W.Frag) : Sp := fun vs H Q E => ∃ x d, vs = [x] ∧ Dp K H x d ∧ smallD d = true ∧ szD d ≤ 1000000 ∧ (∀ t, wD 1 d = some t → t.length ≤ 16000000) ∧ AnsT K H Q E (wD 1 d)
def wInv (K : PySem.W.Frag) (H0 : Hp) (x : V) (d0 : PyData) (tot : Nat) (Wa Fa : Addr) (m : Nat) (σ : L2.St) (H : Hp) : Prop := ∃ as l fs y3 y4 y5, σ = [some x, some (.ref Wa), some (.ref Fa), y3, y4, y5] ∧ WH K H0 H Wa Fa as l fs ∧ m = meas l ∧ fs.length + m ≤ tot ∧ wD 1 d0 = (pend l).map fun t => fs.flatten ++ t
theorem tFor_same {J : It} {n : Nat} {G : Hp → Prop} {Y : Nat → Hp → V → Hp → Prop} {wi : TI} {g : TG} {tb : TS} {D : Ends} {σ : L2.St} {H : Hp} (wk : Walk J n G Y) (hwi : ∀ R : It → Hp → Prop, R J H → wi σ H R) (Pv : Nat → L2.St → Hp → Prop) (h0 : Pv 0 σ H)
    (hG : ∀ i σ H, i ≤ n → Pv i σ H → G H) (hs : ∀ i x σ H H', i < n → Pv i σ H → Y i H x H' → g x σ H' fun σ2 H2 => tb { D with nx := Pv (i + 1), ct := Pv (i + 1), bk := D.nx } σ2 H2) (hd : ∀ σ H, Pv n σ H → D.nx σ H) : tFor wi g tb D σ H :=
  hwi _ (for_it wk Pv h0 hG hs hd)
theorem short_P43 {i : Int} (h : shortI i = true) : i.natAbs < P43 := by
  simp only [shortI, Bool.and_eq_true, decide_eq_true_eq] at h
  have b := bigP_bits 125
  have e : 2 ^ (107 * 125 + 1) ≤ P43 := by decide +kernel
  omega
theorem wD_atom {k : Nat} {d : PyData} (h : isa d "tuple" = false ∨ ¬ k ≤ 1000) : wD k d = if wordD d || shortD d then some (strD d) else none := by
  cases d with
  | tuple ds =>
    rcases h with h | h
    · cases h
    · simp only [wD, if_neg h, wordD, shortD, Bool.or_self, Bool.false_eq_true, if_false]
  | _ => simp [wD, wordD, shortD, strD]
theorem atom_ok {K : PySem.W.Frag} {H0 H2 : Hp} {Wa Fa : Addr} {as : List Addr} {l : List (Nat × PyData)} {fs : List (List Nat)} {v : V} {d : PyData} {F Er : Hp → Prop} {W1 W2 : XK}
    (g : WH K H0 H2 Wa Fa as l fs) (hd : Dp K H0 v d) (hs : smallD d = true) (hl : fs.length < sizeLine) (hok : (wordD d || shortD d) = true → ∀ H', WH K H0 H' Wa Fa as l (fs ++ [strD d]) → F H') (hno : (wordD d || shortD d) = false → ∀ H', Same H0 H' → Er H') :
    spIsWord K [v] H2 (fun x_2 H1 => ∃ c, x_2 = V.bl c ∧ if c = true then (tyV K "list" (V.ref Fa) H1 ∧ rStr1 [v] H1 fun x_3 H1 => ∃ x_4, H1 Fa = some (HO.lst x_4) ∧ x_4.length < sizeLine ∧ F (upd H1 Fa (HO.lst (x_4 ++ [x_3])))) else
      spIsShort K [v] H1 (fun x_3 H1 => ∃ c, x_3 = V.bl c ∧ if c = true then (tyV K "list" (V.ref Fa) H1 ∧ rStr1 [v] H1 fun x_4 H1 => ∃ x_5, H1 Fa = some (HO.lst x_5) ∧ x_5.length < sizeLine ∧ F (upd H1 Fa (HO.lst (x_5 ++ [x_4])))) else Er H1) W2) W1 := by
  refine ⟨v, d, rfl, Dp.sm g.sm d v hd, ?_, fun H3 s3 => ⟨_, rfl, ?_⟩⟩
  · rintro z rfl
    cases hd
    simpa [smallD] using hs
  have g3 := g.same s3
  by_cases h1 : wordD d = true
  · rw [if_pos h1]
    refine ⟨tyLst g3.f, ?_⟩
    cases hd with
    | str z =>
      refine ⟨_, rfl, _, g3.f, by rw [List.length_map]; exact hl, hok (by rw [h1]; rfl) _ (g3.put (strD (.str z)))⟩
    | _ => cases h1
  · rw [if_neg h1]
    refine ⟨v, d, rfl, Dp.sm g3.sm d v hd, _, rfl, ?_⟩
    have h1' : wordD d = false := by cases q : wordD d <;> simp_all
    by_cases h2 : shortD d = true
    · rw [if_pos h2]
      refine ⟨tyLst g3.f, ?_⟩
      cases hd with
      | int i =>
        refine ⟨_, rfl, short_P43 h2, _, g3.f, by rw [List.length_map]; exact hl, hok (by rw [h2]; simp) _ (g3.put (strD (.int i)))⟩
      | _ => cases h2
    · rw [if_neg h2]
      exact hno (by rw [h1']; simpa using h2) H3 g3.sm
section
variable {P : Program} {w : World} {K : PySem.W.Frag} {mg : Str → Option Value} {base : Heap}
theorem o_write_data (W : Wd fa fn K mg) : OkF P w K mg base d_write_data 3 ["data"] (spWrite K) := by
  have o_is_word := (o_is_word (P := P) (w := w) (base := base) W).mono (show 1 ≤ 2 by decide)
  have o_is_short := (o_is_short (P := P) (w := w) (base := base) W).mono (show 2 ≤ 2 by decide)
  obtain ⟨fd_is_word, F_is_word, b_is_word, k_is_word⟩ := o_is_word.ex; obtain ⟨fd_is_short, F_is_short, b_is_short, k_is_short⟩ := o_is_short.ex
  refine okf W (d := d_write_data) 3 sc_write_data rfl rfl (fun _ _ _ _ _ _ us hl => match us, hl with | [_], _ => rfl) ?len (fun cdv A outer s H vs Q E hr nd hu tk po h => ?body)
  case len =>
    rintro vs H Q E ⟨_, _, rfl, _⟩
    rfl
  case body =>
    refine ⟨_, (pss_cons (ps_par (i := 1) (j := 2) (by rfl) nd rfl rfl (by decide) rfl rfl (pa_cons (pe_lst (pa_cons (pe_tup (pa_cons (pv 0) (pa_cons pe_int pa_nil))) pa_nil)) (pa_cons (pe_lst pa_nil) pa_nil)) (by rfl))
    (pss_cons (ps_while po (pt_cmpR op_gt (pe_callB call_len (by rfl) (W.free 6) (by decide +kernel) (pa_cons (pv 1) pa_nil)) pe_int (nomark _))
      (pss_cons (ps_asg (pe_bm0 PySem.F.plainAttrs_list PySem.F.slot_list_pop PySem.F.type_list_pop mt_pop (pv 1)) (pg_tup rfl (pgs_cons (pg_name (i := 3) nd rfl (by first | exact Or.inl rfl | exact Or.inr rfl)) (pgs_cons (pg_name (i := 4) nd rfl (by first | exact Or.inl rfl | exact Or.inr rfl)) pgs_nil))))
    (pss_one (ps_if (pt_cmpR op_eq (pv 4) pe_int (nomark _)) (pss_one (ps_expr (pe_bm PySem.F.plainAttrs_list PySem.F.slot_list_append PySem.F.type_list_append mt_append (pv 2) (pa_cons (pv 3) pa_nil)))) (pss_one (ps_if (PW.pt (pw_and (pt_val (pe_callB call_isiV (by rfl) (W.free 0) (by decide +kernel) (pa_cons (pv 3) (pa_cons (pe_bltn (v := .ty "tuple") (u := .type "tuple") rfl (W.free 13) (by decide +kernel) rfl) pa_nil)))) (pw_and1 (pt_cmpR op_le (pv 4) (C8.pe_gc rfl (W.intV 12)) (nomark _))))) (pss_cons (ps_expr (pe_bm PySem.F.plainAttrs_list PySem.F.slot_list_append PySem.F.type_list_append mt_append (pv 2) (pa_cons pe_str pa_nil)))
    (pss_cons (ps_expr (pe_bm PySem.F.plainAttrs_list PySem.F.slot_list_append PySem.F.type_list_append mt_append (pv 1) (pa_cons (pe_tup (pa_cons pe_str (pa_cons pe_int pa_nil))) pa_nil)))
    (pss_one (ps_for po rfl (pi_range3 rfl (W.free 10) (pa_cons (pe_op op_sub (pe_callB call_len (by rfl) (W.free 6) (by decide +kernel) (pa_cons (pv 3) pa_nil)) pe_int) (pa_cons (pe_un un_neg pe_int) (pa_cons (pe_un un_neg pe_int) pa_nil)))) (pg_name (i := 5) nd rfl (by first | exact Or.inl rfl | exact Or.inr rfl))
      (pss_cons (ps_expr (pe_bm PySem.F.plainAttrs_list PySem.F.slot_list_append PySem.F.type_list_append mt_append (pv 1) (pa_cons (pe_tup (pa_cons (pe_ix ix_seq (pv 3) (pv 5) (fun _ _ => rfl)) (pa_cons (pe_op op_add (pv 4) pe_int) pa_nil))) pa_nil)))
    (pss_one (ps_if (pt_cmpR op_gt (pv 5) pe_int (nomark _)) (pss_one (ps_expr (pe_bm PySem.F.plainAttrs_list PySem.F.slot_list_append PySem.F.type_list_append mt_append (pv 1) (pa_cons (pe_tup (pa_cons pe_str (pa_cons pe_int pa_nil))) pa_nil)))) pss_nil))))))) (pss_one (ps_if (PW.pt (pw_or (pt_val (by exact (pe_callS F_is_word (hr.mono (by first | decide | omega)) rfl (W.glo 15) k_is_word b_is_word (fun σ => passAt tk σ) (by exact (pa_cons (pv 3) pa_nil))))) (pw_or1 (pt_val (by exact (pe_callS F_is_short (hr.mono (by first | decide | omega)) rfl (W.glo 14) k_is_short b_is_short (fun σ => passAt tk σ) (by exact (pa_cons (pv 3) pa_nil)))))))) (pss_one (ps_expr (pe_bm PySem.F.plainAttrs_list PySem.F.slot_list_append PySem.F.type_list_append mt_append (pv 2) (pa_cons (pe_callTy (call_str1 rfl W.dg) (by rfl) (W.free 8) (by decide +kernel) (pa_cons (pv 3) pa_nil)) pa_nil)))) (pss_one (ps_raise rfl tk (W.pmk 16 17 rfl)))))))))))
    (pss_one (ps_ret (pe_bm PySem.F.plainAttrs_str PySem.F.slot_str_join PySem.F.type_str_join mt_join pe_str (pa_cons (pv 2) pa_nil)))))), ?_⟩
    obtain ⟨x, d, rfl, hd, hsm, htot, hlen, ha⟩ := h
    clear tk po
    walk_at "x"
    refine ⟨by decide, fun p hp => ⟨by decide, fun Wa hWa => ⟨by decide, fun Fa hFa => ?_⟩⟩⟩
    have nWp : Wa ≠ p := fun e => by rw [e, upd_same] at hWa; cases hWa
    rw [upd_ne nWp] at hWa
    have nFW : Fa ≠ Wa := fun e => by rw [e, upd_same] at hFa; cases hFa
    rw [upd_ne nFW] at hFa
    have nFp : Fa ≠ p := fun e => by rw [e, upd_same] at hFa; cases hFa
    rw [upd_ne nFp] at hFa
    have g0 : WH K H (upd (upd (upd H p (HO.tup [x, V.int 1])) Wa (HO.lst [V.ref p])) Fa (HO.lst [])) Wa Fa [p] [(1, d)] [] := by
      refine ⟨Same.mut (Same.mut (Same.new hp) hWa) hFa, by rw [upd_ne nFW.symm, upd_same]; rfl, by rw [upd_same]; rfl, .cons ⟨x, SqT.of (by rw [upd_ne nFp.symm, upd_ne nWp.symm, upd_same]; rfl), hd, hsm, fun e => by cases e⟩ .nil, hWa, hFa, nFW.symm⟩
    unfold tWhile
    refine ⟨wInv K H x d 1000000 Wa Fa, ⟨_, [p], [(1, d)], [], none, none, none, rfl, g0, rfl, by simpa [meas] using htot, ?_⟩, ?_⟩
    · simp only [pend, one, List.flatten_nil, List.nil_append]
      cases wD 1 d <;> simp
    rintro m σ H1 ⟨as, l, fs, y3, y4, y5, rfl, g, rfl, hm, he⟩
    walk_at "x"
    refine ⟨as.length, .inl ⟨_, SqL.of g.w, by simp⟩, ?_⟩
    have hal := g.s.len
    cases l with
    | nil =>
      rw [if_neg (by rw [hal]; decide)]
      simp only [pend, Option.map_some, List.append_nil] at he
      rw [he] at ha
      have hln := hlen _ he
      have hl2 := lens_S fs
      refine ⟨rfl, fs.map S, .inl (SqL.of (by rw [List.map_map]; exact g.f)), by rw [hl2, show (Str.ofString "").length = 0 by decide +kernel]; omega, ?_⟩
      rw [join_S]
      exact ha _ g.sm
    | cons e l =>
      obtain ⟨a, as', rfl⟩ : ∃ a as', as = a :: as' := by
        cases as with
        | nil => simp at hal
        | cons a as' => exact ⟨a, as', rfl⟩
      rw [if_pos (by rw [List.length_cons]; omega)]
      obtain ⟨k, d1⟩ := e
      have hx : ((a :: as').map V.ref).reverse = (as'.map V.ref).reverse ++ [.ref a] := by simp
      have hw : H1 Wa = some (.lst ((as'.map V.ref).reverse ++ [.ref a])) := by rw [← hx]; exact g.w
      have ix : ((as'.map V.ref).reverse ++ [V.ref a])[((as'.map V.ref).reverse ++ [V.ref a]).length - 1]? = some (.ref a) := by simp
      have dl : ((as'.map V.ref).reverse ++ [V.ref a]).dropLast = (as'.map V.ref).reverse := List.dropLast_concat
      have g1 := g.pop
      obtain ⟨v, q1, q2, q3, q4⟩ : It1 K H H1 a (k, d1) := by
        cases g.s with
        | cons h _ => exact h
      simp only at q1 q2 q3 q4
      have t1 : Tx H1 (upd H1 Wa (.lst (as'.map V.ref).reverse)) := Tx.up g.w noTup_l
      refine ⟨fun σ' H' => ∃ m', m' < meas ((k, d1) :: l) ∧ wInv K H x d 1000000 Wa Fa m' σ' H', fun σ' H' h => h, tyLst g.w, _, hw, _, ix, a, rfl, _, by rw [dl]; exact t1.sqt q1, rfl, _, _, rfl, _, _, rfl, rfl, rfl, ?_⟩
      rw [dl]
      generalize hH2 : upd H1 Wa (.lst (as'.map V.ref).reverse) = H2 at g1 t1
      have mp := szD_pos d1
      have ml := meas_len l
      have hal' := g1.s.len
      simp only [meas] at hm
      have F0 : ∀ (f : List Nat) (y3 y4 y5 : Option V), one k d1 = some f → ∀ H', WH K H H' Wa Fa as' l (fs ++ [f]) → ∃ m', m' < meas ((k, d1) :: l) ∧ wInv K H x d 1000000 Wa Fa m' [some x, some (V.ref Wa), some (V.ref Fa), y3, y4, y5] H' := by
        intro f y3 y4 y5 hf H' g'
        refine ⟨meas l, by simp only [meas]; omega, as', l, fs ++ [f], y3, y4, y5, rfl, g', rfl, by rw [List.length_append, List.length_singleton]; omega, ?_⟩
        rw [he]
        simp only [pend, hf, Option.bind_some]
        cases pend l <;> simp
      have szl : sizeLine = 16777216 := sizeLine_eq
      cases k with
      | zero =>
        rw [if_pos (show V.int ((0 : Nat) : Int) = V.int 0 from rfl)]
        obtain ⟨z, rfl⟩ := q4 rfl
        cases q2
        exact ⟨tyLst g1.f, _, g1.f, by rw [List.length_map]; omega, F0 _ _ _ _ rfl _ (g1.put z.cps.toList)⟩
      | succ k =>
        rw [if_neg (by simp only [V.int.injEq]; omega)]
        have hno : (wordD d1 || shortD d1) = false → (isa d1 "tuple" = false ∨ ¬ (k + 1) ≤ 1000) → ∀ H', Same H H' → E (mal K) none H' := by
          intro h1 h2
          have e : wD 1 d = none := by
            rw [he]
            simp only [pend, one, wD_atom h2, h1, Bool.false_eq_true, if_false, Option.bind_none, Option.map_none]
          rw [e] at ha
          exact ha
        refine ⟨v, "tuple", rfl, by decide, _, IsaV.of (Dp.sm g1.sm d1 v q2), _, rfl, ?_⟩
        rcases Bool.eq_false_or_eq_true (isa d1 "tuple") with ht | ht
        · rw [if_pos ht]
          refine ⟨_, rfl, ?_⟩
          by_cases hk : k + 1 ≤ 1000
          · rw [if_pos (by omega)]
            cases q2 with
            | @tup a1 vs ds r1 r2 =>
              have g2 := g1.put [91]
              simp only [ob_lit, cb_lit, co_lit]
              refine ⟨tyLst g1.f, _, g1.f, by rw [List.length_map]; omega, tyLst g2.w, by decide, fun p2 hp2 => ?_⟩
              have np2 : Wa ≠ p2 := ne_of_none g2.w hp2
              rw [upd_ne np2]
              refine ⟨_, g2.w, by simp only [List.length_reverse, List.length_map]; omega, ?_⟩
              have g3 := g2.push (k := 0) (d := close) hp2 (.str _) rfl fun _ => ⟨_, rfl⟩
              have hvl := DpAll.length r2
              have szl2 : 2 * ds.length ≤ szD (.tuple ds) := by
                simp only [szD]
                have : ∀ es : List PyData, 2 * es.length ≤ szDs es := by
                  intro es
                  induction es with
                  | nil => simp
                  | cons c es ih => have := szD_pos c; simp only [szDs, List.length_cons]; omega
                have := this ds
                omega
              refine tFor_same (walk_rangeC (lo := (ds.length : Int) - 1) (c := -1) (n := ds.length)) ?_ (fun j σ H' => ∃ y, σ = [some x, some (V.ref Wa), some (V.ref Fa), some (.ref a1), some (V.int ((k + 1 : Nat) : Int)), y] ∧ ∃ as2, WH K H H' Wa Fa as2 ((cm (k + 1) (ds.drop (ds.length - j))).drop (if ds.length - j = 0 then 1 else 0) ++ (0, close) :: l) (fs ++ [[91]])) ?_ (fun _ _ _ _ _ => trivial) ?_ ?_
              · intro R hR
                simp only [iRng3]
                walk_at "x"
                refine ⟨ds.length, .inr ⟨vs, (Tx.of g3.sm).sqt r1, hvl.symm⟩, ds.length, ?_, hR⟩
                have := RgC.neg (i := (ds.length : Int) - 1) (j := -1) (by omega) (by omega) (by decide) (by decide)
                rw [show ((ds.length : Int) - 1 - -1).toNat = ds.length by omega] at this
                exact this
              · refine ⟨_, rfl, p2 :: as', ?_⟩
                rw [Nat.sub_zero, List.drop_length]
                simpa [cm] using g3
              · rintro j xx σ H3 H4 hj ⟨y, rfl, as2, g4⟩ ⟨rfl, rfl⟩
                obtain ⟨i, hi⟩ : ∃ i, ds.length - j = i + 1 := ⟨ds.length - j - 1, by omega⟩
                rw [hi, if_neg (by omega), List.drop_zero] at g4
                have hil : i < ds.length := by omega
                have ei : ds[i]? = some ds[i] := List.getElem?_eq_getElem hil
                have evi : vs[i]? = some (vs[i]'(by omega)) := List.getElem?_eq_getElem (by omega)
                obtain ⟨d', hd', hdp⟩ := DpAll.get r2 evi
                rw [ei] at hd'
                cases hd'
                have hsi := smallDs_get (by simpa only [smallD] using q3) ei
                have hal4 := g4.s.len
                have hml := meas_len ((cm (k + 1) (ds.drop (i + 1))) ++ (0, close) :: l)
                have hms : meas ((cm (k + 1) (ds.drop (i + 1))) ++ (0, close) :: l) ≤ meas (cm (k + 1) ds) + 1 + meas l := by
                  rw [meas_app]
                  have e := cm_app (k + 1) (ds.take (i + 1)) (ds.drop (i + 1))
                  rw [List.take_append_drop] at e
                  rw [e, meas_app]
                  simp only [meas, close, szD]
                  omega
                rw [meas_cm] at hms
                simp only [szD] at hm
                walk_at "x"
                simp only [rIx]
                refine ⟨tyLst g4.w, .inr (.inl ⟨a1, vs, _, vs[i]'(by omega), rfl, rfl, (Tx.of g4.sm).sqt r1, ?_, by decide, fun p5 hp5 => ?_⟩)⟩
                · rw [show (ds.length : Int) - 1 + ((j : Nat) : Int) * -1 = ((i : Nat) : Int) by omega]
                  exact atI_nat evi
                rw [upd_ne (ne_of_none g4.w hp5)]
                refine ⟨_, g4.w, by simp only [List.length_reverse, List.length_map]; omega, ?_⟩
                have g5 := g4.push (k := k + 1 + 1) (d := ds[i]) hp5 hdp hsi fun e => by cases e
                rw [show (((k + 1 : Nat) : Int) + 1) = ((k + 1 + 1 : Nat) : Int) from rfl]
                generalize hH5 : upd (upd H4 p5 (HO.tup [vs[i], V.int ((k + 1 + 1 : Nat) : Int)])) Wa (HO.lst ((as2.map V.ref).reverse ++ [V.ref p5])) = H5 at g5 ⊢
                have ed : cm (k + 1) (ds.drop i) = (0, comma) :: (k + 1 + 1, ds[i]) :: cm (k + 1) (ds.drop (i + 1)) := by
                  rw [drop_at ei]
                  rfl
                have hn : ds.length - (j + 1) = i := by omega
                by_cases h0 : i = 0
                · rw [if_neg (by omega)]
                  refine ⟨p5 :: as2, ?_⟩
                  rw [hn, if_pos h0, ed]
                  exact g5
                · rw [if_pos (by omega)]
                  refine ⟨tyLst g5.w, by decide, fun p6 hp6 => ?_⟩
                  rw [upd_ne (ne_of_none g5.w hp6)]
                  have hal5 := g5.s.len
                  refine ⟨_, g5.w, by simp only [List.length_reverse, List.length_map, List.length_cons]; omega, ?_⟩
                  have g6 := g5.push (k := 0) (d := comma) hp6 (.str _) rfl fun _ => ⟨_, rfl⟩
                  refine ⟨p6 :: p5 :: as2, ?_⟩
                  rw [hn, if_neg h0, ed]
                  exact g6
              · rintro σ H3 ⟨y, rfl, as2, g4⟩
                rw [Nat.sub_self, if_pos rfl, List.drop_zero] at g4
                have mt := meas_tup (k + 1) ds l
                refine ⟨_, Nat.lt_of_lt_of_le (Nat.lt_succ_self _) mt, as2, _, _, _, _, _, rfl, g4, rfl, ?_, ?_⟩
                · rw [List.length_append, List.length_singleton]
                  simp only [meas] at mt
                  omega
                · rw [he, pend_tup hk]
                  cases pend ((cm (k + 1) ds).drop 1 ++ (0, close) :: l) <;> simp
            | _ => cases ht
          · rw [if_neg (by omega)]
            exact atom_ok (F := fun H' => ∃ m', m' < meas ((k + 1, d1) :: l) ∧ wInv K H x d 1000000 Wa Fa m' _ H') (Er := fun H' => E (mal K) none H') g1 q2 q3 (by omega) (fun h H' g' => F0 _ _ _ _ (by simp only [one, wD_atom (.inr hk), h, if_true]) H' g') fun h => hno h (.inr hk)
        · rw [if_neg (by rw [ht]; decide)]
          exact atom_ok (F := fun H' => ∃ m', m' < meas ((k + 1, d1) :: l) ∧ wInv K H x d 1000000 Wa Fa m' _ H') (Er := fun H' => E (mal K) none H') g1 q2 q3 (by omega) (fun h H' g' => F0 _ _ _ _ (by simp only [one, wD_atom (.inl ht), h, if_true]) H' g') fun h => hno h (.inl ht)
end
end WW

set_option maxHeartbeats 4000000
namespace WW
open PySem PySem.Spec PyProof.Rows L2
local macro_rules | `(tactic| walk_at "x") => `(tactic| simp only [tSeq, tNext, tAsg, gName, tRet, tRetN, tIfS, tOp, tUn, rI, rI0, rU, tTest, tB, tAnd, tOr, tNot, tAndV, tOrV, tNotV, tIf, tCons, tNil, tTup, tLst, tCall, tCallS, tMeth, tMake, tFld, sFld, tBM, tBM0, tCB, tSl, tPart, tNoPart, tDrop, tPar, tPar3, tAug, ipI, gTup, gCons, gNil, gSub, rSetL, rAppend, rPop, rIxL, rIxS, rIxT, rEq, rNe, tChain, tNever, tThen, tVar, tC, L2.start, List.map_cons, List.map_nil, List.length_cons, List.length_nil, List.replicate_succ, List.replicate_zero, List.append_nil, List.nil_append, List.cons_append, Nat.reduceAdd, Nat.reduceSub, Nat.add_zero, Nat.zero_add, Nat.sub_zero, Nat.sub_self,
  List.getElem?_cons_zero, List.getElem?_cons_succ, Option.some.injEq, exists_eq_left', exists_eq_left, exists_eq', exists_eq, exists_and_left, List.set_cons_zero, List.set_cons_succ, V.int.injEq, V.bl.injEq, V.str.injEq, V.ref.injEq, V.ty.injEq, List.cons.injEq, and_true, true_and, and_assoc, if_true, if_false, Bool.false_eq_true, reduceCtorEq, false_and, and_false, exists_false, false_or, or_false, Bool.not_true, Bool.not_false, decide_eq_true_eq, ite_true, ite_false, WE, cxOf_K, cxOf_mg, rSlS, scal, wipe, mem_low, mem_dig, mem_brk, mem_brk4, sgn_inj, Bool.decide_eq_true])

structure DrAt (H : Hp) (dr cs : Addr) (ns : List Int) (p q sd : Int) : Prop where
  d : H dr = some (.lst [.ref cs, .int p, .int q, .int sd])
  c : H cs = some (.lst (ns.map V.int))
  pp : -1 ≤ p
  qq : 0 ≤ q
  s0 : 0 ≤ sd
  s1 : sd < 2147483648
def Dr (H : Hp) (dr cs : Addr) : Prop := ∃ ns p q sd, DrAt H dr cs ns p q sd ∧ (∀ n ∈ ns, 0 ≤ n) ∧ ns.length ≤ 1000
theorem DrAt.ne {H : Hp} {dr cs : Addr} {ns : List Int} {p q sd : Int} (g : DrAt H dr cs ns p q sd) : cs ≠ dr := by
  rintro rfl
  have := g.c.symm.trans g.d
  cases ns with
  | nil => cases this
  | cons n ns => simp at this
theorem DrAt.mk' {H : Hp} {dr cs : Addr} {ns : List Int} {p q sd p' q' sd' : Int} (g : DrAt H dr cs ns p q sd) (a1 : -1 ≤ p') (a2 : 0 ≤ q') (a3 : 0 ≤ sd') (a4 : sd' < 2147483648) : DrAt (upd H dr (.lst [.ref cs, .int p', .int q', .int sd'])) dr cs ns p' q' sd' :=
  ⟨upd_same, by rw [upd_ne g.ne]; exact g.c, a1, a2, a3, a4⟩
theorem SqL.same {K : PySem.W.Frag} {H H' : Hp} {a : Addr} {xs : List V} (t : Same H H') (h : SqL K H a xs) : SqL K H' a xs := Same.seq t h
def spDraw (K : PySem.W.Frag) : Sp := fun vs H Q _ => ∃ (l : Addr) (ns : List Int), vs = [.ref l] ∧ SqL K H l (ns.map V.int) ∧ ns.length ≤ 63 ∧ ∀ dr cs H', Same H H' → H dr = none → H cs = none → Dr H' dr cs → Q (.ref dr) H'
def spTake1 : Sp := fun vs H Q _ => ∃ (dr cs : Addr) (m : Int), vs = [.ref dr, .int m] ∧ 0 < m ∧ m < 1000000 ∧ Dr H dr cs ∧ ∀ (n : Nat) H', (n : Int) < m → (∀ a, a ≠ dr → H' a = H a) → Dr H' dr cs → Q (.int (n : Int)) H'
def spLWord (K : PySem.W.Frag) : Sp := fun vs H Q _ => ∃ x d, vs = [x] ∧ Dp K H x d ∧ (∀ z, x = .str z → z.length ≤ 1000000) ∧ ∀ H', Same H H' → Q (.bl (wordD d)) H'
def oV : Option Int → V
  | some i => .int i
  | none => .non
def spNum : Sp := fun vs H Q _ => ∃ z : Str, vs = [.str z] ∧ z.length ≤ 4000 ∧ ∀ H', Same H H' → Q (oV (wholeL z.cps.toList)) H'
theorem lit_a : (Str.ofString "a").cps.toList = [97] := by decide +kernel
theorem lit_z : (Str.ofString "z").cps.toList = [122] := by decide +kernel
theorem lit_0 : (Str.ofString "0").cps.toList = [48] := by decide +kernel
theorem lit_9 : (Str.ofString "9").cps.toList = [57] := by decide +kernel
theorem lt1 (a b : Nat) : ([a] < [b]) = (a < b) := propext ⟨fun h => by rcases List.cons_lt_cons_iff.mp h with h | h; exact h; exact absurd h.2 (List.not_lt_nil _), fun h => List.cons_lt_cons_iff.mpr (.inl h)⟩
theorem le_not (n c : Nat) : decide (c ≤ n) = !decide (n < c) := by
  by_cases h : n < c
  · rw [decide_eq_true h, decide_eq_false (by omega)]; rfl
  · rw [decide_eq_false h, decide_eq_true (by omega)]; rfl
theorem empty_lit : Str.ofString "" = S [] := by decide +kernel
section
variable {P : Program} {w : World} {K : PySem.W.Frag} {mg : Str → Option Value} {base : Heap}
theorem o__law_draw (W : Wd fa fn K mg) : OkF P w K mg base d__law_draw 1 ["script"] (spDraw K) := by
  refine okf W (d := d__law_draw) 13 sc__law_draw rfl rfl (fun _ _ _ _ _ _ us hl => match us, hl with | [_], _ => rfl) ?len (fun cdv A outer s H vs Q E hr nd hu tk po h => ?body)
  case len =>
    rintro vs H Q E ⟨_, _, rfl, _⟩
    rfl
  case body =>
    refine ⟨_, (pss_cons (ps_set (i := 1) nd rfl (by first | exact Or.inl rfl | exact Or.inr rfl) pe_int)
    (pss_cons (ps_for po rfl (pi_list (pv 0)) (pg_name (i := 2) nd rfl (by first | exact Or.inl rfl | exact Or.inr rfl))
      (pss_one (ps_set (i := 1) nd rfl (by first | exact Or.inl rfl | exact Or.inr rfl) (pe_op op_mod (pe_callTy call_int1 (by rfl) (W.free 2) (by decide +kernel) (pa_cons (pe_op op_add (pe_op op_add (pe_op op_mul (pv 1) pe_int) (pe_op op_mod (pe_callB call_abs (by rfl) (W.free 29) (by decide +kernel) (pa_cons (pe_callTy call_int1 (by rfl) (W.free 2) (by decide +kernel) (pa_cons (pv 2) pa_nil)) pa_nil)) pe_int)) pe_int) pa_nil)) pe_int))))
    (pss_one (ps_ret (pe_lst (pa_cons (pe_lc (own := [("cell", 2)]) (g := (gName 2)) (tt := tYes) rfl nd (pi_list (pv 0)) (blkOk_by (own := [("cell", 2)]) (N := ["script", "seed", "cell"]) (sc := defScope s__law_draw) (by decide +kernel)) (fun _ _ _ _ _ => (pg_name (i := 2) nd rfl (by first | exact Or.inl rfl | exact Or.inr rfl))) (fun _ _ _ _ _ => pts_nil) (fun _ _ _ _ _ => (pe_callB call_abs (by rfl) (W.free 29) (by decide +kernel) (pa_cons (pe_callTy call_int1 (by rfl) (W.free 2) (by decide +kernel) (pa_cons (pv 2) pa_nil)) pa_nil)))) (pa_cons (pe_un un_neg pe_int) (pa_cons pe_int (pa_cons (pv 1) pa_nil))))))))), ?_⟩
    obtain ⟨l, ns, rfl, hs, hl, hq⟩ := h
    clear tk po
    walk_at "x"
    refine tFor_same (walk_list (K := K) (a := l) (xs := ns.map V.int)) ?_ (fun i σ H' => H' = H ∧ ∃ sd y, σ = [some (.ref l), some (.int sd), y] ∧ 0 ≤ sd ∧ sd < 2147483648) ⟨rfl, 7, none, rfl, by decide, by decide⟩ (fun _ _ _ _ h => h.1 ▸ hs) ?_ ?_
    · intro R hR
      simp only [iList]
      walk_at "x"
      exact ⟨⟨_, hs⟩, hR⟩
    · rintro i x σ H1 H2 hi ⟨rfl, sd, y, rfl, s0, s1⟩ ⟨rfl, hx⟩
      rw [List.getElem?_map] at hx
      obtain ⟨c, _, rfl⟩ := Option.map_eq_some_iff.mp hx
      walk_at "x"
      refine ⟨.inr ⟨by omega, by omega⟩, by decide, by decide, ?_, ?_⟩ <;> omega
    · rintro σ H1 ⟨rfl, sd, y, rfl, s0, s1⟩
      walk_at "x"
      refine tLc_of (walk_list (K := K) (a := l) (xs := ns.map V.int)) (H1 := H1) ?_ (fun D i H' => Same H1 H' ∧ H1 D = none ∧ H' D = some (.lst (((ns.map fun c => if c < 0 then -c else c).take i).map V.int))) ?_ ?_ ?_ ?_
      · intro R hR
        simp only [iList]
        walk_at "x"
        exact ⟨⟨_, hs⟩, hR⟩
      · intro D hD
        exact ⟨Same.new hD, hD, upd_same⟩
      · rintro D i H' _ ⟨sm, hD, _⟩
        exact (SqL.same sm hs)
      · rintro D i x H2 H3 hi ⟨sm, hD, h2⟩ ⟨rfl, hx⟩
        rw [List.length_map] at hi
        rw [List.getElem?_map] at hx
        obtain ⟨c, hc, rfl⟩ := Option.map_eq_some_iff.mp hx
        walk_at "x"
        refine ⟨_, h2, by rw [List.length_map, List.length_take, List.length_map, sizeLine_eq]; omega, Same.mut sm hD, hD, ?_⟩
        rw [List.take_succ, List.getElem?_map, hc]
        simp
        exact upd_same
      · rintro D H2 ⟨sm, hD, h2⟩
        refine ⟨by decide, fun p hp => ?_⟩
        have n1 : D ≠ p := ne_of_none h2 hp
        refine hq _ D _ (Same.mut sm (Same.none sm hp)) (Same.none sm hp) hD ⟨ns.map fun c => if c < 0 then -c else c, -1, 0, sd, ⟨upd_same, ?_, by decide, by decide, s0, s1⟩, ?_, by rw [List.length_map]; omega⟩
        · rw [upd_ne n1, h2, List.take_of_length_le (by simp)]
        · intro n hn
          obtain ⟨c, _, rfl⟩ := List.mem_map.mp hn
          split <;> omega
theorem o__law_take (W : Wd fa fn K mg) : OkF P w K mg base d__law_take 1 ["draw", "many"] spTake1 := by
  refine okf W (d := d__law_take) 14 sc__law_take rfl rfl (fun _ _ _ _ _ _ us hl => match us, hl with | [_, _], _ => rfl) ?len (fun cdv A outer s H vs Q E hr nd hu tk po h => ?body)
  case len =>
    rintro vs H Q E ⟨_, _, _, rfl, _⟩
    rfl
  case body =>
    refine ⟨_, (Evl.pss_cut (ps_if (pt_cmpR op_eq (pe_ix ix_list (pv 0) pe_int (fun _ _ => rfl)) pe_int (nomark _)) (pss_cons (ps_asg (pe_op op_add (pe_ix ix_list (pv 0) pe_int (fun _ _ => rfl)) pe_int) (pg_sub (pv 0) pe_int set_list))
    (Evl.pss_cut (ps_if (pt_cmpR op_lt (pe_ix ix_list (pv 0) pe_int (fun _ _ => rfl)) (pe_callB call_len (by rfl) (W.free 6) (by decide +kernel) (pa_cons (pe_ix ix_list (pv 0) pe_int (fun _ _ => rfl)) pa_nil)) (nomark _)) (pss_one (ps_asg (pe_ix ix_list (pe_ix ix_list (pv 0) pe_int (fun _ _ => rfl)) (pe_ix ix_list (pv 0) pe_int (fun _ _ => rfl)) (fun _ _ => rfl)) (pg_sub (pv 0) pe_int set_list))) pss_nil)
    (pss_one (ps_if (pt_cmpR op_eq (pe_ix ix_list (pv 0) pe_int (fun _ _ => rfl)) pe_int (nomark _)) (pss_cons (ps_asg (pe_op op_mod (pe_callTy call_int1 (by rfl) (W.free 2) (by decide +kernel) (pa_cons (pe_op op_add (pe_op op_mul (pe_ix ix_list (pv 0) pe_int (fun _ _ => rfl)) pe_int) pe_int) pa_nil)) pe_int) (pg_sub (pv 0) pe_int set_list))
    (pss_one (ps_asg (pe_ix ix_list (pv 0) pe_int (fun _ _ => rfl)) (pg_sub (pv 0) pe_int set_list)))) pss_nil)))) pss_nil)
    (pss_cons (ps_set (i := 2) nd rfl (by first | exact Or.inl rfl | exact Or.inr rfl) (pe_op op_mod (pe_callTy call_int1 (by rfl) (W.free 2) (by decide +kernel) (pa_cons (pe_ix ix_list (pv 0) pe_int (fun _ _ => rfl)) pa_nil)) (pv 1)))
    (pss_cons (ps_asg (pe_op op_fdiv (pe_ix ix_list (pv 0) pe_int (fun _ _ => rfl)) (pv 1)) (pg_sub (pv 0) pe_int set_list))
    (pss_one (ps_ret (pv 2)))))), ?_⟩
    obtain ⟨dr, cs, m, rfl, hm0, hm1, ⟨ns, p, q, sd, g, hns, hnl⟩, hq⟩ := h
    clear tk po
    unfold Evl.tCut
    refine ⟨fun σ H' => σ = [some (.ref dr), some (.int m), none] ∧ ∃ p q sd, DrAt H' dr cs ns p q sd ∧ ∀ a, a ≠ dr → H' a = H a, ?_, ?_⟩
    · walk_at "x"
      refine ⟨_, SqL.of g.d, _, rfl, rfl, ?_⟩
      by_cases h0 : q = 0
      · subst h0
        rw [if_pos rfl]
        have pp := g.pp
        have g1 := g.mk' (p' := p + 1) (q' := 0) (sd' := sd) (by omega) (by omega) g.s0 g.s1
        refine ⟨_, SqL.of g.d, _, rfl, _, rfl, _, g.d, _, rfl, fun σ H' => σ = [some (.ref dr), some (.int m), none] ∧ ∃ p q sd, DrAt H' dr cs ns p q sd ∧ ∀ a, a ≠ dr → H' a = H a, ?_, ?_⟩
        · simp only [List.set_cons_succ, List.set_cons_zero]
          refine ⟨_, SqL.of upd_same, _, rfl, _, SqL.of upd_same, _, rfl, ns.length, .inl ⟨_, SqL.of g1.c, by simp⟩, _, rfl, ?_⟩
          by_cases h1 : p + 1 < (ns.length : Int)
          · rw [if_pos h1]
            have h2 : (p + 1).toNat < ns.length := by omega
            have e1 : (ns.map V.int)[(p + 1).toNat]? = some (.int ns[(p + 1).toNat]) := by rw [List.getElem?_map, List.getElem?_eq_getElem h2]; rfl
            have e2 : atI (ns.map V.int) (p + 1) = some (.int ns[(p + 1).toNat]) := by
              have := atI_nat e1
              rwa [show (((p + 1).toNat : Nat) : Int) = p + 1 by omega] at this
            have n0 := hns _ (List.getElem_mem h2)
            have g2 := g1.mk' (p' := p + 1) (q' := ns[(p + 1).toNat]) (sd' := sd) (by omega) n0 g.s0 g.s1
            rw [upd_upd] at g2
            refine ⟨_, SqL.of upd_same, _, rfl, _, SqL.of upd_same, _, rfl, cs, rfl, _, _, rfl, SqL.of g1.c, _, e2, _, upd_same, _, rfl, trivial, p + 1, ns[(p + 1).toNat], sd, ?_, fun a ha => by rw [upd_ne ha, upd_ne ha]⟩
            rw [upd_upd]
            exact g2
          · rw [if_neg h1]
            exact ⟨trivial, _, _, _, g1, fun a ha => upd_ne ha⟩
        · rintro σ H2 ⟨rfl, p2, q2, sd2, g2, kp⟩
          refine ⟨_, rfl, dr, rfl, _, SqL.of g2.d, _, rfl, rfl, ?_⟩
          by_cases h1 : q2 = 0
          · subst h1
            rw [if_pos rfl]
            have g3 := g2.mk' (p' := p2) (q' := (sd2 * 48271 + 11) % 2147483647) (sd' := (sd2 * 48271 + 11) % 2147483647) g2.pp (by omega) (by omega) (by omega)
            refine ⟨_, rfl, dr, rfl, _, SqL.of g2.d, _, rfl, _, rfl, .inr ⟨by decide, by decide⟩, by decide, _, rfl, dr, rfl, _, g2.d, _, rfl, _, rfl, dr, rfl, _, SqL.of upd_same, _, rfl, _, rfl, dr, rfl, _, upd_same, _, rfl, rfl, p2, (sd2 * 48271 + 11) % 2147483647, (sd2 * 48271 + 11) % 2147483647, ?_, fun a ha => by rw [upd_ne ha, upd_ne ha]; exact kp a ha⟩
            rw [upd_upd]
            exact g3
          · rw [if_neg (by simpa using h1)]
            exact ⟨rfl, _, _, _, g2, kp⟩
      · rw [if_neg (by simpa using h0)]
        exact ⟨_, _, _, g, fun _ _ => trivial⟩
    · rintro σ H1 ⟨rfl, p1, q1, sd1, g1, kp⟩
      walk_at "x"
      refine ⟨_, SqL.of g1.d, _, rfl, .inl ⟨_, rfl, hm0, _, SqL.of g1.d, _, rfl, _, rfl, ⟨hm0, by omega⟩, _, g1.d, _, rfl, ?_⟩⟩
      have r1 := Int.emod_nonneg q1 (show m ≠ 0 by omega)
      have r2 := Int.emod_lt_of_pos q1 hm0
      have g2 := g1.mk' (p' := p1) (q' := q1 / m) (sd' := sd1) g1.pp (Int.ediv_nonneg g1.qq (by omega)) g1.s0 g1.s1
      have := hq (q1 % m).toNat _ (by omega) (fun a ha => by rw [upd_ne ha]; exact kp a ha) ⟨ns, _, _, _, g2, hns, hnl⟩
      rw [show (((q1 % m).toNat : Nat) : Int) = q1 % m by omega] at this
      exact this
theorem o__law_word (W : Wd fa fn K mg) : OkF P w K mg base d__law_word 1 ["value"] (spLWord K) := by
  refine okf W (d := d__law_word) 16 sc__law_word rfl rfl (fun _ _ _ _ _ _ us hl => match us, hl with | [_], _ => rfl) ?len (fun cdv A outer s H vs Q E hr nd hu tk po h => ?body)
  case len =>
    rintro vs H Q E ⟨_, _, rfl, _⟩
    rfl
  case body =>
    refine ⟨_, (pss_cons (ps_if (PW.pt (pw_or (pt_not (pt_val (pe_callB call_isiV (by rfl) (W.free 0) (by decide +kernel) (pa_cons (pv 0) (pa_cons (pe_bltn (v := .ty "str") (u := .type "str") rfl (W.free 8) (by decide +kernel) rfl) pa_nil))))) (pw_or (pt_not (pt_chain op_le op_le pe_int (pe_callB call_len (by rfl) (W.free 6) (by decide +kernel) (pa_cons (pv 0) pa_nil)) pe_int)) (pw_or1 (pt_not (pt_chain op_le_str op_le_str pe_str (pe_ix ix_str (pv 0) pe_int (fun _ _ => rfl)) pe_str)))))) (pss_one (ps_ret pe_bl)) pss_nil)
    (pss_one (ps_ret (pe_callB (cr_all rfl) (by rfl) (W.free 3) (by decide +kernel) (pa_cons (pe_lc (own := [("sign", 1)]) (g := (gName 1)) (tt := tYes) rfl nd (pi_str (pv 0)) (blkOk_by (own := [("sign", 1)]) (N := ["value", "sign"]) (sc := defScope s__law_word) (by decide +kernel)) (fun _ _ _ _ _ => (pg_name (i := 1) nd rfl (by first | exact Or.inl rfl | exact Or.inr rfl))) (fun _ _ _ _ _ => pts_nil) (fun _ _ _ _ _ => (pe_or (pe_chain op_le_str op_le_str pe_str (pv 1) pe_str) (pe_one (pe_chain op_le_str op_le_str pe_str (pv 1) pe_str))))) pa_nil))))), ?_⟩
    obtain ⟨x, d, rfl, hd, hz, hq⟩ := h
    clear tk po
    walk_at "x"
    simp only [rIsaV]
    walk_at "x"
    refine ⟨by decide, _, IsaV.of hd, ?_⟩
    cases hd with
    | str z =>
      have hz := hz z rfl
      simp only [wordD] at hq
      have e1 : isa (.str z) "str" = true := rfl
      rw [e1]
      walk_at "x"
      refine ⟨z.length, ⟨by rw [sizeLine_eq]; omega, rfl⟩, ?_⟩
      have el : z.length = z.cps.toList.length := rfl
      have same0 := hq _ (Same.refl _)
      cases hl : z.cps.toList with
      | nil =>
        rw [hl, List.length_nil] at el
        rw [if_neg (by omega)]
        simpa [hl, wordL] using same0
      | cons c0 r =>
        rw [hl] at el same0
        have e2 : (((1 : Nat) : Int) ≤ (z.length : Int)) := by rw [el, List.length_cons]; omega
        rw [if_pos (by exact e2)]
        by_cases h12 : (z.length : Int) ≤ 12
        · rw [decide_eq_true h12]
          refine iteF ⟨by rw [sizeLine_eq]; omega, c0, atI_nat (j := 0) rfl, ?_⟩
          simp only [lit_a, lit_z, lit_0, lit_9, lt1]
          have go : isLow c0 = true → tLc (iStr (tVar 0)) (gName 1) tYes (tOrV (tChain (fun x y H Q => ∃ i, x = V.str i ∧ ∃ x, y = V.str x ∧ Q (V.bl !decide (x.cps.toList < i.cps.toList)) H) (fun x y H Q => ∃ i, x = V.str i ∧ ∃ x, y = V.str x ∧ Q (V.bl !decide (x.cps.toList < i.cps.toList)) H) (tC (V.str (Str.ofString "a"))) (tVar 1) (tC (V.str (Str.ofString "z"))))
              (tChain (fun x y H Q => ∃ i, x = V.str i ∧ ∃ x, y = V.str x ∧ Q (V.bl !decide (x.cps.toList < i.cps.toList)) H) (fun x y H Q => ∃ i, x = V.str i ∧ ∃ x, y = V.str x ∧ Q (V.bl !decide (x.cps.toList < i.cps.toList)) H) (tC (V.str (Str.ofString "0"))) (tVar 1) (tC (V.str (Str.ofString "9"))))) [1] [some (V.str z), none] H fun x H1 => rAll K [x] H1 Q := by
            intro h0
            refine tLc_str (f := fun c => .bl (isLow c || isDig c)) hz (fun R h => ⟨_, rfl, h⟩) (fun x => rfl) ?_ ?_
            · intro c H2 R hR
              walk_at "x"
              simp only [lit_a, lit_z, lit_0, lit_9, lt1]
              by_cases g1 : c < 97
              · have e4 : isLow c = false := by simp only [isLow, decide_eq_false (show ¬ 97 ≤ c by omega), Bool.false_and]
                rw [e4, Bool.false_or] at hR
                simp only [decide_eq_true g1, Bool.not_true, Bool.false_eq_true, if_false]
                by_cases g2 : c < 48
                · have e5 : isDig c = false := by simp only [isDig, decide_eq_false (show ¬ 48 ≤ c by omega), Bool.false_and]
                  rw [e5] at hR
                  simp only [decide_eq_true g2, Bool.not_true, Bool.false_eq_true, if_false]
                  exact hR
                · simp only [decide_eq_false g2, Bool.not_false, if_true]
                  have e5 : isDig c = !decide (57 < c) := by simp only [isDig, decide_eq_true (show 48 ≤ c by omega), Bool.true_and]; exact le_not 57 c
                  rw [e5] at hR
                  exact hR
              · simp only [decide_eq_false g1, Bool.not_false, if_true]
                have e5 : isLow c = !decide (122 < c) := by simp only [isLow, decide_eq_true (show 97 ≤ c by omega), Bool.true_and]; exact le_not 122 c
                by_cases g2 : 122 < c
                · have e6 : isDig c = false := by simp only [isDig, decide_eq_false (show ¬ c ≤ 57 by omega), Bool.and_false]
                  rw [e5, e6, decide_eq_true g2] at hR
                  simp only [decide_eq_true g2, Bool.not_true, Bool.false_eq_true, if_false, decide_eq_false (show ¬ c < 48 by omega), Bool.not_false, if_true, decide_eq_true (show 57 < c by omega)]
                  exact hR
                · rw [e5, decide_eq_false g2] at hR
                  simp only [decide_eq_false g2, Bool.not_false, if_true]
                  exact hR
            · intro D hD
              refine ⟨D, z.cps.toList.map fun c => isLow c || isDig c, rfl, SqL.of (by rw [upd_same, List.map_map]; rfl), ?_⟩
              have := hq _ (Same.new (o := .lst (z.cps.toList.map fun c => .bl (isLow c || isDig c))) hD)
              have e3 : wordL z.cps.toList = ((z.cps.toList.map fun c => isLow c || isDig c).all id) := by
                rw [hl]
                simp only [wordL, h0, List.length_cons, List.all_map]
                have a1 : decide (1 ≤ r.length + 1) = true := decide_eq_true (by omega)
                have a2 : decide (r.length + 1 ≤ 12) = true := decide_eq_true (by rw [el, List.length_cons] at h12; omega)
                rw [a1, a2]
                rfl
              rw [e3] at this
              exact this
          have stop : isLow c0 = false → Q (.bl false) H := fun h0 => by simpa [wordL, h0] using same0
          by_cases g1 : c0 < 97
          · rw [decide_eq_true g1]
            exact iteF (stop (by simp only [isLow, decide_eq_false (show ¬ 97 ≤ c0 by omega), Bool.false_and]))
          · rw [decide_eq_false g1]
            refine iteT ?_
            by_cases g2 : 122 < c0
            · rw [decide_eq_true g2]
              exact iteT (stop (by simp only [isLow, decide_eq_false (show ¬ c0 ≤ 122 by omega), Bool.and_false]))
            · rw [decide_eq_false g2]
              exact iteF (go (by simp only [isLow, decide_eq_true (show 97 ≤ c0 by omega), decide_eq_true (show c0 ≤ 122 by omega), Bool.and_self]))
        · rw [decide_eq_false h12]
          have e4 : wordL (c0 :: r) = false := by
            have : decide ((c0 :: r).length ≤ 12) = false := decide_eq_false (by rw [← el]; omega)
            simp only [wordL, this, Bool.and_false, Bool.false_and]
          rw [e4] at same0
          exact iteT same0
    | _ => exact iteT (hq _ (Same.refl _))
theorem o__law_number (W : Wd fa fn K mg) : OkF P w K mg base d__law_number 1 ["text"] spNum := by
  refine okf W (d := d__law_number) 18 sc__law_number rfl rfl (fun _ _ _ _ _ _ us hl => match us, hl with | [_], _ => rfl) ?len (fun cdv A outer s H vs Q E hr nd hu tk po h => ?body)
  case len =>
    rintro vs H Q E ⟨_, rfl, _⟩
    rfl
  case body =>
    refine ⟨_, (Evl.pss_cut (ps_set (i := 1) nd rfl (by first | exact Or.inl rfl | exact Or.inr rfl) (pe_ifExp (pt_cmpR op_eq (pe_slice sl_str (pv 0) po_none (po_some pe_int)) pe_str (nomark _)) (pe_slice sl_str (pv 0) (po_some pe_int) po_none) (pv 0)))
    (pss_cons (ps_if (PW.pt (pw_or (pt_cmpR op_eq (pv 1) pe_str (nomark _)) (pw_or (pt_val (pe_callB (cr_any rfl) (by rfl) (W.free 34) (by decide +kernel) (pa_cons (pe_lc (own := [("sign", 2)]) (g := (gName 2)) (tt := tYes) rfl nd (pi_str (pv 1)) (blkOk_by (own := [("sign", 2)]) (N := ["text", "body", "sign"]) (sc := defScope s__law_number) (by decide +kernel)) (fun _ _ _ _ _ => (pg_name (i := 2) nd rfl (by first | exact Or.inl rfl | exact Or.inr rfl))) (fun _ _ _ _ _ => pts_nil) (fun _ _ _ _ _ => (pe_cmpR op_notIn_sign (pv 2) pe_str (by rfl)))) pa_nil))) (pw_or1 (PW.pt (pw_and (pt_cmpR op_eq (pe_ix ix_str (pv 1) pe_int (fun _ _ => rfl)) pe_str (nomark _)) (pw_and1 (pt_cmpR op_ne (pv 0) pe_str (nomark _))))))))) (pss_one (ps_ret pe_non)) pss_nil)
    (pss_one (ps_ret (pe_callTy (call_int_strW W.dg) (by rfl) (W.free 2) (by decide +kernel) (pa_cons (pv 0) pa_nil)))))), ?_⟩
    obtain ⟨z, rfl, hz, hq⟩ := h
    clear tk po
    walk_at "x"
    have el : z.length = z.cps.toList.length := rfl
    unfold Evl.tCut
    refine ⟨fun σ H' => H' = H ∧ σ = [some (.str z), some (.str (S (bodyL z.cps.toList))), none], ?_, ?_⟩
    · walk_at "x"
      refine ⟨by rw [sizeLine_eq]; omega, ?_⟩
      have e1 := cut_to z 1
      have e2 := cut_from z 1
      rw [show ((1 : Nat) : Int) = 1 from rfl] at e1 e2
      rw [e1, e2, minus_lit]
      unfold bodyL
      by_cases h : z.cps.toList.take 1 = [45]
      · rw [if_pos (S_inj.mpr h), if_pos h]
        exact ⟨by rw [sizeLine_eq]; omega, rfl⟩
      · rw [if_neg (fun x => h (S_inj.mp x)), if_neg h]
        rfl
    · rintro σ H' ⟨rfl, rfl⟩
      have lb := bodyL_le z.cps.toList
      have hb := body_int (l := z.cps.toList)
      unfold wholeL okBody at hq
      generalize hbd : bodyL z.cps.toList = b at *
      walk_at "x"
      simp only [empty_lit, zero_lit, S_inj, str_S]
      have sm0 := hq _ (Same.refl _)
      cases b with
      | nil =>
        rw [if_pos (show (S ([] : List Nat)).cps.toList = [] from rfl)]
        exact sm0
      | cons c r =>
        rw [if_neg (show ¬ (S (c :: r)).cps.toList = [] from List.cons_ne_nil _ _)]
        refine tLc_str (z := S (c :: r)) (f := fun c => .bl (!isDig c)) (by rw [len_S]; omega) (fun R h => ⟨_, rfl, h⟩) (fun x => rfl) ?_ ?_
        · intro c H2 R hR
          walk_at "x"
          simpa only [in_dig] using hR
        · intro D hD
          have sm := hq _ (Same.new (o := .lst ((S (c :: r)).cps.toList.map fun c => .bl (!isDig c))) hD)
          refine ⟨D, (c :: r).map fun c => !isDig c, rfl, SqL.of (by rw [upd_same, List.map_map]; rfl), ?_⟩
          have ea : ((c :: r).map fun c => !isDig c).any id = !((c :: r).all isDig) := by
            rw [List.any_map, List.not_all_eq_any_not]
            rfl
          rw [ea]
          rw [decide_eq_true (show 1 ≤ (c :: r).length by simp), decide_eq_true (show (c :: r).length ≤ 4000 by omega)] at sm
          cases h3 : (c :: r).all isDig with
          | false =>
            rw [h3] at sm
            exact ⟨_, rfl, iteT sm⟩
          | true =>
            rw [h3] at sm
            refine ⟨_, rfl, iteF ?_⟩
            obtain ⟨g1, n, g2⟩ := hb (by simp) (by omega) h3
            refine ⟨by rw [sizeLine_eq, len_S]; omega, c, atI_nat (j := 0) rfl, ?_⟩
            have fin : ∀ H1, Q (oV (PySem.intText? (S z.cps.toList))) H1 → rIntW [V.str z] H1 Q := fun H1 h => ⟨z, rfl, g1, by rw [sizeLine_eq]; omega, n, g2, by rw [g2] at h; exact h⟩
            by_cases hc : c = 48
            · subst hc
              rw [if_pos (show [48] = [48] from rfl)]
              by_cases h4 : z.cps.toList = [48]
              · rw [decide_eq_true h4]
                refine iteF (fin _ ?_)
                rw [decide_eq_true h4] at sm
                exact sm
              · rw [decide_eq_false h4]
                rw [decide_eq_false h4] at sm
                exact iteT sm
            · rw [if_neg (by simpa using hc)]
              refine fin _ ?_
              have e0 : ((c :: r).head? == some 48) = false := by simp [hc]
              rw [e0] at sm
              exact sm
end
end WW

set_option maxHeartbeats 4000000
namespace WW
open PySem PySem.Spec PyProof.Rows L2
local macro_rules | `(tactic| walk_at "x") => `(tactic| simp only [tSeq, tNext, tAsg, gName, tRet, tRetN, tIfS, tOp, tUn, rI, rI0, rU, tTest, tB, tAnd, tOr, tNot, tAndV, tOrV, tNotV, tIf, tCons, tNil, tTup, tLst, tCall, tCallS, tMeth, tMake, tFld, sFld, tBM, tBM0, tCB, tSl, tPart, tNoPart, tDrop, tPar, tPar3, tAug, ipI, gTup, gCons, gNil, gSub, rSetL, rAppend, rPop, rIxL, rIxS, rIxT, rEq, rNe, tChain, tNever, tThen, tVar, tC, L2.start, List.map_cons, List.map_nil, List.length_cons, List.length_nil, List.replicate_succ, List.replicate_zero, List.append_nil, List.nil_append, List.cons_append, Nat.reduceAdd, Nat.reduceSub, Nat.add_zero, Nat.zero_add, Nat.sub_zero, Nat.sub_self,
  List.getElem?_cons_zero, List.getElem?_cons_succ, Option.some.injEq, exists_eq_left', exists_eq_left, exists_eq', exists_eq, exists_and_left, List.set_cons_zero, List.set_cons_succ, V.int.injEq, V.bl.injEq, V.str.injEq, V.ref.injEq, V.ty.injEq, List.cons.injEq, and_true, true_and, and_assoc, if_true, if_false, Bool.false_eq_true, reduceCtorEq, false_and, and_false, exists_false, false_or, or_false, Bool.not_true, Bool.not_false, decide_eq_true_eq, ite_true, ite_false, WE, cxOf_K, cxOf_mg, rSlS, scal, wipe, mem_low, mem_dig, mem_brk, mem_brk4, sgn_inj, Bool.decide_eq_true])

/-! ### data and their texts -/
def leafOk : PyData → Bool
  | .str z => wordL z.cps.toList
  | .int i => shortI i && decide (i.natAbs.log2 < 1920)
  | _ => false
mutual
def plainD : Nat → PyData → Bool
  | 0, _ => false
  | n + 1, .tuple ds => plainDs n ds
  | _ + 1, .str z => leafOk (.str z)
  | _ + 1, .int i => leafOk (.int i)
  | _ + 1, _ => false
def plainDs : Nat → List PyData → Bool
  | _, [] => true
  | n, d :: ds => plainD n d && plainDs n ds
end
mutual
def wT : PyData → List Nat
  | .tuple ds => 91 :: (wTs ds ++ [93])
  | .str z => strD (.str z)
  | .int i => strD (.int i)
  | _ => []
def wTs : List PyData → List Nat
  | [] => []
  | d :: ds => if ds.isEmpty then wT d else wT d ++ 44 :: wTs ds
end
/-- what a drawn datum is -/
inductive Gen : Nat → PyData → Prop
  | word {n z} : z ∈ [S [97, 98, 122, 57], S [98, 122, 57], S [122, 57], Str.ofString "a23456789012"] → Gen n (.str z)
  | int {n i} : i ∈ [(0 : Int), -1, 7, 10 ^ 40, -10 ^ 20, 1000] → Gen n (.int i)
  | tup {n ds} : ds.length ≤ 3 → (∀ d ∈ ds, Gen n d) → Gen (n + 1) (.tuple ds)
def Kp (dr cs : Addr) (H H' : Hp) : Prop := (∀ a o, a ≠ dr → H a = some o → H' a = some o) ∧ Dr H' dr cs
def spData (K : PySem.W.Frag) (n : Nat) : Sp := fun vs H Q _ => ∃ (dr cs : Addr) (k : Nat), vs = [.ref dr, .int (k : Nat)] ∧ k < n ∧ Dr H dr cs ∧ ∀ v d H', Gen k d → Dp K H' v d → Kp dr cs H H' → Q v H'
def spWritten (K : PySem.W.Frag) (n : Nat) : Sp := fun vs H Q _ => ∃ x d, vs = [x] ∧ Dp K H x d ∧ plainD n d = true ∧ (wT d).length ≤ 1000000 ∧ ∀ H', Same H H' → Q (.str (S (wT d))) H'
def spTold (K : PySem.W.Frag) : Sp := fun vs H Q _ => ∃ (x : V) (d : PyData) (k : Int), vs = [.int k, x] ∧ Dp K H x d ∧ ((k = 0 ∧ smallD d = true ∧ szD d ≤ 1000000 ∧ (∀ t, wD 1 d = some t → t.length ≤ 16000000) ∧ (match wD 1 d with
    | some t => ∀ D H', Same H H' → H D = none → H' D = some (.lst [.str (S t)]) → Q (.ref D) H'
    | none => ∀ H', Same H H' → Q .non H')) ∨
  (k = 1 ∧ (∀ z, x = .str z → z.length ≤ 50000) ∧ (match readD d with
    | some e => ∀ D v H', Same H H' → H D = none → H' D = some (.lst [v]) → Dp K H' v e → imm e = true → Q (.ref D) H'
    | none => ∀ H', Same H H' → Q .non H')))
theorem Dr.of_eq {H H' : Hp} {dr cs : Addr} (h : ∀ a o, H a = some o → H' a = some o) (D : Dr H dr cs) : Dr H' dr cs := by
  obtain ⟨ns, p, q, sd, g, h1, h2⟩ := D
  exact ⟨ns, p, q, sd, ⟨h _ _ g.d, h _ _ g.c, g.pp, g.qq, g.s0, g.s1⟩, h1, h2⟩
theorem Kp.of {dr cs : Addr} {H H1 : Hp} (fr : ∀ a, a ≠ dr → H1 a = H a) (h : Dr H1 dr cs) : Kp dr cs H H1 := ⟨fun a o n e => by rw [fr a n]; exact e, h⟩
theorem Kp.refl {dr cs : Addr} {H : Hp} (h : Dr H dr cs) : Kp dr cs H H := ⟨fun _ _ _ e => e, h⟩
theorem Kp.trans {dr cs : Addr} {H H1 H2 : Hp} (a : Kp dr cs H H1) (b : Kp dr cs H1 H2) : Kp dr cs H H2 := ⟨fun p o n e => b.1 p o n (a.1 p o n e), b.2⟩
theorem Kp.same {dr cs : Addr} {H H1 : Hp} (D : Dr H dr cs) (s : Same H H1) : Kp dr cs H H1 := ⟨fun a o _ e => s a o e, Dr.of_eq s D⟩
theorem Kp.new {dr cs p : Addr} {H H1 : Hp} {o : HO} (a : Kp dr cs H H1) (h : H1 p = none) : Kp dr cs H (upd H1 p o) := a.trans (Kp.same a.2 (Same.new h))
theorem Kp.tx {dr cs : Addr} {H H1 : Hp} (D : Dr H dr cs) (a : Kp dr cs H H1) : Tx H H1 := fun b xs => by
  obtain ⟨ns, p, q, sd, g, _, _⟩ := D
  refine ⟨fun e => a.1 b _ (fun n => ?_) e, fun o e => a.1 b _ (fun n => ?_) e⟩ <;> (rw [n, g.d] at e; cases e)
theorem Kp.mut {dr cs D : Addr} {H H1 : Hp} {o : HO} (a : Kp dr cs H H1) (D0 : Dr H dr cs) (h : H D = none) : Kp dr cs H (upd H1 D o) := by
  obtain ⟨ns, p, q, sd, g, _, _⟩ := D0
  obtain ⟨ns', p', q', sd', g', h1, h2⟩ := a.2
  have n1 : dr ≠ D := ne_of_none g.d h
  have n2 : cs ≠ D := ne_of_none g.c h
  exact ⟨fun b u nb e => by rw [upd_ne (ne_of_none e h)]; exact a.1 b u nb e, ns', p', q', sd', ⟨by rw [upd_ne n1]; exact g'.d, by rw [upd_ne n2]; exact g'.c, g'.pp, g'.qq, g'.s0, g'.s1⟩, h1, h2⟩
theorem immAllG : ∀ es : List PyData, (∀ d ∈ es, imm d = true) → imm.immAll es = true := by
  intro es
  induction es with
  | nil => intro _; rfl
  | cons c es ih =>
    intro h
    simp only [imm.immAll, Bool.and_eq_true]
    exact ⟨h c (List.mem_cons_self ..), ih fun d hd => h d (List.mem_cons_of_mem _ hd)⟩
theorem Gen.imm {n : Nat} {d : PyData} (h : Gen n d) : imm d = true := by
  induction h with
  | word _ => rfl
  | int _ => rfl
  | tup _ _ ih =>
    rename_i ds h1 h2
    simp only [WW.imm]
    clear h1 h2
    induction ds with
    | nil => rfl
    | cons c ds ih2 =>
      simp only [WW.imm.immAll, Bool.and_eq_true]
      exact ⟨ih c (List.mem_cons_self ..), ih2 fun d hd => ih d (List.mem_cons_of_mem _ hd)⟩
def LeafGoal (K : PySem.W.Frag) (dr : Addr) (k m : Nat) (Q : VK) (H1 : Hp) : Prop := True ∧
  if V.int ((m : Nat) : Int) = V.int 3 then
    spTake1 [V.ref dr, V.int 4] H1 (fun x_1 H1 => ∃ i, x_1 = V.int i ∧ if 0 < i then spTake1 [V.ref dr, V.int 3] H1 (fun x H1 => ∃ i, x = V.int i ∧ (Str.ofString "abz9").length ≤ sizeLine ∧ Q (V.str (cutS (Str.ofString "abz9") (some i) none)) H1) (fun _ _ _ => False)
      else Q (V.str (Str.ofString "a23456789012")) H1) (fun _ _ _ => False)
  else CPow 10 40 ∧ CPow 10 20 ∧ 6 ≤ sizeLine ∧ ∀ (p : Addr), H1 p = none → spTake1 [V.ref dr, V.int 6] (upd H1 p (HO.lst [V.int 0, V.int (-1), V.int 7, V.int (10 ^ Int.toNat 40), V.int (-10 ^ Int.toNat 20), V.int 1000]))
      (fun y H2 => ∃ x x_1, y = V.int x_1 ∧ SqL K H2 p x ∧ ∃ x_2, atI x x_1 = some x_2 ∧ Q x_2 H2) (fun _ _ _ => False)
theorem wTs_cons (d : PyData) (ds : List PyData) : wTs (d :: ds) = if ds.isEmpty then wT d else wT d ++ 44 :: wTs ds := by simp only [wTs]
theorem wTs_each : ∀ (ds : List PyData), ∀ d ∈ ds, (wT d).length ≤ (wTs ds).length
  | [], _, h => nomatch h
  | c :: ds, d, h => by
    rw [wTs_cons]
    rcases List.mem_cons.mp h with rfl | h
    · split
      · exact Nat.le_refl _
      · rw [List.length_append]; omega
    · have := wTs_each ds d h
      rw [if_neg (by cases ds with | nil => cases h | cons _ _ => simp)]
      rw [List.length_append, List.length_cons]
      omega
theorem wTs_count : ∀ (ds : List PyData), ds.length ≤ (wTs ds).length + 1
  | [] => by simp
  | c :: ds => by
    rw [wTs_cons, List.length_cons]
    have := wTs_count ds
    split
    · cases ds with
      | nil => simp
      | cons _ _ => simp at *
    · rw [List.length_append, List.length_cons]
      omega
theorem wTs_sum : ∀ (ds : List PyData), (ds.map fun d => (wT d).length).sum ≤ (wTs ds).length
  | [] => by simp
  | c :: ds => by
    rw [wTs_cons, List.map_cons, List.sum_cons]
    have := wTs_sum ds
    split
    · cases ds with
      | nil => simp
      | cons _ _ => simp at *
    · rw [List.length_append, List.length_cons]
      omega
theorem plainDs_get {n : Nat} {ds : List PyData} (h : plainDs n ds = true) {i : Nat} {d : PyData} (e : ds[i]? = some d) : plainD n d = true := by
  induction ds generalizing i with
  | nil => simp at e
  | cons c ds ih =>
    simp only [plainDs, Bool.and_eq_true] at h
    cases i with
    | zero => simp at e; exact e ▸ h.1
    | succ i => exact ih h.2 (by simpa using e)
theorem joinL_44 : ∀ ds : List PyData, TL.joinL [44] (ds.map wT) = wTs ds
  | [] => by simp [TL.joinL, wTs]
  | [d] => by simp [TL.joinL, wTs]
  | d :: e :: ds => by
    have ih := joinL_44 (e :: ds)
    rw [wTs_cons, ← ih]
    simp [TL.joinL]
theorem join_wTs (ds : List PyData) : Txt.join (Str.ofString ",") (ds.map fun d => S (wT d)) = S (wTs ds) := by
  apply str_ext
  rw [show (Txt.join (Str.ofString ",") (ds.map fun d => S (wT d))).cps.toList = TL.tl (Txt.join (Str.ofString ",") (ds.map fun d => S (wT d))) from rfl, TL.join_eq, TL.tl_join]
  rw [show TL.tl (Str.ofString ",") = [44] by decide +kernel, List.map_map, show (TL.tl ∘ fun d => S (wT d)) = wT from rfl, joinL_44]
  rfl
section
variable {P : Program} {w : World} {K : PySem.W.Frag} {mg : Str → Option Value} {base : Heap}
theorem o__law_told (W : Wd fa fn K mg) : OkF P w K mg base d__law_told 5 ["which", "value"] (spTold K) := by
  have o_write_data := (o_write_data (P := P) (w := w) (base := base) W).mono (show 3 ≤ 4 by decide)
  have o_read_data := (o_read_data (P := P) (w := w) (base := base) W)
  obtain ⟨fd_write_data, F_write_data, b_write_data, k_write_data⟩ := o_write_data.ex; obtain ⟨fd_read_data, F_read_data, b_read_data, k_read_data⟩ := o_read_data.ex
  refine okf W (d := d__law_told) 20 sc__law_told rfl rfl (fun _ _ _ _ _ _ us hl => match us, hl with | [_, _], _ => rfl) ?len (fun cdv A outer s H vs Q E hr nd hu tk po h => ?body)
  case len =>
    rintro vs H Q E ⟨_, _, _, rfl, _⟩
    rfl
  case body =>
    refine ⟨_, (pss_one (ps_try_only rfl rfl ⟨rfl, by decide, .inl (W.glo 17)⟩ tk (fun _ _ _ tk po => (pss_one (ps_ret (pe_ifExp (pt_cmpR op_eq (pv 0) pe_int (nomark _)) (pe_lst (pa_cons (by exact (pe_callS F_write_data (hr.mono (by first | decide | omega)) rfl (W.glo 36) k_write_data b_write_data (fun σ => passAt tk σ) (by exact (pa_cons (pv 1) pa_nil)))) pa_nil)) (pe_lst (pa_cons (by exact (pe_callS F_read_data (hr.mono (by first | decide | omega)) rfl (W.glo 37) k_read_data b_read_data (fun σ => passAt tk σ) (by exact (pa_cons (pv 1) pa_nil)))) pa_nil)))))) (fun _ _ _ _ _ _ _ => (pss_one (ps_ret pe_non))))), ?_⟩
    obtain ⟨x, d, k, rfl, hd, hh⟩ := h
    clear tk po
    have ex := W.exm (x := "Malformed") (y := "Malformed") (b := true) 45
    rcases hh with ⟨rfl, h1, h2, h3, h4⟩ | ⟨rfl, h1, h4⟩
    · walk_at "x"
      refine ⟨x, d, rfl, hd, h1, h2, h3, ?_⟩
      cases hw : wD 1 d with
      | none =>
        rw [hw] at h4
        intro H' sm
        exact ⟨true, ex, fun _ a ha => h4 H' sm, fun h => by cases h⟩
      | some t =>
        rw [hw] at h4
        intro H' sm
        refine ⟨by decide, fun D hD => h4 D _ (Same.trans sm (Same.new hD)) (Same.none sm hD) upd_same⟩
    · walk_at "x"
      refine ⟨x, d, rfl, hd, h1, ?_⟩
      cases hw : readD d with
      | none =>
        rw [hw] at h4
        intro H' sm
        exact ⟨true, ex, fun _ a ha => h4 H' sm, fun h => by cases h⟩
      | some e =>
        rw [hw] at h4
        intro v H' sm hv hi
        refine ⟨by decide, fun D hD => h4 D v _ (Same.trans sm (Same.new hD)) (Same.none sm hD) upd_same (Dp.tx (Tx.nw hD) e v hi hv) hi⟩
theorem data_step (n : Nat) (W : Wd fa fn K mg) (o__law_data : OkF P w K mg base d__law_data (n + 1) ["draw", "deep"] (spData K n)) : OkF P w K mg base d__law_data (n + 1 + 1) ["draw", "deep"] (spData K (n + 1)) := by
  have o__law_take := (o__law_take (P := P) (w := w) (base := base) W).mono (show 1 ≤ n + 1 by omega)
  obtain ⟨fd__law_take, F__law_take, b__law_take, k__law_take⟩ := o__law_take.ex
  obtain ⟨fd__law_data, F__law_data, b__law_data, k__law_data⟩ := o__law_data.ex
  refine okf W (d := d__law_data) 15 sc__law_data rfl rfl (fun _ _ _ _ _ _ us hl => match us, hl with | [_, _], _ => rfl) ?len (fun cdv A outer s H vs Q E hr nd hu tk po h => ?body)
  case len =>
    rintro vs H Q E ⟨_, _, _, rfl, _⟩
    rfl
  case body =>
    refine ⟨_, (pss_cons (ps_set (i := 2) nd rfl (by first | exact Or.inl rfl | exact Or.inr rfl) (by exact (pe_callS F__law_take (hr.mono (by first | decide | omega)) rfl (W.glo 30) k__law_take b__law_take (fun σ => passAt tk σ) (by exact (pa_cons (pv 0) (pa_cons pe_int pa_nil))))))
    (pss_cons (ps_if (PW.pt (pw_and (pt_cmpR op_gt (pv 1) pe_int (nomark _)) (pw_and1 (pt_cmpR op_lt (pv 2) pe_int (nomark _))))) (pss_one (ps_ret (pe_callTy call_tuple_of (by rfl) (W.free 13) (by decide +kernel) (pa_cons (pe_lc (own := [("turn", 3)]) (g := (gName 3)) (tt := tYes) rfl nd (pi_range1 rfl (W.free 10) (pa_cons (by exact (pe_callS F__law_take (hr.mono (by first | decide | omega)) rfl (W.glo 30) k__law_take b__law_take (fun σ => passAt tk σ) (by exact (pa_cons (pv 0) (pa_cons pe_int pa_nil))))) pa_nil)) (blkOk_by (own := [("turn", 3)]) (N := ["draw", "deep", "k", "turn"]) (sc := defScope s__law_data) (by decide +kernel)) (fun _ _ _ _ _ => (pg_name (i := 3) nd rfl (by first | exact Or.inl rfl | exact Or.inr rfl))) (fun _ _ _ _ _ => pts_nil) (fun _ _ _ _ _ => (pe_call F__law_data (hr.mono (by first | decide | omega)) rfl (W.glo 31) k__law_data b__law_data .nil passL (pa_cons (pv 0) (pa_cons (pe_op op_sub (pv 1) pe_int) pa_nil))))) pa_nil)))) pss_nil)
    (pss_cons (ps_if (pt_cmpR op_eq (pv 2) pe_int (nomark _)) (pss_one (ps_ret (pe_ifExp (pt_cmpR op_gt (by exact (pe_callS F__law_take (hr.mono (by first | decide | omega)) rfl (W.glo 30) k__law_take b__law_take (fun σ => passAt tk σ) (by exact (pa_cons (pv 0) (pa_cons pe_int pa_nil))))) pe_int (nomark _)) (pe_slice sl_str pe_str (po_some (by exact (pe_callS F__law_take (hr.mono (by first | decide | omega)) rfl (W.glo 30) k__law_take b__law_take (fun σ => passAt tk σ) (by exact (pa_cons (pv 0) (pa_cons pe_int pa_nil)))))) po_none) pe_str))) pss_nil)
    (pss_one (ps_ret (pe_ix ix_list (pe_lst (pa_cons pe_int (pa_cons (pe_un un_neg pe_int) (pa_cons pe_int (pa_cons (pe_op op_pow pe_int pe_int) (pa_cons (pe_un un_neg (pe_op op_pow pe_int pe_int)) (pa_cons pe_int pa_nil))))))) (by exact (pe_callS F__law_take (hr.mono (by first | decide | omega)) rfl (W.glo 30) k__law_take b__law_take (fun σ => passAt tk σ) (by exact (pa_cons (pv 0) (pa_cons pe_int pa_nil))))) (fun _ _ => rfl))))))), ?_⟩
    obtain ⟨dr, cs, k, rfl, hk, hD, hq⟩ := h
    clear tk po
    walk_at "x"
    have leaf : ∀ (m : Nat) H1, Kp dr cs H H1 → LeafGoal K dr k m Q H1 := by
      intro m H1 kp
      refine ⟨trivial, ?_⟩
      by_cases h3 : m = 3
      · rw [if_pos (by rw [h3]; rfl)]
        refine ⟨dr, cs, 4, rfl, by decide, by decide, kp.2, fun a H2 ha fr2 hD2 => ⟨_, rfl, ?_⟩⟩
        have kp2 := kp.trans (Kp.of fr2 hD2)
        by_cases ha0 : 0 < a
        · rw [if_pos (by omega)]
          refine ⟨dr, cs, 3, rfl, by decide, by decide, kp2.2, fun b H3 hb fr3 hD3 => ⟨_, rfl, by decide +kernel, ?_⟩⟩
          have kp3 := kp2.trans (Kp.of fr3 hD3)
          rw [cut_from]
          refine hq _ (.str _) _ (.word ?_) (.str _) kp3
          rw [show (Str.ofString "abz9").cps.toList = [97, 98, 122, 57] by decide +kernel]
          have hb' : b < 3 := by omega
          match b, hb' with
          | 0, _ => exact List.mem_cons_self ..
          | 1, _ => exact List.mem_cons_of_mem _ (List.mem_cons_self ..)
          | 2, _ => exact List.mem_cons_of_mem _ (List.mem_cons_of_mem _ (List.mem_cons_self ..))
        · rw [if_neg (by omega)]
          exact hq _ (.str _) _ (.word (List.mem_cons_of_mem _ (List.mem_cons_of_mem _ (List.mem_cons_of_mem _ (List.mem_cons_self ..))))) (.str _) kp2
      · rw [if_neg (by simp only [V.int.injEq]; omega)]
        refine ⟨⟨by decide, by decide, by decide⟩, ⟨by decide, by decide, by decide⟩, by decide, fun p hp => ?_⟩
        have kp2 := kp.new (o := HO.lst [V.int 0, V.int (-1), V.int 7, V.int (10 ^ Int.toNat 40), V.int (-10 ^ Int.toNat 20), V.int 1000]) hp
        refine ⟨dr, cs, 6, rfl, by decide, by decide, kp2.2, fun a H2 ha fr2 hD2 => ?_⟩
        have kp3 := kp2.trans (Kp.of fr2 hD2)
        have np : p ≠ dr := fun e => by
          obtain ⟨ns, p1, q1, sd, g, _, _⟩ := kp.2
          rw [e, g.d] at hp
          cases hp
        have hL : SqL K H2 p ([(0 : Int), -1, 7, 10 ^ 40, -10 ^ 20, 1000].map V.int) := SqL.of (by rw [fr2 p np, upd_same]; rfl)
        have ha' : a < 6 := by omega
        have ea : [(0 : Int), -1, 7, 10 ^ 40, -10 ^ 20, 1000][a]? = some ([(0 : Int), -1, 7, 10 ^ 40, -10 ^ 20, 1000][a]'(by simpa using ha')) := List.getElem?_eq_getElem _
        refine ⟨_, _, rfl, hL, _, atI_nat (by rw [List.getElem?_map, ea]; rfl), hq _ (.int _) _ (.int (List.getElem_mem _)) (.int _) kp3⟩
    refine ⟨dr, cs, 6, rfl, by decide, by decide, hD, fun m H1 hm fr hD1 => ?_⟩
    have kp1 := Kp.of fr hD1
    have lf := leaf m H1 kp1
    unfold LeafGoal at lf
    dsimp only
    by_cases hk0 : 0 < k
    · rw [if_pos (by omega)]
      refine ⟨_, rfl, ?_⟩
      by_cases h3 : m < 3
      · rw [if_pos (by omega)]
        have hI : ∀ R : It → Hp → Prop, (∀ (a : Nat) H2, a < 4 → Kp dr cs H1 H2 → R (Itr 0 a) H2) → iRng1 (tCons (tCallS spTake1 (WE fun cls dd x H => E cls dd H) (tCons (tVar 0) (tCons (tC (V.int 4)) tNil))) tNil) [some (V.ref dr), some (V.int (k : Nat)), some (V.int (m : Nat)), none] H1 R := by
          intro R hR
          simp only [iRng1]
          walk_at "x"
          refine ⟨dr, cs, 4, rfl, by decide, by decide, hD1, fun a H2 ha fr2 hD2 => ⟨_, rfl, by omega, by omega, ?_⟩⟩
          rw [Int.toNat_natCast]
          exact hR a H2 (by omega) (Kp.of fr2 hD2)
        unfold tLc
        refine hI _ fun a H2 ha kp2 => fun D hDn => ?_
        have kp02 := kp1.trans kp2
        obtain ⟨k', rfl⟩ : ∃ k', k = k' + 1 := ⟨k - 1, by omega⟩
        refine lc_it (walk_range (lo := 0) (n := a)) (fun i H' => Kp dr cs H2 H' ∧ ∃ vs ds, H' D = some (.lst vs) ∧ DpAll K H' vs ds ∧ vs.length = i ∧ ds.length = i ∧ ∀ d ∈ ds, Gen k' d) ⟨Kp.new (Kp.refl kp2.2) hDn, [], [], upd_same, .nil, rfl, rfl, fun _ h => nomatch h⟩ (fun _ _ _ _ => trivial) ?_ ?_
        · rintro i x H3 H4 hi ⟨kp3, vs, ds, hv, hvd, hvl, hdl, hg⟩ ⟨rfl, rfl⟩
          walk_at "x"
          have nD : D ≠ dr := fun e => by
            obtain ⟨ns, p1, q1, sd, g, _, _⟩ := kp2.2
            rw [e, g.d] at hDn
            cases hDn
          refine ⟨dr, cs, k', ?_, by omega, kp3.2, fun v d H5 hgd hvd5 kp5 => ?_⟩
          · rw [show (((k' + 1 : Nat) : Int) - 1) = ((k' : Nat) : Int) by omega]
          have hv5 := kp5.1 D _ nD hv
          have t5 := Kp.tx kp3.2 kp5
          have tU : Tx H5 (upd H5 D (.lst (vs ++ [v]))) := Tx.up hv5 noTup_l
          refine ⟨vs, hv5, by rw [hvl, sizeLine_eq]; omega, (kp3.trans kp5).mut kp2.2 hDn, vs ++ [v], upd_same, ds ++ [d], ?_, by simp [hvl], by simp [hdl], fun e he => ?_⟩
          · exact DpAll.app (DpAll.tx (t5.trans tU) (immAllG ds fun e he => (hg e he).imm) hvd) (.cons (Dp.tx tU _ _ hgd.imm hvd5) .nil)
          · rcases List.mem_append.mp he with he | he
            · exact hg e he
            · rw [List.mem_singleton.mp he]; exact hgd
        · rintro H3 ⟨kp3, vs, ds, hv, hvd, hvl, hdl, hg⟩
          refine ⟨D, rfl, vs, .inl ⟨SqL.of hv, fun l hl => ?_⟩⟩
          exact hq _ (.tuple ds) _ (.tup (by omega) hg) (.tup (SqT.of upd_same) (DpAll.tx (Tx.nw hl) (immAllG ds fun e he => (hg e he).imm) hvd)) ((kp02.trans kp3).new hl)
      · rw [if_neg (by omega)]
        exact ⟨rfl, lf.2⟩
    · rw [if_neg (by omega)]
      exact ⟨rfl, lf.2⟩
theorem written_step (n : Nat) (W : Wd fa fn K mg) (o__law_written : OkF P w K mg base d__law_written (n + 1) ["data"] (spWritten K n)) : OkF P w K mg base d__law_written (n + 1 + 1) ["data"] (spWritten K (n + 1)) := by
  have o__law_word := (o__law_word (P := P) (w := w) (base := base) W).mono (show 1 ≤ n + 1 by omega)
  obtain ⟨fd__law_word, F__law_word, b__law_word, k__law_word⟩ := o__law_word.ex
  obtain ⟨fd__law_written, F__law_written, b__law_written, k__law_written⟩ := o__law_written.ex
  refine okf W (d := d__law_written) 17 sc__law_written rfl rfl (fun _ _ _ _ _ _ us hl => match us, hl with | [_], _ => rfl) ?len (fun cdv A outer s H vs Q E hr nd hu tk po h => ?body)
  case len =>
    rintro vs H Q E ⟨_, _, rfl, _⟩
    rfl
  case body =>
    refine ⟨_, (pss_cons (ps_if (pt_val (pe_callB call_isiV (by rfl) (W.free 0) (by decide +kernel) (pa_cons (pv 0) (pa_cons (pe_bltn (v := .ty "tuple") (u := .type "tuple") rfl (W.free 13) (by decide +kernel) rfl) pa_nil)))) (pss_cons (ps_setLc (i := 1) (own := [("item", 2)]) (g := (gName 2)) (tt := tYes) rfl nd rfl rfl (sw_true rfl rfl rfl (by decide +kernel)) (pi_tup (pv 0)) (blkOk_by (own := [("item", 2)]) (N := ["data", "parts", "item"]) (sc := defScope s__law_written) (by decide +kernel)) (fun _ _ _ _ _ => (pg_name (i := 2) nd rfl (by first | exact Or.inl rfl | exact Or.inr rfl))) (fun _ _ _ _ _ => pts_nil) (fun _ _ _ _ _ => (pe_call F__law_written (hr.mono (by first | decide | omega)) rfl (W.glo 32) k__law_written b__law_written .nil passL (pa_cons (pv 2) pa_nil))))
    (pss_one (ps_ret (pe_ifExp (pt_cmpR op_in_seq pe_non (pv 1) (by rfl)) pe_non (pe_op op_add_str (pe_op op_add_str pe_str (pe_bm PySem.F.plainAttrs_str PySem.F.slot_str_join PySem.F.type_str_join mt_join pe_str (pa_cons (pv 1) pa_nil))) pe_str))))) pss_nil)
    (pss_cons (ps_if (pt_val (by exact (pe_callS F__law_word (hr.mono (by first | decide | omega)) rfl (W.glo 33) k__law_word b__law_word (fun σ => passAt tk σ) (by exact (pa_cons (pv 0) pa_nil))))) (pss_one (ps_ret (pv 0))) pss_nil)
    (pss_one (ps_ret (pe_ifExp (PW.pt (pw_and (pt_val (pe_callB call_isiV (by rfl) (W.free 0) (by decide +kernel) (pa_cons (pv 0) (pa_cons (pe_bltn (v := .ty "int") (u := .type "int") rfl (W.free 2) (by decide +kernel) rfl) pa_nil)))) (pw_and1 (pt_not (pt_val (pe_callB call_isiV (by rfl) (W.free 0) (by decide +kernel) (pa_cons (pv 0) (pa_cons (pe_bltn (v := .ty "bool") (u := .type "bool") rfl (W.free 1) (by decide +kernel) rfl) pa_nil)))))))) (pe_callTy (call_str1 rfl W.dg) (by rfl) (W.free 8) (by decide +kernel) (pa_cons (pv 0) pa_nil)) pe_non))))), ?_⟩
    obtain ⟨x, d, rfl, hd, hp, hl, hq⟩ := h
    clear tk po
    walk_at "x"
    simp only [rIsaV]
    walk_at "x"
    refine ⟨by decide, _, IsaV.of hd, ?_⟩
    have leafW : leafOk d = true → isa d "tuple" = false → spLWord K [x] H (fun x_2 H1 => ∃ c, x_2 = V.bl c ∧ if c = true then Q x H1 else okTy "int" = true ∧ ∃ b, IsaV K H1 x "int" b ∧ if b = true then (okTy "bool" = true ∧ ∃ b, IsaV K H1 x "bool" b ∧ if (!b) = true then rStr1 [x] H1 Q else Q V.non H1) else Q V.non H1) (fun _ _ _ => False) := by
      intro h1 h2
      refine ⟨x, d, rfl, hd, ?_, fun H1 sm => ⟨_, rfl, ?_⟩⟩
      · rintro z rfl
        cases hd
        simp only [leafOk, wordL, Bool.and_eq_true, decide_eq_true_eq] at h1
        have : z.length = z.cps.toList.length := rfl
        omega
      · cases hd with
        | str z =>
          have : wordD (.str z) = true := h1
          rw [if_pos this]
          exact hq H1 sm
        | int i =>
          have : wordD (.int i) = false := rfl
          rw [if_neg (by rw [this]; decide)]
          refine ⟨by decide, true, rfl, ?_⟩
          refine iteT ⟨by decide, false, rfl, iteT ⟨_, rfl, ?_⟩⟩
          exact ⟨short_P43 (Bool.and_eq_true_iff.mp h1).1, hq H1 sm⟩
        | _ => cases h1
    cases hd with
    | @tup a vs ds h1 h2 =>
      have e1 : isa (.tuple ds) "tuple" = true := rfl
      rw [e1]
      refine iteT ?_
      have hp' : plainDs n ds = true := by simpa only [plainD] using hp
      have hvl := DpAll.length h2
      have lens := wTs_each ds
      have hlT : (wT (.tuple ds)).length = (wTs ds).length + 2 := by simp [wT]
      refine tLc_of (walk_tup (K := K) (a := a) (xs := vs)) (H1 := H) ?_ (fun D i H' => Same H H' ∧ H D = none ∧ H' D = some (.lst ((ds.take i).map fun d => .str (S (wT d))))) ?_ ?_ ?_ ?_
      · intro R hR
        simp only [iTup]
        walk_at "x"
        exact ⟨⟨_, h1⟩, hR⟩
      · intro D hD
        exact ⟨Same.new hD, hD, upd_same⟩
      · rintro D i H' _ ⟨sm, hD, _⟩
        exact (Tx.of sm).sqt h1
      · rintro D i y H2 H3 hi ⟨sm, hD, hv⟩ ⟨rfl, hy⟩
        obtain ⟨d, hd', hdp⟩ := DpAll.get h2 hy
        walk_at "x"
        have hpd := plainDs_get hp' hd'
        have hlen := lens d (List.mem_of_getElem? hd')
        refine ⟨y, d, rfl, Dp.sm sm d y hdp, hpd, by omega, fun H4 s4 => ⟨_, s4 _ _ hv, ?_, Same.mut (Same.trans sm s4) hD, hD, ?_⟩⟩
        · rw [List.length_map, List.length_take, sizeLine_eq]
          have := wTs_count ds
          omega
        · rw [upd_same, List.take_succ, hd']
          simp
      · rintro D H2 ⟨sm, hD, hv⟩
        rw [hvl, List.take_length] at hv
        have hv' : H2 D = some (.lst ((ds.map fun d => S (wT d)).map V.str)) := by rw [hv, List.map_map]; rfl
        refine ⟨D, _, rfl, .inl (SqL.of hv), rfl, by simp [flatV], ?_⟩
        have nin : inV V.non (ds.map fun d => V.str (S (wT d))) = false := by
          unfold inV
          rw [List.any_map, List.any_eq_false]
          intro d _
          simp [eqV]
        refine ⟨_, rfl, ?_⟩
        simp only [Bool.false_eq_true, if_false, nin]
        have j1 := join_wTs ds
        have j2 : Txt.join (Str.ofString ",") (ds.map fun d => S (wT d)) = S (wTs ds) := j1
        refine ⟨rfl, D, rfl, ds.map fun d => S (wT d), .inl (SqL.of hv'), ?_, ?_, ?_, ?_⟩
        · have := wTs_count ds
          have e := wTs_sum ds
          rw [show (Str.ofString ",").length = 1 by decide +kernel, List.length_map, List.map_map]
          have e2 : (ds.map ((fun x : Str => x.length) ∘ fun d => S (wT d))) = ds.map fun d => (wT d).length := rfl
          rw [e2]
          omega
        · rw [j2, len_S, show (Str.ofString "[").length = 1 by decide +kernel, sizeLine_eq]
          omega
        · rw [j2, ob_lit, S_app, len_S, show (Str.ofString "]").length = 1 by decide +kernel, sizeLine_eq]
          simp
          omega
        · rw [j2, ob_lit, cb_lit, S_app, S_app]
          have := hq H2 sm
          simpa [wT] using this
    | str z =>
      exact leafW (by simpa only [plainD] using hp) rfl
    | int i =>
      exact leafW (by simpa only [plainD] using hp) rfl
    | _ => simp [plainD] at hp
end
end WW

set_option maxHeartbeats 4000000
namespace WW
open PySem PySem.Spec PyProof.Rows L2
section
variable {X : Cx}
def rEqW (K : PySem.W.Frag) : R2 := fun x y H Q => ∃ d e, Dp K H x d ∧ Dp K H y e ∧ d.canLay0 = true ∧ e.canLay0 = true ∧ min d.depth e.depth ≤ 64 ∧ Q (.bl (PyData.eqv d e)) H
def rNeW (K : PySem.W.Frag) : R2 := fun x y H Q => ∃ d e, Dp K H x d ∧ Dp K H y e ∧ d.canLay0 = true ∧ e.canLay0 = true ∧ min d.depth e.depth ≤ 64 ∧ Q (.bl (!PyData.eqv d e)) H
theorem op_eqW (hu : X.A.units + 64 < cLine) : OpR X (compareOp .Eq) (rEqW X.K) := by
  intro pins s σ H x y v u Q I rx ry h
  obtain ⟨d, e, hd, he, sd, se, hm, q⟩ := h
  obtain ⟨as, r1⟩ := Dp.reads I d x v hd rx
  obtain ⟨bs, r2⟩ := Dp.reads I e y u he ry
  exact SeqAt.compareEq_reads r1 r2 sd se (by omega) ⟨.bl _, H, I, rfl, q⟩
theorem op_neW (hu : X.A.units + 64 < cLine) : OpR X (compareOp .NotEq) (rNeW X.K) := by
  intro pins s σ H x y v u Q I rx ry h
  obtain ⟨d, e, hd, he, sd, se, hm, q⟩ := h
  obtain ⟨as, r1⟩ := Dp.reads I d x v hd rx
  obtain ⟨bs, r2⟩ := Dp.reads I e y u he ry
  exact SeqAt.compareNe_reads r1 r2 sd se (by omega) ⟨.bl _, H, I, rfl, q⟩
end
/-! ### the law's reader, plain -/
structure LS where
  rows : List (List PyData)
  cur : Option PyData
def LS.token (s : LS) (tok : List Nat) : Option LS := if tok = [] then some s else match atomR tok with
  | some a => if s.cur.isNone then some ⟨s.rows, some a⟩ else none
  | none => none
def LS.sign (s : LS) (c : Nat) : Option LS :=
  if c = 91 then (if s.cur.isNone then some ⟨[] :: s.rows, none⟩ else none)
  else if c = 44 then (match s.cur, s.rows with
    | some d, row :: rest => some ⟨(row ++ [d]) :: rest, none⟩
    | _, _ => none)
  else if c = 93 then (match s.rows with
    | [] => none
    | row :: rest => if s.cur.isNone && decide (row ≠ []) then none else some ⟨rest, some (.tuple (row ++ s.cur.toList))⟩)
  else some s
def isEnd (c : Nat) : Bool := isBrk c || c == 59
def LS.run (s : LS) (tok : List Nat) : List Nat → Option LS
  | [] => some s
  | c :: l => if isEnd c then (s.token tok).bind fun s1 => (s1.sign c).bind fun s2 => s2.run [] l else s.run (tok ++ [c]) l
def lrd (l : List Nat) : Option PyData := match LS.run ⟨[], none⟩ [] (l ++ [59]) with
  | some ⟨[], some d⟩ => if 59 ∈ l then none else some d
  | _ => none
/-- no token is longer than M -/
def runs (M : Nat) : Nat → List Nat → Prop
  | t, [] => t ≤ M
  | t, c :: l => t ≤ M ∧ runs M (if isEnd c then 0 else t + 1) l
def LS.ok (s : LS) : Prop := (∀ row ∈ s.rows, PyData.canLayAll0 row = true) ∧ ∀ d, s.cur = some d → d.canLay0 = true
theorem word_ok {l : List Nat} (h : wordL l = true) : PyData.strOk (S l) = true := by
  unfold PyData.strOk
  rw [← Array.all_toList, List.all_eq_true]
  intro c hc
  simp only [wordL, Bool.and_eq_true] at h
  have := List.all_eq_true.mp h.2 c hc
  simp only [isLow, isDig, Bool.or_eq_true, Bool.and_eq_true, decide_eq_true_eq] at this
  rw [decide_eq_true_eq]
  omega
theorem atom_lay {l : List Nat} {a : PyData} (h : atomR l = some a) : a.canLay0 = true := by
  unfold atomR at h
  split at h
  · rename_i hw
    cases h
    simpa only [PyData.canLay0] using word_ok hw
  · cases hw : wholeL l with
    | none => rw [hw] at h; cases h
    | some i => rw [hw] at h; cases h; rfl
theorem atom_imm {l : List Nat} {a : PyData} (h : atomR l = some a) : imm a = true := by
  unfold atomR at h
  split at h
  · cases h; rfl
  · cases hw : wholeL l with
    | none => rw [hw] at h; cases h
    | some i => rw [hw] at h; cases h; rfl
theorem canLay_app (a b : List PyData) : PyData.canLayAll0 (a ++ b) = (PyData.canLayAll0 a && PyData.canLayAll0 b) := by
  induction a with
  | nil => simp [PyData.canLayAll0]
  | cons x a ih => simp [PyData.canLayAll0, ih, Bool.and_assoc]
theorem LS.ok_token {s s' : LS} {tok : List Nat} (h : s.ok) (e : s.token tok = some s') : s'.ok := by
  unfold LS.token at e
  split at e
  · cases e; exact h
  · cases ha : atomR tok with
    | none => rw [ha] at e; cases e
    | some a =>
      rw [ha] at e
      simp only at e
      split at e
      · cases e
        exact ⟨h.1, fun d hd => by cases hd; exact atom_lay ha⟩
      · cases e
theorem LS.ok_sign {s s' : LS} {c : Nat} (h : s.ok) (e : s.sign c = some s') : s'.ok := by
  obtain ⟨rows, cur⟩ := s
  obtain ⟨h1, h2⟩ := h
  simp only at h1 h2
  unfold LS.sign at e
  simp only at e
  split at e
  · split at e
    · cases e
      exact ⟨fun row hr => by rcases List.mem_cons.mp hr with rfl | hr; rfl; exact h1 row hr, fun d hd => by cases hd⟩
    · cases e
  · split at e
    · cases cur with
      | none => cases e
      | some d =>
        cases rows with
        | nil => cases e
        | cons row rest =>
          cases e
          refine ⟨fun r hr => ?_, fun d hd => by cases hd⟩
          rcases List.mem_cons.mp hr with rfl | hr
          · rw [canLay_app, h1 row (List.mem_cons_self ..)]
            simp only [PyData.canLayAll0, h2 d rfl, Bool.and_self]
          · exact h1 r (List.mem_cons_of_mem _ hr)
    · split at e
      · cases rows with
        | nil => cases e
        | cons row rest =>
          simp only at e
          split at e
          · cases e
          · cases e
            refine ⟨fun r hr => h1 r (List.mem_cons_of_mem _ hr), fun d hd => ?_⟩
            cases hd
            simp only [PyData.canLay0, canLay_app, h1 row (List.mem_cons_self ..), Bool.true_and]
            cases cur with
            | none => rfl
            | some d => simp only [Option.toList, PyData.canLayAll0, h2 d rfl, Bool.and_self]
      · cases e
        exact ⟨h1, h2⟩
/-! ### its state in the heap -/
structure LdB (K : PySem.W.Frag) (B : Hp) (n : Nat) (H : Hp) (R Dn : Addr) (as : List Addr) (s : LS) : Prop where
  ht : H R = some (.lst (as.map V.ref).reverse)
  hs : RowsOk K H n as s.rows
  hd : ∀ d, s.cur = some d → ∃ v, H Dn = some (.lst [v]) ∧ Dp K H v d ∧ imm d = true
  nd : (R :: as).Nodup
  rd : R ≠ Dn
  sd : Dn ∉ as
  sm : Same B H
  bd : B Dn = none
  br : B R = none
  bs : ∀ a ∈ as, B a = none
  da : ∃ xs, H Dn = some (.lst xs)
  ln : s.rows.length ≤ n
section
variable {K : PySem.W.Frag} {B H H' : Hp} {n : Nat} {R Dn : Addr} {as : List Addr} {s : LS}
theorem LdB.up {m : Nat} (h : n ≤ m) (g : LdB K B n H R Dn as s) : LdB K B m H R Dn as s := ⟨g.ht, g.hs.up h, g.hd, g.nd, g.rd, g.sd, g.sm, g.bd, g.br, g.bs, g.da, Nat.le_trans g.ln h⟩
theorem LdB.same (t : Same H H') (g : LdB K B n H R Dn as s) : LdB K B n H' R Dn as s :=
  ⟨t _ _ g.ht, g.hs.same t, fun d e => by obtain ⟨v, h1, h2, h3⟩ := g.hd d e; exact ⟨v, t _ _ h1, Dp.sm t d v h2, h3⟩, g.nd, g.rd, g.sd, Same.trans g.sm t, g.bd, g.br, g.bs, (by obtain ⟨xs, q⟩ := g.da; exact ⟨xs, t _ _ q⟩), g.ln⟩
/-- a new done -/
theorem LdB.done (g : LdB K B n H R Dn as s) {p : Addr} {v : V} {d : PyData} (hp : H p = none) (hd : Dp K H v d) (hi : imm d = true) : LdB K B n (upd H p (.lst [v])) R p as ⟨s.rows, some d⟩ := by
  have g1 := g.same (Same.new (o := .lst [v]) hp)
  refine ⟨g1.ht, g1.hs, fun e he => ?_, g1.nd, ne_of_none g.ht hp, fun h => ?_, g1.sm, Same.none g.sm hp, g1.br, g1.bs, ⟨_, upd_same⟩, g.ln⟩
  · cases he
    exact ⟨v, upd_same, Dp.tx (Tx.nw hp) d v hi hd, hi⟩
  · obtain ⟨vs, q⟩ := g.hs.some p h
    rw [q] at hp
    cases hp
theorem LdB.notas (g : LdB K B n H R Dn as s) : R ∉ as := (List.nodup_cons.mp g.nd).1
/-- the cell done, kept -/
theorem LdB.hd' (g : LdB K B n H R Dn as s) (t : Tx H H') (e : H' Dn = H Dn) : ∀ d, s.cur = some d → ∃ v, H' Dn = some (.lst [v]) ∧ Dp K H' v d ∧ imm d = true := fun d h => by
  obtain ⟨v, h1, h2, h3⟩ := g.hd d h
  exact ⟨v, e.trans h1, Dp.tx t d v h3 h2, h3⟩
theorem LdB.dp (g : LdB K B n H R Dn as s) : Dp K H (.ref R) (.list (s.rows.map PyData.list).reverse) := by
  refine .lst (SqL.of g.ht) ?_
  have : ∀ {as : List Addr} {rows : List (List PyData)}, RowsOk K H n as rows → DpAll K H (as.map V.ref).reverse (rows.map PyData.list).reverse := by
    intro as rows h
    induction h with
    | nil => exact .nil
    | cons a b ih =>
      obtain ⟨vs, h1, h2, _⟩ := a
      rw [List.map_cons, List.map_cons, List.reverse_cons, List.reverse_cons]
      exact DpAll.app ih (.cons (.lst (SqL.of h1) h2) .nil)
  exact this g.hs
theorem LdB.push (g : LdB K B n H R Dn as s) {p : Addr} (hp : H p = none) : LdB K B (n + 2) (upd (upd H p (.lst [])) R (.lst ((as.map V.ref).reverse ++ [.ref p]))) R Dn (p :: as) ⟨[] :: s.rows, none⟩ := by
  obtain ⟨xs, hxs⟩ := g.da
  have e : Dn ≠ p := ne_of_none hxs hp
  have np : R ≠ p := ne_of_none g.ht hp
  have t1 : Tx H (upd H p (.lst [])) := Tx.nw hp
  have t2 : Tx (upd H p (.lst [])) (upd (upd H p (.lst [])) R (.lst ((as.map V.ref).reverse ++ [.ref p]))) := Tx.up (by rw [upd_ne np]; exact g.ht) noTup_l
  have pas : ∀ a ∈ as, a ≠ p := fun a ha => by
    obtain ⟨vs, hv⟩ := g.hs.some a ha
    exact ne_of_none hv hp
  have ras : ∀ a ∈ as, a ≠ R := fun a ha e => g.notas (e ▸ ha)
  have s1 := g.hs.tx (t1.trans t2) fun a ha => by rw [upd_ne (ras a ha), upd_ne (pas a ha)]
  refine ⟨by rw [upd_same]; simp, .cons ⟨[], by rw [upd_ne np.symm, upd_same], .nil, rfl, Nat.zero_le _⟩ (s1.up (by omega)), (fun _ h => nomatch h), ?_, g.rd, ?_, Same.mut (Same.mut g.sm (Same.none g.sm hp)) g.br, g.bd, g.br, fun a ha => ?_, ⟨xs, by rw [upd_ne g.rd.symm, upd_ne e]; exact hxs⟩, by rw [List.length_cons]; exact Nat.le_trans (Nat.succ_le_succ g.ln) (Nat.le_succ _)⟩
  · have nd := g.nd
    simp only [List.nodup_cons, List.mem_cons, not_or] at nd ⊢
    exact ⟨⟨np, nd.1⟩, fun h => pas p h rfl, nd.2⟩
  · intro h
    rcases List.mem_cons.mp h with h | h
    · exact e h
    · exact g.sd h
  · rcases List.mem_cons.mp ha with rfl | ha
    · exact Same.none g.sm hp
    · exact g.bs a ha
theorem LdB.top {a : Addr} {row : List PyData} {rest : List (List PyData)} {cur : Option PyData} (g : LdB K B n H R Dn (a :: as) ⟨row :: rest, cur⟩) : Row K H n a row ∧ RowsOk K H n as rest := by
  cases g.hs with
  | cons h1 h2 => exact ⟨h1, h2⟩
theorem LdB.split {row : List PyData} {rest : List (List PyData)} {cur : Option PyData} (g : LdB K B n H R Dn as ⟨row :: rest, cur⟩) : ∃ a as', as = a :: as' := by
  have := g.hs.len
  cases as with
  | nil => simp at this
  | cons a as' => exact ⟨a, as', rfl⟩
theorem LdB.add {a : Addr} {row : List PyData} {rest : List (List PyData)} {cur : Option PyData} (g : LdB K B n H R Dn (a :: as) ⟨row :: rest, cur⟩) {vs : List V} {v : V} {d : PyData} (hv : H a = some (.lst vs)) (hd : Dp K H v d) (hi : imm d = true) :
    LdB K B (n + 2) (upd H a (.lst (vs ++ [v]))) R Dn (a :: as) ⟨(row ++ [d]) :: rest, none⟩ := by
  obtain ⟨h1, h2⟩ := g.top
  have t : Tx H (upd H a (.lst (vs ++ [v]))) := Tx.up hv noTup_l
  have nd := g.nd
  simp only [List.nodup_cons, List.mem_cons, not_or] at nd
  have h3 := (h1.add hv hd hi).up (show n + 1 ≤ n + 2 by omega)
  have h4 := (h2.tx t fun c hc => upd_ne fun e => nd.2.1 (e ▸ hc)).up (show n + 1 ≤ n + 2 by omega)
  obtain ⟨xs, hxs⟩ := g.da
  have ln := g.ln
  have na : Dn ≠ a := fun e => g.sd (e ▸ List.mem_cons_self ..)
  exact ⟨by rw [upd_ne nd.1.1]; exact g.ht, .cons h3 h4, (fun _ h => nomatch h), g.nd, g.rd, g.sd, Same.mut g.sm (g.bs a (List.mem_cons_self ..)), g.bd, g.br, g.bs, ⟨xs, by rw [upd_ne na]; exact hxs⟩, Nat.le_trans ln (by omega)⟩
theorem LdB.pop {a : Addr} {row : List PyData} {rest : List (List PyData)} {cur : Option PyData} (g : LdB K B n H R Dn (a :: as) ⟨row :: rest, cur⟩) : LdB K B (n + 1) (upd H R (.lst (as.map V.ref).reverse)) R Dn as ⟨rest, cur⟩ := by
  obtain ⟨h1, h2⟩ := g.top
  have t : Tx H (upd H R (.lst (as.map V.ref).reverse)) := Tx.up g.ht noTup_l
  have nd := g.nd
  simp only [List.nodup_cons, List.mem_cons, not_or] at nd
  obtain ⟨xs, hxs⟩ := g.da
  have ln := g.ln
  rw [List.length_cons] at ln
  refine ⟨upd_same, h2.tx t fun c hc => upd_ne fun e => nd.1.2 (e ▸ hc), g.hd' t (upd_ne g.rd.symm), List.nodup_cons.mpr ⟨nd.1.2, nd.2.2⟩, g.rd, fun h => g.sd (List.mem_cons_of_mem _ h), Same.mut g.sm g.br, g.bd, g.br, (fun c hc => g.bs c (List.mem_cons_of_mem _ hc)), ⟨xs, by rw [upd_ne g.rd.symm]; exact hxs⟩, by simp only; omega⟩
theorem lay_rows {rows : List (List PyData)} (h : ∀ row ∈ rows, PyData.canLayAll0 row = true) : (PyData.list (rows.map PyData.list).reverse).canLay0 = true := by
  have : PyData.canLayAll0 (rows.map PyData.list).reverse = true := by
    induction rows with
    | nil => rfl
    | cons row rows ih =>
      rw [List.map_cons, List.reverse_cons, canLay_app, ih fun r hr => h r (List.mem_cons_of_mem _ hr)]
      simp only [PyData.canLayAll0, PyData.canLay0, h row (List.mem_cons_self ..), Bool.and_self]
  simpa only [PyData.canLay0] using this
theorem eqv_nil (ds : List PyData) : PyData.eqv (.list ds) (.list []) = ds.isEmpty := by
  cases ds <;> simp [PyData.eqv, PyData.eqvAll]
end
end WW

set_option maxHeartbeats 4000000
namespace WW
open PySem PySem.Spec PyProof.Rows L2
local macro_rules | `(tactic| walk_at "x") => `(tactic| simp only [tSeq, tNext, tAsg, gName, tRet, tRetN, tIfS, tOp, tUn, rI, rI0, rU, tTest, tB, tAnd, tOr, tNot, tAndV, tOrV, tNotV, tIf, tCons, tNil, tTup, tLst, tCall, tCallS, tMeth, tMake, tFld, sFld, tBM, tBM0, tCB, tSl, tPart, tNoPart, tDrop, tPar, tPar3, tAug, ipI, gTup, gCons, gNil, gSub, rSetL, rAppend, rPop, rIxL, rIxS, rIxT, rEq, rNe, tChain, tNever, tThen, tVar, tC, L2.start, List.map_cons, List.map_nil, List.length_cons, List.length_nil, List.replicate_succ, List.replicate_zero, List.append_nil, List.nil_append, List.cons_append, Nat.reduceAdd, Nat.reduceSub, Nat.add_zero, Nat.zero_add, Nat.sub_zero, Nat.sub_self,
  List.getElem?_cons_zero, List.getElem?_cons_succ, Option.some.injEq, exists_eq_left', exists_eq_left, exists_eq', exists_eq, exists_and_left, List.set_cons_zero, List.set_cons_succ, V.int.injEq, V.bl.injEq, V.str.injEq, V.ref.injEq, V.ty.injEq, List.cons.injEq, and_true, true_and, and_assoc, if_true, if_false, Bool.false_eq_true, reduceCtorEq, false_and, and_false, exists_false, false_or, or_false, Bool.not_true, Bool.not_false, decide_eq_true_eq, ite_true, ite_false, WE, cxOf_K, cxOf_mg, rSlS, scal, wipe, mem_low, mem_dig, mem_brk, mem_brk4, sgn_inj, Bool.decide_eq_true])

def spLRead (K : PySem.W.Frag) : Sp := fun vs H Q _ => ∃ z : Str, vs = [.str z] ∧ z.length ≤ 100000 ∧ runs 4000 0 (z.cps.toList ++ [59]) ∧ (match lrd z.cps.toList with
    | some d => ∀ D v H', Same H H' → H D = none → H' D = some (.lst [v]) → Dp K H' v d → imm d = true → Q (.ref D) H'
    | none => ∀ H', Same H H' → Q .non H')
/-- the loop's state -/
def lInv (K : PySem.W.Frag) (z : Str) (B : Hp) (i : Nat) (σ : L2.St) (H : Hp) : Prop := ∃ R Dn as s tok y5 y6 y7, σ = [some (.str z), some (.ref R), some (.ref Dn), some (.str (S tok)), some (.bl s.cur.isNone), y5, y6, y7] ∧ LdB K B (2 * i) H R Dn as s ∧ s.ok ∧
  LS.run ⟨[], none⟩ [] (z.cps.toList ++ [59]) = LS.run s tok ((z.cps.toList ++ [59]).drop i) ∧ runs 4000 tok.length ((z.cps.toList ++ [59]).drop i)
theorem se_lit : Str.ofString ";" = S [59] := by decide +kernel
theorem sgS (a b : Nat) : ((⟨#[a]⟩ : Str) = S [b]) = (a = b) := sgn_inj a b
theorem iEnd (c : Nat) : (isBrk c || c == 59) = isEnd c := rfl
section
variable {P : Program} {w : World} {K : PySem.W.Frag} {mg : Str → Option Value} {base : Heap}
theorem o__law_data (W : Wd fa fn K mg) : ∀ n, OkF P w K mg base d__law_data (n + 1) ["draw", "deep"] (spData K n) := by
  intro n
  induction n with
  | zero =>
    refine okf W (d := d__law_data) 15 sc__law_data rfl rfl (fun _ _ _ _ _ _ us hl => match us, hl with | [_, _], _ => rfl) ?len (fun cdv A outer s H vs Q E hr nd hu tk po h => ?body)
    case len =>
      rintro vs H Q E ⟨_, _, _, rfl, _⟩
      rfl
    case body =>
      obtain ⟨_, _, k, _, hk, _⟩ := h
      exact absurd hk (Nat.not_lt_zero _)
  | succ n ih => exact data_step n W ih
theorem o__law_written (W : Wd fa fn K mg) : ∀ n, OkF P w K mg base d__law_written (n + 1) ["data"] (spWritten K n) := by
  intro n
  induction n with
  | zero =>
    refine okf W (d := d__law_written) 17 sc__law_written rfl rfl (fun _ _ _ _ _ _ us hl => match us, hl with | [_], _ => rfl) ?len (fun cdv A outer s H vs Q E hr nd hu tk po h => ?body)
    case len =>
      rintro vs H Q E ⟨_, _, rfl, _⟩
      rfl
    case body =>
      obtain ⟨_, d, _, _, hk, _⟩ := h
      cases d <;> simp [plainD] at hk
  | succ n ih => exact written_step n W ih
theorem o__law_read (W : Wd fa fn K mg) : OkF P w K mg base d__law_read 2 ["text"] (spLRead K) := by
  have o__law_word := (o__law_word (P := P) (w := w) (base := base) W)
  have o__law_number := (o__law_number (P := P) (w := w) (base := base) W)
  obtain ⟨fd__law_word, F__law_word, b__law_word, k__law_word⟩ := o__law_word.ex; obtain ⟨fd__law_number, F__law_number, b__law_number, k__law_number⟩ := o__law_number.ex
  refine okf W (d := d__law_read) 19 sc__law_read rfl rfl (fun _ _ _ _ _ _ us hl => match us, hl with | [_], _ => rfl) ?len (fun cdv A outer s H vs Q E hr nd hu tk po h => ?body)
  case len =>
    rintro vs H Q E ⟨_, rfl, _⟩
    rfl
  case body =>
    refine ⟨_, (pss_cons (ps_asg (pe_tup (pa_cons (pe_lst pa_nil) (pa_cons (pe_lst pa_nil) (pa_cons pe_str (pa_cons pe_bl pa_nil))))) (pg_tup rfl (pgs_cons (pg_name (i := 1) nd rfl (by first | exact Or.inl rfl | exact Or.inr rfl)) (pgs_cons (pg_name (i := 2) nd rfl (by first | exact Or.inl rfl | exact Or.inr rfl)) (pgs_cons (pg_name (i := 3) nd rfl (by first | exact Or.inl rfl | exact Or.inr rfl)) (pgs_cons (pg_name (i := 4) nd rfl (by first | exact Or.inl rfl | exact Or.inr rfl)) pgs_nil))))))
    (pss_cons (ps_for po rfl (pi_str (pe_op op_add_str (pv 0) pe_str)) (pg_name (i := 5) nd rfl (by first | exact Or.inl rfl | exact Or.inr rfl))
      (pss_one (ps_if (pt_cmpR op_in_sign (pv 5) pe_str (by rfl)) (Evl.pss_cut (ps_if (pt_cmpR op_ne (pv 3) pe_str (nomark _)) (pss_cons (ps_set (i := 6) nd rfl (by first | exact Or.inl rfl | exact Or.inr rfl) (pe_ifExp (pt_val (by exact (pe_callS F__law_word (hr.mono (by first | decide | omega)) rfl (W.glo 33) k__law_word b__law_word (fun σ => passAt tk σ) (by exact (pa_cons (pv 3) pa_nil))))) (pv 3) (by exact (pe_callS F__law_number (hr.mono (by first | decide | omega)) rfl (W.glo 35) k__law_number b__law_number (fun σ => passAt tk σ) (by exact (pa_cons (pv 3) pa_nil))))))
    (pss_cons (ps_if (PW.pt (pw_or (pt_cmpR op_isN (pv 6) pe_non (nomark _)) (pw_or1 (pt_not (pt_val (pv 4)))))) (pss_one (ps_ret pe_non)) pss_nil)
    (pss_one (ps_par3 (i := 2) (j := 4) (l := 3) (by rfl) nd rfl rfl rfl (by decide) (by decide) (by decide) rfl rfl rfl (pa_cons (pe_lst (pa_cons (pv 6) pa_nil)) (pa_cons pe_bl (pa_cons pe_str pa_nil))) (by rfl))))) pss_nil)
    (pss_one (ps_if (pt_cmpR op_eq (pv 5) pe_str (nomark _)) (pss_cons (ps_if (pt_not (pt_val (pv 4))) (pss_one (ps_ret pe_non)) pss_nil)
    (pss_one (ps_expr (pe_bm PySem.F.plainAttrs_list PySem.F.slot_list_append PySem.F.type_list_append mt_append (pv 1) (pa_cons (pe_lst pa_nil) pa_nil))))) (pss_one (ps_if (pt_cmpR op_eq (pv 5) pe_str (nomark _)) (pss_cons (ps_if (PW.pt (pw_or (pt_val (pv 4)) (pw_or1 (pt_cmpR (op_eqW hr.units) (pv 1) (pe_lst pa_nil) (nomark _))))) (pss_one (ps_ret pe_non)) pss_nil)
    (pss_cons (ps_expr (pe_bm PySem.F.plainAttrs_list PySem.F.slot_list_append PySem.F.type_list_append mt_append (pe_ix ix_list (pv 1) (pe_un un_neg pe_int) (fun _ _ => rfl)) (pa_cons (pe_ix ix_list (pv 2) pe_int (fun _ _ => rfl)) pa_nil)))
    (pss_one (ps_set (i := 4) nd rfl (by first | exact Or.inl rfl | exact Or.inr rfl) pe_bl)))) (pss_one (ps_if (pt_cmpR op_eq (pv 5) pe_str (nomark _)) (pss_cons (ps_if (PW.pt (pw_or (pt_cmpR (op_eqW hr.units) (pv 1) (pe_lst pa_nil) (nomark _)) (pw_or1 (PW.pt (pw_and (pt_val (pv 4)) (pw_and1 (pt_cmpR (op_neW hr.units) (pe_ix ix_list (pv 1) (pe_un un_neg pe_int) (fun _ _ => rfl)) (pe_lst pa_nil) (nomark _)))))))) (pss_one (ps_ret pe_non)) pss_nil)
    (pss_cons (ps_set (i := 7) nd rfl (by first | exact Or.inl rfl | exact Or.inr rfl) (pe_bm0 PySem.F.plainAttrs_list PySem.F.slot_list_pop PySem.F.type_list_pop mt_pop (pv 1)))
    (pss_one (ps_par (i := 2) (j := 4) (by rfl) nd rfl rfl (by decide) rfl rfl (pa_cons (pe_lst (pa_cons (pe_callTy call_tuple_of (by rfl) (W.free 13) (by decide +kernel) (pa_cons (pe_op op_cat (pv 7) (pe_ifExp (pt_val (pv 4)) (pe_lst pa_nil) (pe_lst (pa_cons (pe_ix ix_list (pv 2) pe_int (fun _ _ => rfl)) pa_nil)))) pa_nil)) pa_nil)) (pa_cons pe_bl pa_nil)) (by rfl))))) pss_nil))))))) (pss_one (ps_set (i := 3) nd rfl (by first | exact Or.inl rfl | exact Or.inr rfl) (pe_op op_add_str (pv 3) (pv 5)))))))
    (pss_one (ps_ret (pe_ifExp (PW.pt (pw_and (pt_cmpR (op_eqW hr.units) (pv 1) (pe_lst pa_nil) (nomark _)) (pw_and (pt_not (pt_val (pv 4))) (pw_and1 (pt_cmpR op_notIn_sign pe_str (pv 0) (by rfl)))))) (pv 2) pe_non))))), ?_⟩
    obtain ⟨z, rfl, hz⟩ := h
    clear tk po
    obtain ⟨hz, hr, hq⟩ := hz
    have el : z.length = z.cps.toList.length := rfl
    have szl := sizeLine_eq
    walk_at "x"
    refine ⟨by decide, fun R hR => ⟨by decide, fun D0 hD0 => ⟨by decide, fun T hT => ?_⟩⟩⟩
    have n1 : D0 ≠ R := fun e => by rw [e, upd_same] at hD0; cases hD0
    rw [upd_ne n1] at hD0
    have n2 : T ≠ D0 := fun e => by rw [e, upd_same] at hT; cases hT
    rw [upd_ne n2] at hT
    have n3 : T ≠ R := fun e => by rw [e, upd_same] at hT; cases hT
    rw [upd_ne n3] at hT
    refine ⟨_, SqT.of upd_same, rfl, _, _, rfl, _, _, rfl, _, _, rfl, _, _, rfl, rfl, ?_⟩
    refine tFor_same (walk_str (z := z ++ S [59])) ?_ (lInv K z H) ?_ (fun _ _ _ _ _ => trivial) ?_ ?_
    · intro R hR
      simp only [iStr]
      walk_at "x"
      rw [se_lit]
      exact ⟨by rw [len_S, szl]; simp; omega, hR⟩
    · refine ⟨R, D0, [], ⟨[], none⟩, [], none, none, none, by rw [empty_lit]; rfl, ?_, ⟨(fun _ h => nomatch h), (fun _ h => nomatch h)⟩, rfl, hr⟩
      exact ⟨by rw [upd_ne n3.symm, upd_ne n1.symm, upd_same]; rfl, .nil, (fun _ h => nomatch h), by simp, n1.symm, by simp, Same.mut (Same.mut (Same.new hR) hD0) hT, hD0, hR, (fun _ h => nomatch h), ⟨[], by rw [upd_ne n2.symm, upd_same]⟩, Nat.zero_le _⟩
    · rintro i x σ H1 H2 hi ⟨R, Dn, as, s, tok, y5, y6, y7, rfl, g, ok, hrun, hruns⟩ ⟨rfl, c, hc, rfl⟩
      have hc' : (z.cps.toList ++ [59])[i]? = some c := by
        have e1 : (z ++ S [59]).cps.toList = z.cps.toList ++ [59] := by rw [show (z ++ S [59]).cps.toList = TL.tl (z ++ S [59]) from rfl, TL.tl_append]; rfl
        rw [← e1]
        simpa using hc
      have nope : LS.run ⟨[], none⟩ [] (z.cps.toList ++ [59]) = none → ∀ H', Same H H' → Q .non H' := by
        intro e
        unfold lrd at hq
        rw [e] at hq
        exact hq
      have hi2 : i < z.cps.toList.length + 1 := by
        have := (List.getElem?_eq_some_iff.mp hc').1
        simpa using this
      rw [drop_at hc'] at hrun hruns
      simp only [gName, tIfS]
      walk_at "x"
      have hrun2 : LS.run s tok (c :: (z.cps.toList ++ [59]).drop (i + 1)) = if isEnd c then (s.token tok).bind fun s1 => (s1.sign c).bind fun s2 => s2.run [] ((z.cps.toList ++ [59]).drop (i + 1)) else s.run (tok ++ [c]) ((z.cps.toList ++ [59]).drop (i + 1)) := rfl
      rw [hrun2] at hrun
      have hruns2 : tok.length ≤ 4000 ∧ runs 4000 (if isEnd c then 0 else tok.length + 1) ((z.cps.toList ++ [59]).drop (i + 1)) := hruns
      obtain ⟨htl, hruns3⟩ := hruns2
      by_cases hE : isEnd c = true
      · rw [if_pos (show (isBrk c || c == 59) = true from hE)]
        rw [if_pos hE] at hrun hruns3
        unfold Evl.tCut
        refine ⟨fun σ H' => ∃ Dn s1 y6, σ = [some (.str z), some (.ref R), some (.ref Dn), some (.str (S [])), some (.bl s1.cur.isNone), some (.str ⟨#[c]⟩), y6, y7] ∧ LdB K H (2 * i) H' R Dn as s1 ∧ s1.ok ∧ LS.run ⟨[], none⟩ [] (z.cps.toList ++ [59]) = (s1.sign c).bind fun s2 => s2.run [] ((z.cps.toList ++ [59]).drop (i + 1)), ?_, ?_⟩
        · walk_at "x"
          simp only [empty_lit, S_inj]
          by_cases ht : tok = []
          · subst ht
            simp only [decide_true, Bool.not_true, Bool.false_eq_true, if_false]
            exact ⟨trivial, s, rfl, g, ok, hrun⟩
          · rw [decide_eq_false ht]
            refine iteT ⟨.str (S tok), .str (S tok), rfl, .str _, fun y e => by cases e; rw [len_S]; omega, fun H3 s3 => ⟨_, rfl, ?_⟩⟩
            have fin : ∀ (v : V) (a : PyData) (Hx : Hp), atomR tok = some a → s.cur.isNone = true → Dp K Hx v a → Same H2 Hx → ∀ p, Hx p = none → True ∧ ∃ x, false = x.cur.isNone ∧ LdB K H (2 * i) (upd Hx p (HO.lst [v])) R p as x ∧ x.ok ∧ LS.run ⟨[], none⟩ [] (z.cps.toList ++ [59]) = (x.sign c).bind fun s2 => s2.run [] (List.drop (i + 1) (z.cps.toList ++ [59])) := by
              intro v a Hx hat hcu hv sx p hp
              have et : s.token tok = some ⟨s.rows, some a⟩ := by
                unfold LS.token
                rw [if_neg ht, hat]
                simp only [hcu, if_true]
              refine ⟨trivial, ⟨s.rows, some a⟩, rfl, (g.same sx).done hp hv (atom_imm hat), LS.ok_token ok et, ?_⟩
              rw [hrun, et]
              rfl
            have bad : s.token tok = none → ∀ Hx, Same H2 Hx → Q .non Hx := fun e Hx sx => nope (by rw [hrun, e]; rfl) Hx (Same.trans g.sm sx)
            have notAhead : s.cur.isNone = false → s.token tok = none := by
              intro e
              unfold LS.token
              rw [if_neg ht]
              cases atomR tok with
              | none => rfl
              | some a => simp only [e, Bool.false_eq_true, if_false]
            by_cases hw : wordL tok = true
            · rw [if_pos (show wordD (PyData.str (S tok)) = true from hw)]
              have hat : atomR tok = some (.str (S tok)) := by unfold atomR; rw [if_pos hw]
              rcases Bool.eq_false_or_eq_true s.cur.isNone with hcu | hcu
              · rw [hcu]
                exact iteF ⟨by decide, fin _ _ H3 hat hcu (.str _) s3⟩
              · rw [hcu]
                exact iteT (bad (notAhead hcu) H3 s3)
            · rw [if_neg (show ¬ wordD (PyData.str (S tok)) = true from hw)]
              refine ⟨S tok, rfl, by rw [len_S]; omega, fun H4 s4 => ?_⟩
              rw [tl_S]
              have hat0 : atomR tok = (wholeL tok).map .int := by unfold atomR; rw [if_neg hw]
              cases hwh : wholeL tok with
              | none =>
                rw [hwh] at hat0
                simp only [oV, if_true]
                refine bad ?_ H4 (Same.trans s3 s4)
                unfold LS.token
                rw [if_neg ht, hat0]
                rfl
              | some j =>
                rw [hwh] at hat0
                dsimp only
                rw [if_neg (show ¬ oV (some j) = V.non from fun e => by cases e)]
                rcases Bool.eq_false_or_eq_true s.cur.isNone with hcu | hcu
                · rw [hcu]
                  exact iteF ⟨by decide, fin _ _ H4 hat0 hcu (.int _) (Same.trans s3 s4)⟩
                · rw [hcu]
                  exact iteT (bad (notAhead hcu) H4 (Same.trans s3 s4))
        · rintro σ H3 ⟨Dn, s1, y6, rfl, g1, ok1, hrun1⟩
          walk_at "x"
          simp only [ob_lit, cb_lit, co_lit, sgS]
          have bad : s1.sign c = none → ∀ Hx, Same H3 Hx → Q .non Hx := fun e Hx sx => nope (by rw [hrun1, e]; rfl) Hx (Same.trans g1.sm sx)
          have fin : ∀ (s2 : LS) (Dn2 : Addr) (as2 : List Addr) (Hx : Hp) (b : Bool) (y5 y6 y7 : Option V), s1.sign c = some s2 → b = s2.cur.isNone → LdB K H (2 * (i + 1)) Hx R Dn2 as2 s2 → lInv K z H (i + 1) [some (V.str z), some (V.ref R), some (V.ref Dn2), some (V.str (S [])), some (V.bl b), y5, y6, y7] Hx := by
            intro s2 Dn2 as2 Hx b y5 y6 y7 e hb gx
            refine ⟨R, Dn2, as2, s2, [], _, _, _, by rw [hb], gx, LS.ok_sign ok1 e, ?_, hruns3⟩
            rw [hrun1, e]
            rfl
          have tail : ∀ (rest : List (List PyData)) (row ex : List PyData) (vs zs : List V) (H4 : Hp) (a : Addr) (as' : List Addr) (b5 b6 b7 : Option V) (cu : Option PyData), s1.sign c = some ⟨rest, some (.tuple (row ++ ex))⟩ → LdB K H (2 * i + 1) H4 R Dn as' ⟨rest, cu⟩ → H4 a = some (.lst vs) → DpAll K H4 vs row → DpAll K H4 zs ex → imm.immAll row = true → imm.immAll ex = true → vs.length + zs.length ≤ sizeLine → ∀ p_1, H4 p_1 = none →
              rCat (V.ref a) (V.ref p_1) (upd H4 p_1 (HO.lst zs)) fun x H1 => ∃ p, x = V.ref p ∧ ∃ x, (SqL K H1 p x ∧ ∀ (l : Addr), H1 l = none → 1 ≤ sizeLine ∧ ∀ (p : Addr), upd H1 l (HO.tup x) p = none →
                lInv K z H (i + 1) [some (V.str z), some (V.ref R), some (V.ref p), some (V.str (S [])), some (V.bl false), b5, b6, b7] (upd (upd H1 l (HO.tup x)) p (HO.lst [V.ref l]))) ∨
                SqT K H1 p x ∧ 1 ≤ sizeLine ∧ ∀ (p_2 : Addr), H1 p_2 = none → lInv K z H (i + 1) [some (V.str z), some (V.ref R), some (V.ref p_2), some (V.str (S [])), some (V.bl false), b5, b6, b7] (upd H1 p_2 (HO.lst [V.ref p])) := by
            intro rest row ex vs zs H4 a as' b5 b6 b7 cu es g4 hv hr hz i1 i2 hsz p_1 hp1
            have sA := Same.new (o := HO.lst zs) hp1
            refine ⟨a, p_1, vs, zs, rfl, rfl, sA _ _ hv, upd_same, hsz, fun q hq1 => ⟨q, rfl, vs ++ zs, .inl ⟨SqL.of upd_same, fun l hl => ⟨by decide, fun p3 hp3 => ?_⟩⟩⟩⟩
            have sB := Same.new (o := HO.lst (vs ++ zs)) hq1
            have sC := Same.new (o := HO.tup (vs ++ zs)) hl
            have sm := Same.trans sA (Same.trans sB sC)
            refine fin ⟨rest, some (.tuple (row ++ ex))⟩ p3 as' _ _ _ _ _ es rfl (((g4.same sm).done hp3 (.tup (SqT.of upd_same) ?_) ?_).up (by omega))
            · exact Dp.sms sm _ _ (DpAll.app hr hz)
            · simp only [imm, immAll_app, i1, i2, Bool.and_self]
          obtain ⟨rows, cur⟩ := s1
          by_cases c1 : c = 91
          · subst c1
            rw [if_pos rfl]
            cases cur with
            | some d => exact iteT (bad rfl H3 (Same.refl _))
            | none =>
              refine iteF ⟨tyLst g1.ht, by decide, fun p hp => ?_⟩
              have np : R ≠ p := ne_of_none g1.ht hp
              have hal := g1.hs.len
              rw [upd_ne np]
              refine ⟨_, g1.ht, ?_, ?_⟩
              · have := g1.ln
                simp only [List.length_reverse, List.length_map, hal]
                simp only at this
                omega
              · exact fin ⟨[] :: rows, none⟩ _ _ _ _ _ _ _ rfl rfl (g1.push hp)
          rw [if_neg c1]
          by_cases c2 : c = 44
          · subst c2
            rw [if_pos rfl]
            cases cur with
            | none => exact iteT (bad rfl H3 (Same.refl _))
            | some d =>
              refine iteF ⟨by decide, fun p hp => ?_⟩
              have g2 := g1.same (Same.new (o := HO.lst []) hp)
              refine ⟨_, .list [], g2.dp, .lst (SqL.of upd_same) .nil, lay_rows ok1.1, rfl, by simp [PyData.depth, PyData.depthAll], _, rfl, ?_⟩
              rw [eqv_nil]
              cases rows with
              | nil => exact iteT (bad rfl _ (Same.new hp))
              | cons row rest =>
                rw [if_neg (by simp)]
                obtain ⟨a, as', rfl⟩ := g2.split
                obtain ⟨⟨vs, hv, h2, h3, h4⟩, _⟩ := g2.top
                obtain ⟨v, k1, k2, k3⟩ := g2.hd d rfl
                have hl := DpAll.length h2
                refine ⟨_, SqL.of g2.ht, _, last_ref, tyLst hv, _, SqL.of k1, _, rfl, a, rfl, vs, hv, by omega, ?_⟩
                exact fin ⟨(row ++ [d]) :: rest, none⟩ _ _ _ _ _ _ _ rfl rfl (g2.add hv k2 k3)
          rw [if_neg c2]
          by_cases c3 : c = 93
          · subst c3
            rw [if_pos rfl]
            refine ⟨by decide, fun p hp => ?_⟩
            have g2 := g1.same (Same.new (o := HO.lst []) hp)
            refine ⟨_, .list [], g2.dp, .lst (SqL.of upd_same) .nil, lay_rows ok1.1, rfl, by simp [PyData.depth, PyData.depthAll], _, rfl, ?_⟩
            rw [eqv_nil]
            cases rows with
            | nil => exact iteT (bad rfl _ (Same.new hp))
            | cons row rest =>
              rw [if_neg (by simp)]
              obtain ⟨a, as', rfl⟩ := g2.split
              obtain ⟨⟨vs, hv, h2, h3, h4⟩, _⟩ := g2.top
              have hl := DpAll.length h2
              have hx : ((a :: as').map V.ref).reverse = (as'.map V.ref).reverse ++ [.ref a] := by simp
              have ix : ((as'.map V.ref).reverse ++ [V.ref a])[((as'.map V.ref).reverse ++ [V.ref a]).length - 1]? = some (.ref a) := by simp
              have dl : ((as'.map V.ref).reverse ++ [V.ref a]).dropLast = (as'.map V.ref).reverse := List.dropLast_concat
              cases cur with
              | none =>
                refine iteT ⟨_, SqL.of g2.ht, _, last_ref, by decide, fun q hq0 => ?_⟩
                have s3 := Same.new (o := HO.lst []) hq0
                have g3 := g2.same s3
                refine ⟨.list row, .list [], .lst (SqL.of (s3 _ _ hv)) (Dp.sms s3 _ _ h2), .lst (SqL.of upd_same) .nil, by simpa only [PyData.canLay0] using ok1.1 row (List.mem_cons_self ..), rfl, by simp [PyData.depth, PyData.depthAll], _, rfl, ?_⟩
                rw [eqv_nil]
                cases row with
                | cons e row => exact iteT (bad rfl _ (Same.trans (Same.new hp) s3))
                | nil =>
                  refine iteF ⟨tyLst g3.ht, _, by rw [g3.ht, hx], _, ix, iteT ⟨by decide, ?_⟩⟩
                  rw [dl]
                  have g4 := g3.pop
                  have nd := g3.nd
                  simp only [List.nodup_cons, List.mem_cons, not_or] at nd
                  have tp : Tx _ (upd (upd (upd H3 p (HO.lst [])) q (HO.lst [])) R (.lst (as'.map V.ref).reverse)) := Tx.up g3.ht noTup_l
                  exact tail rest [] [] vs [] _ a as' _ _ _ none rfl g4 (by rw [upd_ne (Ne.symm nd.1.1)]; exact s3 _ _ hv) (DpAll.tx tp rfl (Dp.sms s3 _ _ h2)) .nil rfl rfl (by rw [hl]; decide)
              | some d =>
                refine iteF ⟨tyLst g2.ht, _, by rw [g2.ht, hx], _, ix, iteF ?_⟩
                rw [dl]
                have g4 := g2.pop
                have nd := g2.nd
                simp only [List.nodup_cons, List.mem_cons, not_or] at nd
                obtain ⟨v, k1, k2, k3⟩ := g4.hd d rfl
                have tp : Tx _ (upd (upd H3 p (HO.lst [])) R (.lst (as'.map V.ref).reverse)) := Tx.up g2.ht noTup_l
                exact ⟨_, SqL.of k1, _, rfl, by decide, tail rest row [d] vs [v] _ a as' _ _ _ (some d) rfl g4 (by rw [upd_ne (Ne.symm nd.1.1)]; exact hv) (DpAll.tx tp h3 h2) (.cons k2 .nil) h3 (by simp [imm.immAll, k3]) (by rw [List.length_singleton]; omega)⟩
          rw [if_neg c3]
          have c4 : c = 59 := by
            simp only [isEnd, isBrk, Bool.or_eq_true, beq_iff_eq] at hE
            omega
          subst c4
          exact fin ⟨rows, cur⟩ _ _ _ _ _ _ _ rfl rfl (g1.up (by omega))
      · rw [if_neg (show ¬ (isBrk c || c == 59) = true from hE)]
        rw [if_neg hE] at hrun hruns3
        refine ⟨by rw [len_S, szl, show ((⟨#[c]⟩ : Str)).length = 1 from rfl]; omega, R, Dn, as, s, tok ++ [c], _, _, _, by rw [← S_app]; rfl, g.up (by omega), ok, hrun, by rw [List.length_append]; exact hruns3⟩
    · rintro σ H1 ⟨R, Dn, as, s, tok, y5, y6, y7, rfl, g, ok, hrun, hruns⟩
      walk_at "x"
      refine ⟨by decide, fun p hp => ?_⟩
      have ez : (z ++ S [59]).cps.size = (z.cps.toList ++ [59]).length := by
        have e1 : (z ++ S [59]).cps.toList = z.cps.toList ++ [59] := by rw [show (z ++ S [59]).cps.toList = TL.tl (z ++ S [59]) from rfl, TL.tl_append]; rfl
        rw [← e1]; simp
      rw [ez, List.drop_length] at hrun
      have hrun' : LS.run ⟨[], none⟩ [] (z.cps.toList ++ [59]) = some s := hrun
      have g1 := g.same (Same.new (o := HO.lst []) hp)
      refine ⟨_, .list [], g1.dp, .lst (SqL.of upd_same) .nil, lay_rows ok.1, rfl, by simp [PyData.depth, PyData.depthAll], _, rfl, ?_⟩
      rw [eqv_nil]
      unfold lrd at hq
      rw [hrun'] at hq
      obtain ⟨rows, cur⟩ := s
      have sm1 := g1.sm
      cases rows with
      | cons row rest =>
        rw [if_neg (by simp)]
        exact hq _ sm1
      | nil =>
        rw [if_pos (by rfl)]
        cases cur with
        | none => exact iteF (hq _ sm1)
        | some d =>
          refine iteT ⟨59, by rw [se_lit]; rfl, ?_⟩
          simp only at hq
          by_cases h59 : 59 ∈ z.cps.toList
          · rw [if_pos h59] at hq
            rw [decide_eq_true h59]
            exact iteF (hq _ sm1)
          · rw [if_neg h59] at hq
            rw [decide_eq_false h59]
            obtain ⟨v, h1, h2, h3⟩ := g1.hd d rfl
            exact iteT (hq Dn v _ sm1 g1.bd h1 h2 h3)
end
end WW

set_option maxHeartbeats 4000000
namespace WW
open PySem PySem.Spec PyProof.Rows L2
/-! ### the two readers agree -/
def rsOf (s : LS) : RS := ⟨(match s.rows with
  | [] => []
  | row :: rest => (row ++ s.cur.toList) :: rest), s.cur.isNone, if s.rows = [] then s.cur.toList else []⟩
theorem rs_item (s : LS) (d : PyData) : (rsOf s).item d = if s.cur.isNone then some (rsOf ⟨s.rows, some d⟩) else none := by
  obtain ⟨rows, cur⟩ := s
  cases cur with
  | some e => simp [rsOf, RS.item]
  | none => cases rows <;> simp [rsOf, RS.item]
theorem rs_token (s : LS) (tok : List Nat) (ht : ∀ c ∈ tok, isEnd c = false) : takes (rsOf s) (if tok = [] then [] else [tok]) = (s.token tok).map rsOf := by
  unfold LS.token
  by_cases h : tok = []
  · rw [if_pos h, if_pos h]; rfl
  · rw [if_neg h, if_neg h]
    have nb : ∀ b, isEnd b = true → tok ≠ [b] := by
      rintro b hb rfl
      rw [ht b (List.mem_singleton.mpr rfl)] at hb
      cases hb
    have e : takes (rsOf s) [tok] = (rsOf s).take tok := by
      show ((rsOf s).take tok).bind (fun s' => takes s' []) = _
      cases (rsOf s).take tok <;> rfl
    rw [e]
    unfold RS.take
    rw [if_neg (nb 91 rfl), if_neg (nb 93 rfl), if_neg (nb 44 rfl)]
    cases atomR tok with
    | none => rfl
    | some a =>
      simp only [Option.bind_some, rs_item]
      split <;> rfl
theorem rs_sign (s : LS) {c : Nat} (hc : isBrk c = true) (hn : s.rows.length < 1000) : (rsOf s).take [c] = (s.sign c).map rsOf := by
  obtain ⟨rows, cur⟩ := s
  unfold RS.take LS.sign
  by_cases c1 : c = 91
  · subst c1
    rw [if_pos rfl, if_pos rfl]
    cases cur with
    | some e => simp [rsOf, RS.open_]
    | none =>
      have e1 : (rsOf ⟨rows, none⟩).rows = rows := by cases rows <;> simp [rsOf]
      simp only [RS.open_, e1]
      rw [decide_eq_true hn]
      cases rows <;> simp [rsOf]
  rw [if_neg (by simpa using c1), if_neg c1]
  by_cases c3 : c = 93
  · subst c3
    rw [if_pos rfl, if_neg (by decide), if_pos rfl]
    cases rows with
    | nil => simp [rsOf, RS.close]
    | cons row rest =>
      cases cur with
      | some d =>
        have e : (rsOf ⟨row :: rest, some d⟩).close = RS.item ⟨rest, true, []⟩ (.tuple (row ++ [d])) := by simp [rsOf, RS.close]
        rw [e]
        cases rest <;> simp [rsOf, RS.item]
      | none =>
        cases row with
        | cons e row => simp [rsOf, RS.close]
        | nil =>
          have e : (rsOf ⟨[] :: rest, none⟩).close = RS.item ⟨rest, true, []⟩ (.tuple []) := by simp [rsOf, RS.close]
          rw [e]
          cases rest <;> simp [rsOf, RS.item]
  rw [if_neg (by simpa using c3)]
  have c2 : c = 44 := by
    simp only [isBrk, Bool.or_eq_true, beq_iff_eq] at hc
    omega
  subst c2
  rw [if_pos rfl, if_pos rfl]
  cases cur with
  | none => simp [rsOf, RS.comma]
  | some d => cases rows <;> simp [rsOf, RS.comma]
theorem takes_app (s : RS) (a b : List (List Nat)) : takes s (a ++ b) = (takes s a).bind fun s' => takes s' b := by
  induction a generalizing s with
  | nil => rfl
  | cons p a ih =>
    show (s.take p).bind (fun s' => takes s' (a ++ b)) = ((s.take p).bind fun s' => takes s' a).bind fun s' => takes s' b
    cases s.take p with
    | none => rfl
    | some s' => exact ih s'
theorem token_rows {s s1 : LS} {tok : List Nat} (e : s.token tok = some s1) : s1.rows = s.rows := by
  unfold LS.token at e
  split at e
  · cases e; rfl
  · split at e
    · split at e
      · cases e; rfl
      · cases e
    · cases e
theorem sign_rows {s s1 : LS} {c : Nat} (e : s.sign c = some s1) : s1.rows.length ≤ s.rows.length + (if c = 91 then 1 else 0) := by
  obtain ⟨rows, cur⟩ := s
  unfold LS.sign at e
  simp only at e
  split at e
  · rename_i h
    split at e
    · cases e; simp [h]
    · cases e
  · split at e
    · cases cur with
      | none => cases e
      | some d => cases rows with
        | nil => cases e
        | cons row rest => cases e; simp
    · split at e
      · cases rows with
        | nil => cases e
        | cons row rest =>
          simp only at e
          split at e
          · cases e
          · cases e; simp; omega
      · cases e; simp
theorem sim : ∀ (l : List Nat) (s : LS) (tok : List Nat), (∀ c ∈ tok, isEnd c = false) → 59 ∉ l → s.rows.length + l.count 91 < 1000 → takes (rsOf s) (pcs tok l) = (s.run tok (l ++ [59])).map rsOf
  | [], s, tok, ht, _, _ => by
    rw [pcs_nil, rs_token s tok ht]
    show _ = (if isEnd 59 then (s.token tok).bind fun s1 => (s1.sign 59).bind fun s2 => s2.run [] [] else _).map rsOf
    rw [if_pos (show isEnd 59 = true from rfl)]
    cases s.token tok with
    | none => rfl
    | some s1 => rfl
  | c :: l, s, tok, ht, h59, hn => by
    have h59' : 59 ∉ l := fun h => h59 (List.mem_cons_of_mem _ h)
    have hc59 : c ≠ 59 := fun h => h59 (h ▸ List.mem_cons_self ..)
    have eE : isEnd c = isBrk c := by simp [isEnd, hc59]
    have erun : s.run tok (c :: l ++ [59]) = if isEnd c then (s.token tok).bind fun s1 => (s1.sign c).bind fun s2 => s2.run [] (l ++ [59]) else s.run (tok ++ [c]) (l ++ [59]) := rfl
    rw [pcs_cons, erun, eE]
    have hcnt : (c :: l).count 91 = l.count 91 + (if c = 91 then 1 else 0) := by rw [List.count_cons]; simp
    rw [hcnt] at hn
    by_cases hb : isBrk c = true
    · rw [if_pos hb, if_pos hb, takes_app, rs_token s tok ht]
      cases et : s.token tok with
      | none => rfl
      | some s1 =>
        simp only [Option.map_some, Option.bind_some]
        show ((rsOf s1).take [c]).bind (fun s' => takes s' (pcs [] l)) = _
        have er := token_rows et
        rw [rs_sign s1 hb (by rw [er]; omega)]
        cases es : s1.sign c with
        | none => rfl
        | some s2 =>
          simp only [Option.map_some, Option.bind_some]
          have := sign_rows es
          rw [er] at this
          exact sim l s2 [] (fun _ h => nomatch h) h59' (by omega)
    · rw [if_neg hb, if_neg hb]
      refine sim l s (tok ++ [c]) (fun d hd => ?_) h59' (by split at hn <;> omega)
      rcases List.mem_append.mp hd with hd | hd
      · exact ht d hd
      · rw [List.mem_singleton.mp hd, eE]
        simpa using hb
theorem read_eq {l : List Nat} (h59 : 59 ∉ l) (hn : l.count 91 < 1000) : readR l = lrd l := by
  unfold readR lrd
  have e := sim l ⟨[], none⟩ [] (fun _ h => nomatch h) h59 (by simpa using hn)
  rw [show rsOf ⟨[], none⟩ = ⟨[], true, []⟩ from rfl] at e
  rw [e]
  cases LS.run ⟨[], none⟩ [] (l ++ [59]) with
  | none => rfl
  | some s =>
    obtain ⟨rows, cur⟩ := s
    cases rows with
    | cons row rest => cases cur <;> rfl
    | nil =>
      cases cur with
      | none => rfl
      | some d =>
        simp only [if_neg h59]
        rfl
/-! ### what is written is read -/
mutual
/-- leaves that are read as they are written -/
def canon : PyData → Prop
  | .tuple ds => canons ds
  | .str z => atomR (strD (.str z)) = some (.str z) ∧ (strD (.str z) ≠ []) ∧ ∀ c ∈ strD (.str z), isEnd c = false
  | .int i => atomR (strD (.int i)) = some (.int i) ∧ (strD (.int i) ≠ []) ∧ ∀ c ∈ strD (.int i), isEnd c = false
  | _ => False
def canons : List PyData → Prop
  | [] => True
  | d :: ds => canon d ∧ canons ds
end
theorem run_chars : ∀ (l tok : List Nat) (s : LS) (r : List Nat), (∀ c ∈ l, isEnd c = false) → s.run tok (l ++ r) = s.run (tok ++ l) r
  | [], tok, s, r, _ => by rw [List.append_nil]; rfl
  | c :: l, tok, s, r, h => by
    have e : s.run tok (c :: l ++ r) = if isEnd c then (s.token tok).bind fun s1 => (s1.sign c).bind fun s2 => s2.run [] (l ++ r) else s.run (tok ++ [c]) (l ++ r) := rfl
    rw [e, if_neg (by rw [h c (List.mem_cons_self ..)]; decide), run_chars l _ s r fun d hd => h d (List.mem_cons_of_mem _ hd)]
    simp
theorem run_end (s : LS) (tok : List Nat) (e : Nat) (r : List Nat) (he : isEnd e = true) : s.run tok (e :: r) = (s.token tok).bind fun s1 => (s1.sign e).bind fun s2 => s2.run [] r := by
  show (if isEnd e then _ else _) = _
  rw [if_pos he]
theorem run_leaf {d : PyData} {tok : List Nat} {rows : List (List PyData)} {e : Nat} {r : List Nat} (ha : atomR tok = some d) (h0 : tok ≠ []) (hc : ∀ c ∈ tok, isEnd c = false) (he : isEnd e = true) : LS.run ⟨rows, none⟩ [] (tok ++ e :: r) = LS.run ⟨rows, some d⟩ [] (e :: r) := by
  rw [run_chars tok [] _ _ hc, List.nil_append, run_end _ _ _ _ he, run_end _ _ _ _ he]
  have e1 : LS.token ⟨rows, none⟩ tok = some ⟨rows, some d⟩ := by
    unfold LS.token
    rw [if_neg h0, ha]
    rfl
  rw [e1]
  rfl
mutual
theorem run_data : ∀ (d : PyData) (rows : List (List PyData)) (e : Nat) (r : List Nat), canon d → isEnd e = true → LS.run ⟨rows, none⟩ [] (wT d ++ e :: r) = LS.run ⟨rows, some d⟩ [] (e :: r)
  | .str z, rows, e, r, h, he => by
    simp only [canon] at h
    have : wT (.str z) = strD (.str z) := by simp only [wT]
    rw [this]
    exact run_leaf h.1 h.2.1 h.2.2 he
  | .int i, rows, e, r, h, he => by
    simp only [canon] at h
    have : wT (.int i) = strD (.int i) := by simp only [wT]
    rw [this]
    exact run_leaf h.1 h.2.1 h.2.2 he
  | .tuple ds, rows, e, r, h, he => by
    simp only [canon] at h
    have : wT (.tuple ds) = 91 :: (wTs ds ++ [93]) := by simp only [wT]
    rw [this]
    have e1 : 91 :: (wTs ds ++ [93]) ++ e :: r = 91 :: (wTs ds ++ 93 :: (e :: r)) := by simp
    rw [e1, run_end _ _ _ _ (show isEnd 91 = true from rfl)]
    have e2 : ((LS.token ⟨rows, none⟩ []).bind fun s1 => (s1.sign 91).bind fun s2 => s2.run [] (wTs ds ++ 93 :: (e :: r))) = LS.run ⟨[] :: rows, none⟩ [] (wTs ds ++ 93 :: (e :: r)) := rfl
    rw [e2, run_list ds [] rows (e :: r) h (.inr rfl)]
    rfl
  | .none, _, _, _, h, _ => by simp [canon] at h
  | .bool _, _, _, _, h, _ => by simp [canon] at h
  | .list _, _, _, _, h, _ => by simp [canon] at h
  | .dict _, _, _, _, h, _ => by simp [canon] at h
theorem run_list : ∀ (ds pre : List PyData) (rows : List (List PyData)) (r : List Nat), canons ds → (ds ≠ [] ∨ pre = []) → LS.run ⟨pre :: rows, none⟩ [] (wTs ds ++ 93 :: r) = LS.run ⟨rows, some (.tuple (pre ++ ds))⟩ [] r
  | [], pre, rows, r, _, hp => by
    have hp : pre = [] := hp.resolve_left (fun h => h rfl)
    subst hp
    have : wTs [] = [] := by simp only [wTs]
    rw [this, List.nil_append, run_end _ _ _ _ (show isEnd 93 = true from rfl)]
    rfl
  | d :: ds, pre, rows, r, h, _ => by
    simp only [canons] at h
    rw [wTs_cons]
    cases ds with
    | nil =>
      rw [if_pos (show ([] : List PyData).isEmpty = true from rfl), run_data d (pre :: rows) 93 r h.1 rfl, run_end _ _ _ _ (show isEnd 93 = true from rfl)]
      rfl
    | cons e es =>
      rw [if_neg (by simp), List.append_assoc, List.cons_append, run_data d (pre :: rows) 44 _ h.1 rfl, run_end _ _ _ _ (show isEnd 44 = true from rfl)]
      have e2 : ((LS.token ⟨pre :: rows, some d⟩ []).bind fun s1 => (s1.sign 44).bind fun s2 => s2.run [] (wTs (e :: es) ++ 93 :: r)) = LS.run ⟨(pre ++ [d]) :: rows, none⟩ [] (wTs (e :: es) ++ 93 :: r) := rfl
      rw [e2, run_list (e :: es) (pre ++ [d]) rows r h.2 (.inl (by simp))]
      simp
end
theorem lrd_written {d : PyData} (h : canon d) (h59 : 59 ∉ wT d) : lrd (wT d) = some d := by
  unfold lrd
  rw [run_data d [] 59 [] h rfl, run_end _ _ _ _ (show isEnd 59 = true from rfl)]
  show (if 59 ∈ wT d then none else some d) = some d
  rw [if_neg h59]
/-! ### what is read is written so -/
def rowT : List PyData → List Nat
  | [] => []
  | d :: ds => wT d ++ 44 :: rowT ds
theorem rowT_app (a b : List PyData) : rowT (a ++ b) = rowT a ++ rowT b := by
  induction a with
  | nil => rfl
  | cons d a ih => simp [rowT, ih]
theorem rowT_last (ds : List PyData) (d : PyData) : rowT ds ++ wT d = wTs (ds ++ [d]) := by
  induction ds with
  | nil => rw [List.nil_append, wTs_cons]; rfl
  | cons e ds ih =>
    rw [List.cons_append, wTs_cons, if_neg (by simp), ← ih]
    simp [rowT]
def rendR : List (List PyData) → List Nat
  | [] => []
  | row :: rest => rendR rest ++ 91 :: rowT row
def curT : Option PyData → List Nat
  | some d => wT d
  | none => []
def rend (s : LS) : List Nat := rendR s.rows ++ curT s.cur
theorem rend_sign {s s1 : LS} {c : Nat} (hc : isBrk c = true) (e : s.sign c = some s1) : rend s1 = rend s ++ [c] := by
  obtain ⟨rows, cur⟩ := s
  unfold LS.sign at e
  simp only at e
  by_cases c1 : c = 91
  · rw [if_pos c1] at e
    cases cur with
    | some d => cases e
    | none => cases e; simp [rend, rendR, curT, rowT, c1]
  rw [if_neg c1] at e
  by_cases c2 : c = 44
  · rw [if_pos c2] at e
    cases cur with
    | none => cases e
    | some d => cases rows with
      | nil => cases e
      | cons row rest => cases e; simp [rend, rendR, curT, rowT_app, rowT, c2]
  rw [if_neg c2] at e
  have c3 : c = 93 := by
    simp only [isBrk, Bool.or_eq_true, beq_iff_eq] at hc
    omega
  rw [if_pos c3] at e
  cases rows with
  | nil => cases e
  | cons row rest =>
    simp only at e
    split at e
    · cases e
    · rename_i hr
      cases e
      cases cur with
      | some d =>
        have := rowT_last row d
        simp only [rend, rendR, curT, Option.toList, c3, wT, ← this]
        simp
      | none =>
        have hr : row = [] := by simpa using hr
        subst hr
        simp [rend, rendR, curT, rowT, wT, wTs, c3]
theorem rend_run (hat : ∀ (tok : List Nat) (a : PyData), tok ≠ [] → atomR tok = some a → wT a = tok) : ∀ (l : List Nat) (s s' : LS) (tok : List Nat), 59 ∉ l → s.run tok (l ++ [59]) = some s' → rend s' = rend s ++ tok ++ l := by
  have tk : ∀ {s s1 : LS} {tok : List Nat}, s.token tok = some s1 → rend s1 = rend s ++ tok := by
    intro s s1 tok e
    unfold LS.token at e
    by_cases h : tok = []
    · rw [if_pos h] at e; cases e; simp [h]
    · rw [if_neg h] at e
      cases ha : atomR tok with
      | none => rw [ha] at e; cases e
      | some a =>
        rw [ha] at e
        simp only at e
        split at e
        · rename_i hn
          cases e
          have hn' : s.cur = none := by simpa using hn
          simp [rend, curT, hn', hat tok a h ha]
        · cases e
  intro l
  induction l with
  | nil =>
    intro s s' tok _ e
    rw [List.nil_append, run_end _ _ _ _ (show isEnd 59 = true from rfl)] at e
    cases et : s.token tok with
    | none => rw [et] at e; cases e
    | some s1 =>
      rw [et] at e
      have : s1 = s' := by
        have e' : some s1 = some s' := e
        cases e'; rfl
      rw [← this, tk et, List.append_nil]
  | cons c l ih =>
    intro s s' tok h59 e
    have h59' : 59 ∉ l := fun h => h59 (List.mem_cons_of_mem _ h)
    have hc59 : c ≠ 59 := fun h => h59 (h ▸ List.mem_cons_self ..)
    have eE : isEnd c = isBrk c := by simp [isEnd, hc59]
    by_cases hb : isBrk c = true
    · rw [List.cons_append, run_end _ _ _ _ (eE.trans hb)] at e
      cases et : s.token tok with
      | none => rw [et] at e; cases e
      | some s1 =>
        rw [et] at e
        simp only [Option.bind_some] at e
        cases es : s1.sign c with
        | none => rw [es] at e; cases e
        | some s2 =>
          rw [es] at e
          simp only [Option.bind_some] at e
          rw [ih s2 s' [] h59' e, rend_sign hb es, tk et]
          simp
    · have e2 : s.run tok (c :: l ++ [59]) = if isEnd c then (s.token tok).bind fun s1 => (s1.sign c).bind fun s2 => s2.run [] (l ++ [59]) else s.run (tok ++ [c]) (l ++ [59]) := rfl
      rw [e2, if_neg (by rw [eE]; exact hb)] at e
      rw [ih s s' (tok ++ [c]) h59' e]
      simp
theorem written_lrd (hat : ∀ (tok : List Nat) (a : PyData), tok ≠ [] → atomR tok = some a → wT a = tok) {l : List Nat} {d : PyData} (e : lrd l = some d) : wT d = l := by
  unfold lrd at e
  cases h : LS.run ⟨[], none⟩ [] (l ++ [59]) with
  | none => rw [h] at e; cases e
  | some s =>
    rw [h] at e
    obtain ⟨rows, cur⟩ := s
    cases rows with
    | cons row rest => cases cur <;> cases e
    | nil =>
      cases cur with
      | none => cases e
      | some d' =>
        simp only at e
        split at e
        · cases e
        · rename_i h59
          cases e
          have := rend_run hat l _ _ [] h59 h
          simpa [rend, rendR, curT] using this
/-! ### how deep, and of what leaves -/
def fitS (s : LS) (m : Nat) : Prop := s.rows.length ≤ m ∧ (∀ row ∈ s.rows, plainDs (m - s.rows.length + 1) row = true) ∧ ∀ d, s.cur = some d → plainD (m - s.rows.length + 1) d = true
mutual
theorem plainD_up : ∀ (n : Nat) (d : PyData), plainD n d = true → plainD (n + 1) d = true
  | 0, d, h => by cases d <;> simp [plainD] at h
  | n + 1, .tuple ds, h => by simp only [plainD] at h ⊢; exact plainDs_up n ds h
  | n + 1, .str z, h => by simpa only [plainD] using h
  | n + 1, .int i, h => by simpa only [plainD] using h
  | n + 1, .none, h => by simp [plainD] at h
  | n + 1, .bool _, h => by simp [plainD] at h
  | n + 1, .list _, h => by simp [plainD] at h
  | n + 1, .dict _, h => by simp [plainD] at h
theorem plainDs_up : ∀ (n : Nat) (ds : List PyData), plainDs n ds = true → plainDs (n + 1) ds = true
  | _, [], _ => by simp only [plainDs]
  | n, d :: ds, h => by
    simp only [plainDs, Bool.and_eq_true] at h ⊢
    exact ⟨plainD_up n d h.1, plainDs_up n ds h.2⟩
end
theorem plainD_mono {n m : Nat} {d : PyData} (h : n ≤ m) (q : plainD n d = true) : plainD m d = true := by
  induction h with
  | refl => exact q
  | step _ ih => exact plainD_up _ _ ih
theorem plainDs_mono {n m : Nat} {ds : List PyData} (h : n ≤ m) (q : plainDs n ds = true) : plainDs m ds = true := by
  induction h with
  | refl => exact q
  | step _ ih => exact plainDs_up _ _ ih
theorem plainDs_app (n : Nat) (a b : List PyData) : plainDs n (a ++ b) = (plainDs n a && plainDs n b) := by
  induction a with
  | nil => simp [plainDs]
  | cons x a ih => simp [plainDs, ih, Bool.and_assoc]
theorem fit_token (hlf : ∀ (tok : List Nat) (a : PyData), tok.length ≤ 200 → atomR tok = some a → leafOk a = true) {s s1 : LS} {tok : List Nat} {m : Nat} (ht : tok.length ≤ 200) (h : fitS s m) (e : s.token tok = some s1) : fitS s1 m := by
  unfold LS.token at e
  split at e
  · cases e; exact h
  · cases ha : atomR tok with
    | none => rw [ha] at e; cases e
    | some a =>
      rw [ha] at e
      simp only at e
      split at e
      · cases e
        refine ⟨h.1, h.2.1, fun d hd => ?_⟩
        cases hd
        have := hlf tok a ht ha
        cases a <;> simp_all [plainD, leafOk]
      · cases e
theorem fit_sign {s s1 : LS} {c m : Nat} (h : fitS s m) (e : s.sign c = some s1) : fitS s1 (m + if c = 91 then 1 else 0) := by
  obtain ⟨rows, cur⟩ := s
  obtain ⟨h1, h2, h3⟩ := h
  simp only at h1 h2 h3
  unfold LS.sign at e
  simp only at e
  by_cases c1 : c = 91
  · rw [if_pos c1] at e
    rw [if_pos c1]
    cases cur with
    | some d => cases e
    | none =>
      cases e
      refine ⟨by simp; omega, fun row hr => ?_, fun d hd => nomatch hd⟩
      simp only [List.length_cons, Nat.add_sub_add_right]
      rcases List.mem_cons.mp hr with rfl | hr
      · simp [plainDs]
      · exact h2 row hr
  rw [if_neg c1] at e
  rw [if_neg c1, Nat.add_zero]
  by_cases c2 : c = 44
  · rw [if_pos c2] at e
    cases cur with
    | none => cases e
    | some d => cases rows with
      | nil => cases e
      | cons row rest =>
        cases e
        refine ⟨h1, fun r hr => ?_, fun d hd => nomatch hd⟩
        simp only [List.length_cons] at h2 h3 ⊢
        rcases List.mem_cons.mp hr with rfl | hr
        · rw [plainDs_app, h2 row (List.mem_cons_self ..)]
          simp [plainDs, h3 d rfl]
        · exact h2 r (List.mem_cons_of_mem _ hr)
  rw [if_neg c2] at e
  by_cases c3 : c = 93
  · rw [if_pos c3] at e
    cases rows with
    | nil => cases e
    | cons row rest =>
      simp only at e
      split at e
      · cases e
      · cases e
        simp only [List.length_cons] at h1 h2 h3
        refine ⟨by simp only; omega, fun r hr => plainDs_mono (by simp only; omega) (h2 r (List.mem_cons_of_mem _ hr)), fun d hd => ?_⟩
        cases hd
        simp only [plainD, plainDs_app, Bool.and_eq_true]
        refine ⟨plainDs_mono (by omega) (h2 row (List.mem_cons_self ..)), ?_⟩
        cases cur with
        | none => simp [plainDs]
        | some d =>
          simp only [Option.toList, plainDs, Bool.and_true]
          exact plainD_mono (by omega) (h3 d rfl)
  · rw [if_neg c3] at e
    cases e
    exact ⟨h1, h2, h3⟩
theorem fit_run (hlf : ∀ (tok : List Nat) (a : PyData), tok.length ≤ 200 → atomR tok = some a → leafOk a = true) : ∀ (l : List Nat) (s s' : LS) (tok : List Nat) (m : Nat), runs 200 tok.length l → fitS s m → s.run tok l = some s' → fitS s' (m + l.count 91)
  | [], s, s', tok, m, _, h, e => by
    have e' : some s = some s' := e
    cases e'
    simpa using h
  | c :: l, s, s', tok, m, hr, h, e => by
    have hr2 : tok.length ≤ 200 ∧ runs 200 (if isEnd c then 0 else tok.length + 1) l := hr
    obtain ⟨hr3, hr4⟩ := hr2
    have hcnt : (c :: l).count 91 = (if c = 91 then 1 else 0) + l.count 91 := by rw [List.count_cons]; simp; omega
    rw [hcnt, ← Nat.add_assoc]
    have e2 : s.run tok (c :: l) = if isEnd c then (s.token tok).bind fun s1 => (s1.sign c).bind fun s2 => s2.run [] l else s.run (tok ++ [c]) l := rfl
    rw [e2] at e
    by_cases hb : isEnd c = true
    · rw [if_pos hb] at e hr4
      cases et : s.token tok with
      | none => rw [et] at e; cases e
      | some s1 =>
        rw [et] at e
        simp only [Option.bind_some] at e
        cases es : s1.sign c with
        | none => rw [es] at e; cases e
        | some s2 =>
          rw [es] at e
          simp only [Option.bind_some] at e
          exact fit_run hlf l s2 s' [] _ hr4 (fit_sign (fit_token hlf hr3 h et) es) e
    · rw [if_neg hb] at e hr4
      have : c ≠ 91 := fun h => hb (h ▸ rfl)
      rw [if_neg this, Nat.add_zero]
      exact fit_run hlf l s s' _ m (by rw [List.length_append]; exact hr4) h e
theorem fit_lrd (hlf : ∀ (tok : List Nat) (a : PyData), tok.length ≤ 200 → atomR tok = some a → leafOk a = true) {l : List Nat} {d : PyData} (hr : runs 200 0 (l ++ [59])) (e : lrd l = some d) : plainD (l.count 91 + 1) d = true := by
  unfold lrd at e
  cases h : LS.run ⟨[], none⟩ [] (l ++ [59]) with
  | none => rw [h] at e; cases e
  | some s =>
    rw [h] at e
    have f := fit_run hlf _ _ _ [] 0 hr (show fitS ⟨[], none⟩ 0 from ⟨Nat.le_refl _, (fun _ h => nomatch h), (fun _ h => nomatch h)⟩) h
    obtain ⟨rows, cur⟩ := s
    cases rows with
    | cons row rest => cases cur <;> cases e
    | nil =>
      cases cur with
      | none => cases e
      | some d' =>
        simp only at e
        split at e
        · cases e
        · cases e
          have := f.2.2 d rfl
          simpa [List.count_append] using this
end WW

set_option maxHeartbeats 4000000
namespace WW
open PySem PySem.Spec PyProof.Rows L2 NumText
/-! ### numbers and their texts -/
theorem ofs (x : String) : (Str.ofString x).cps.toList = x.toList.map Char.toNat := PyProof.Rows.signs_ofString x
theorem dig_back : ∀ {l : List Nat}, AllDigits l → (l.map Char.ofNat).map Char.toNat = l
  | [], _ => rfl
  | c :: l, h => by
    have hc := h.head
    rw [List.map_cons, List.map_cons, dig_back h.tail]
    have : ∀ n : Nat, n < 58 → (Char.ofNat n).toNat = n := by decide +kernel
    rw [this c (by omega)]
theorem num_text {l : List Nat} (h : AllDigits l) (h1 : 1 ≤ l.length) (h0 : l = [48] ∨ ∃ c r, l = c :: r ∧ 49 ≤ c) : strD (.int ((digitsVal l : Nat) : Int)) = l := by
  have e1 : strD (.int ((digitsVal l : Nat) : Int)) = (Nat.toDigits 10 (digitsVal l)).map Char.toNat := PySem.W.KIN.signs_num _
  rw [e1, toDigits_digitsVal (l.length - 1) l (by omega) h ?_, dig_back h]
  rcases h0 with rfl | h0
  · exact .inl rfl
  · exact .inr h0
theorem neg_text {m : Nat} (h : 0 < m) : strD (.int (-((m : Nat) : Int))) = 45 :: strD (.int ((m : Nat) : Int)) := by
  obtain ⟨k, rfl⟩ : ∃ k, m = k + 1 := ⟨m - 1, by omega⟩
  have e1 : (-(((k + 1 : Nat)) : Int)) = Int.negSucc k := rfl
  rw [e1]
  show (Str.ofString (toString (Int.negSucc k))).cps.toList = 45 :: (Str.ofString (toString ((k + 1 : Nat) : Int))).cps.toList
  rw [ofs, ofs]
  have e2 : toString (Int.negSucc k) = "-" ++ toString (k + 1) := rfl
  have e3 : toString (((k + 1 : Nat)) : Int) = toString (k + 1) := rfl
  rw [e2, e3, String.toList_append, List.map_append]
  rfl
theorem val_lt : ∀ (l : List Nat), AllDigits l → digitsVal l < 10 ^ l.length := by
  intro l
  have gen : ∀ (l : List Nat) (a : Nat), AllDigits l → l.foldl (fun acc c => acc * 10 + (c - 48)) a < (a + 1) * 10 ^ l.length := by
    intro l
    induction l with
    | nil => intro a _; simp
    | cons c l ih =>
      intro a h
      have hc := h.head
      rw [List.foldl_cons, List.length_cons, Nat.pow_succ]
      refine Nat.lt_of_lt_of_le (ih _ h.tail) ?_
      have : a * 10 + (c - 48) + 1 ≤ (a + 1) * 10 := by omega
      calc (a * 10 + (c - 48) + 1) * 10 ^ l.length ≤ ((a + 1) * 10) * 10 ^ l.length := Nat.mul_le_mul_right _ this
        _ = (a + 1) * (10 ^ l.length * 10) := by rw [Nat.mul_assoc, Nat.mul_comm 10]
  intro h
  have := gen l 0 h
  rw [Nat.zero_add, Nat.one_mul] at this
  exact this
/-- what a whole text tells -/
theorem whole_is {l : List Nat} {i : Int} (h : wholeL l = some i) : strD (.int i) = l ∧ i.natAbs < 10 ^ (bodyL l).length ∧ (bodyL l).length ≤ 4000 := by
  unfold wholeL at h
  split at h
  · rename_i hb
    unfold okBody at hb
    simp only [Bool.and_eq_true, decide_eq_true_eq, Bool.not_eq_true', Bool.and_eq_false_iff] at hb
    obtain ⟨⟨⟨h1, h2⟩, h3⟩, h4⟩ := hb
    by_cases h45 : l.take 1 = [45]
    · have eb : bodyL l = l.drop 1 := by unfold bodyL; rw [if_pos h45]
      rw [eb] at h1 h2 h3 h4 ⊢
      cases l with
      | nil => simp at h45
      | cons c r =>
        have e : c = 45 := by simpa using h45
        subst e
        rw [List.drop_one, List.tail_cons] at h1 h2 h3 h4 ⊢
        have ad := all_dig h3
        have ei := PySem.intText_neg (x := S (45 :: r)) (cs := r) rfl ad (by rintro rfl; simp at h1) (by rw [len_S, List.length_cons]; omega)
        rw [ei] at h
        cases h
        cases r with
        | nil => simp at h1
        | cons c r =>
          have hc := ad.head
          have hc48 : c ≠ 48 := by
            rintro rfl
            rcases h4 with h4 | h4
            · simp at h4
            · simp at h4
          have hp : 0 < digitsVal (c :: r) := digitsVal_pos (by omega)
          refine ⟨?_, ?_, h2⟩
          · rw [neg_text hp, num_text ad h1 (.inr ⟨c, r, rfl, by omega⟩)]
          · rw [Int.natAbs_neg]
            exact val_lt _ ad
    · have eb : bodyL l = l := by unfold bodyL; rw [if_neg h45]
      rw [eb] at h1 h2 h3 h4 ⊢
      have ad := all_dig h3
      have ei := PySem.intText_digits (x := S l) ad (by rintro h; rw [show l = [] from h] at h1; simp at h1) (by rw [len_S]; omega)
      rw [ei] at h
      cases h
      refine ⟨num_text ad h1 ?_, val_lt _ ad, h2⟩
      cases l with
      | nil => simp at h1
      | cons c r =>
        have hc := ad.head
        rcases h4 with h4 | h4
        · exact .inr ⟨c, r, rfl, by
            have : c ≠ 48 := by rintro rfl; simp at h4
            omega⟩
        · exact .inl (show c :: r = [48] by simpa using h4)
  · cases h
theorem big_is : bigP 125 = ((10 ^ 4000 : Nat) : Int) := by decide +kernel
theorem whole_short {l : List Nat} {i : Int} (h : wholeL l = some i) : shortI i = true := by
  obtain ⟨_, h2, h3⟩ := whole_is h
  have h4 : i.natAbs < 10 ^ 4000 := Nat.lt_of_lt_of_le h2 (Nat.pow_le_pow_right (by decide) h3)
  unfold shortI
  rw [big_is]
  generalize (10 ^ 4000 : Nat) = B at h4
  simp only [Bool.and_eq_true, decide_eq_true_eq]
  omega
theorem hat (tok : List Nat) (a : PyData) (_ : tok ≠ []) (h : atomR tok = some a) : wT a = tok := by
  unfold atomR at h
  split at h
  · cases h
    simp only [wT, strD, tl_S]
  · cases hw : wholeL tok with
    | none => rw [hw] at h; cases h
    | some i =>
      rw [hw] at h
      cases h
      simp only [wT]
      exact (whole_is hw).1
theorem hlf (tok : List Nat) (a : PyData) (hl : tok.length ≤ 200) (h : atomR tok = some a) : leafOk a = true := by
  unfold atomR at h
  split at h
  · rename_i hw
    cases h
    exact hw
  · cases hw : wholeL tok with
    | none => rw [hw] at h; cases h
    | some i =>
      rw [hw] at h
      cases h
      simp only [leafOk, whole_short hw, Bool.true_and, decide_eq_true_eq]
      obtain ⟨_, h2, _⟩ := whole_is hw
      have lb := bodyL_le tok
      have h4 : i.natAbs < 2 ^ 665 := Nat.lt_of_lt_of_le h2 (Nat.le_trans (Nat.pow_le_pow_right (by decide) (Nat.le_trans lb hl)) (by decide +kernel))
      exact Nat.lt_trans (PySem.Flt.log2_lt_of (by decide) h4) (by decide)
/-! ### runs -/
theorem runs_mono {M N : Nat} (h : M ≤ N) : ∀ {l : List Nat} {t : Nat}, runs M t l → runs N t l
  | [], t, r => Nat.le_trans r h
  | c :: l, t, r => ⟨Nat.le_trans r.1 h, runs_mono h r.2⟩
theorem runs_less {M : Nat} : ∀ {l : List Nat} {t u : Nat}, u ≤ t → runs M t l → runs M u l
  | [], t, u, h, r => Nat.le_trans h r
  | c :: l, t, u, h, r => ⟨Nat.le_trans h r.1, by
    have r2 := r.2
    by_cases e : isEnd c = true
    · rw [if_pos e] at r2 ⊢; exact r2
    · rw [if_neg e] at r2 ⊢; exact runs_less (Nat.succ_le_succ h) r2⟩
theorem runs_shift {M k : Nat} : ∀ {l : List Nat} {t : Nat}, runs M t l → runs (M + k) (t + k) l
  | [], t, r => Nat.add_le_add_right r k
  | c :: l, t, r => ⟨Nat.add_le_add_right r.1 k, by
    have r2 := r.2
    by_cases e : isEnd c = true
    · rw [if_pos e] at r2 ⊢; exact runs_mono (by omega) r2
    · rw [if_neg e] at r2 ⊢
      have := runs_shift (k := k) r2
      rwa [show t + 1 + k = t + k + 1 by omega] at this⟩
def fin : Nat → List Nat → Nat
  | t, [] => t
  | t, c :: l => fin (if isEnd c then 0 else t + 1) l
theorem runs_app {M : Nat} : ∀ {a b : List Nat} {t : Nat}, runs M t (a ++ b) ↔ runs M t a ∧ runs M (fin t a) b
  | [], b, t => ⟨fun h => ⟨by cases b with | nil => exact h | cons c b => exact h.1, h⟩, fun h => h.2⟩
  | c :: a, b, t => ⟨fun h => ⟨⟨h.1, (runs_app.mp h.2).1⟩, (runs_app.mp h.2).2⟩, fun h => ⟨h.1.1, runs_app.mpr ⟨h.1.2, h.2⟩⟩⟩
theorem runs_fin {M : Nat} : ∀ {a : List Nat} {t : Nat}, runs M t a → fin t a ≤ M
  | [], t, h => h
  | c :: a, t, h => runs_fin (a := a) h.2
theorem runs_chars {M : Nat} : ∀ {a : List Nat} {t : Nat}, t + a.length ≤ M → runs M t a
  | [], t, h => h
  | c :: a, t, h => ⟨by rw [List.length_cons] at h; omega, by
    rw [List.length_cons] at h
    by_cases e : isEnd c = true
    · rw [if_pos e]; exact runs_chars (by omega)
    · rw [if_neg e]; exact runs_chars (by omega)⟩
theorem fin_le : ∀ (a : List Nat) (t : Nat), fin t a ≤ t + a.length
  | [], t => Nat.le_refl _
  | c :: a, t => by
    show fin (if isEnd c then 0 else t + 1) a ≤ _
    have := fin_le a (if isEnd c then 0 else t + 1)
    rw [List.length_cons]
    split at this <;> split <;> simp_all <;> omega
/-- a text with one sign put in, taken out or changed -/
theorem runs_bent {l m : List Nat} {i j : Nat} (hm : m.length ≤ 1) (h : runs 41 0 (l ++ [59])) : runs 200 0 ((l.take i ++ m ++ l.drop j) ++ [59]) := by
  have h1 : runs 41 0 (l.take i) := by
    have e : l ++ [59] = l.take i ++ (l.drop i ++ [59]) := by rw [← List.append_assoc, List.take_append_drop]
    rw [e] at h
    exact (runs_app.mp h).1
  have h2 : runs 41 0 (l.drop j ++ [59]) := by
    have e : l ++ [59] = l.take j ++ (l.drop j ++ [59]) := by rw [← List.append_assoc, List.take_append_drop]
    rw [e] at h
    exact runs_less (Nat.zero_le _) (runs_app.mp h).2
  have f1 := runs_fin h1
  have f2 := fin_le m (fin 0 (l.take i))
  rw [List.append_assoc, List.append_assoc]
  refine runs_app.mpr ⟨runs_mono (by decide) h1, runs_app.mpr ⟨runs_chars (by omega), ?_⟩⟩
  have h3 := runs_shift (k := 42) h2
  exact runs_mono (show 41 + 42 ≤ 200 by decide) (runs_less (by omega) h3)
end WW

set_option maxHeartbeats 4000000
namespace WW
open PySem PySem.Spec PyProof.Rows L2 NumText
/-! ### what is drawn -/
theorem wd_plain : ∀ (n k : Nat) (d : PyData), plainD n d = true → k + n ≤ 1001 → wD k d = some (wT d)
  | 0, k, d, h, _ => by cases d <;> simp [plainD] at h
  | n + 1, k, .str z, h, _ => by
    have h' : leafOk (.str z) = true := by simpa only [plainD] using h
    have : wordD (.str z) = true := h'
    simp only [wD, wT, this, Bool.true_or, if_true]
  | n + 1, k, .int i, h, _ => by
    have h' : shortI i = true := (Bool.and_eq_true_iff.mp (show (shortI i && _) = true by simpa only [plainD, leafOk] using h)).1
    have : shortD (.int i) = true := h'
    simp only [wD, wT, this, Bool.or_true, if_true]
  | n + 1, k, .tuple ds, h, hk => by
    simp only [plainD] at h
    have ih : ∀ (es : List PyData), plainDs n es = true → wDs (k + 1) es = some (wTs es) := by
      intro es
      induction es with
      | nil => intro _; simp only [wDs, wTs]
      | cons e es ih =>
        intro he
        simp only [plainDs, Bool.and_eq_true] at he
        simp only [wDs, wTs, wd_plain n (k + 1) e he.1 (by omega), Option.bind_some, ih he.2]
        split <;> simp
    simp only [wD, wT]
    rw [if_pos (by omega), ih ds h]
    rfl
  | n + 1, k, .none, h, _ => by simp [plainD] at h
  | n + 1, k, .bool _, h, _ => by simp [plainD] at h
  | n + 1, k, .list _, h, _ => by simp [plainD] at h
  | n + 1, k, .dict _, h, _ => by simp [plainD] at h
def leafB (d : PyData) : Bool := leafOk d && decide (strD d ≠ []) && (strD d).all (fun c => !isEnd c) && decide ((strD d).length ≤ 41) && (match atomR (strD d), d with
  | some (.str a), .str b => a == b
  | some (.int a), .int b => a == b
  | _, _ => false)
theorem words_ok : ([S [97, 98, 122, 57], S [98, 122, 57], S [122, 57], Str.ofString "a23456789012"].all fun z => leafB (.str z)) = true := by decide +kernel
theorem ints_ok : ([(0 : Int), -1, 7, 10 ^ 40, -10 ^ 20, 1000].all fun i => leafB (.int i)) = true := by decide +kernel
def cb : Nat → Nat
  | 0 => 0
  | n + 1 => 3 * cb n + 1
def lb : Nat → Nat
  | 0 => 41
  | n + 1 => 3 * lb n + 5
theorem lb_ge (n : Nat) : 41 ≤ lb n := by
  induction n with
  | zero => exact Nat.le_refl _
  | succ n ih => simp only [lb]; omega
/-- what the law needs of a drawn datum -/
structure Good (n : Nat) (d : PyData) : Prop where
  pl : plainD (n + 1) d = true
  ca : canon d
  ne : 1 ≤ (wT d).length
  ct : (wT d).count 91 ≤ cb n
  ln : (wT d).length ≤ lb n
  ru : ∀ e r, isEnd e = true → runs 41 0 (e :: r) → runs 41 0 (wT d ++ e :: r)
  no : 59 ∉ wT d
theorem leafB_atom {d : PyData} (h : leafB d = true) : atomR (strD d) = some d := by
  simp only [leafB, Bool.and_eq_true] at h
  have h5 := h.2
  cases ha : atomR (strD d) with
  | none => rw [ha] at h5; cases h5
  | some a =>
    rw [ha] at h5
    cases a <;> cases d <;> simp_all
theorem leaf_good {n : Nat} {d : PyData} (hw : wT d = strD d) (hc : canon d = (atomR (strD d) = some d ∧ (strD d ≠ []) ∧ ∀ c ∈ strD d, isEnd c = false)) (hp : plainD (n + 1) d = leafOk d) (h : leafB d = true) : Good n d := by
  have ha := leafB_atom h
  simp only [leafB, Bool.and_eq_true, decide_eq_true_eq] at h
  obtain ⟨⟨⟨⟨h1, h2⟩, h3⟩, h4⟩, _⟩ := h
  have h3' : ∀ c ∈ strD d, isEnd c = false := fun c hc => by
    have := List.all_eq_true.mp h3 c hc
    simpa using this
  refine ⟨hp.trans h1, by rw [hc]; exact ⟨ha, h2, h3'⟩, ?_, ?_, by rw [hw]; exact Nat.le_trans h4 (lb_ge n), ?_, ?_⟩
  · rw [hw]
    exact List.length_pos_iff.mpr h2
  · rw [hw, List.count_eq_zero.mpr (fun hm => by have := h3' 91 hm; cases this)]
    exact Nat.zero_le _
  · intro e r he hr
    rw [hw]
    refine runs_app.mpr ⟨runs_chars (by omega), ?_⟩
    have f := fin_le (strD d) 0
    have hr2 : 0 ≤ 41 ∧ runs 41 (if isEnd e then 0 else 0 + 1) r := hr
    refine ⟨by omega, ?_⟩
    have hr3 := hr2.2
    rw [if_pos he] at hr3 ⊢
    exact hr3
  · rw [hw]
    intro hm
    have := h3' 59 hm
    cases this
theorem goods {n : Nat} : ∀ (ds : List PyData), (∀ d ∈ ds, Good n d) → plainDs (n + 1) ds = true ∧ canons ds ∧ (wTs ds).count 91 ≤ ds.length * cb n ∧ (wTs ds).length ≤ ds.length * (lb n + 1) ∧ (∀ r, runs 41 0 (93 :: r) → runs 41 0 (wTs ds ++ 93 :: r)) ∧ 59 ∉ wTs ds
  | [], _ => by
    have e : wTs [] = [] := by simp only [wTs]
    rw [e]
    exact ⟨by simp only [plainDs], by simp only [canons], by simp, by simp, fun r h => h, by simp⟩
  | d :: ds, h => by
    have g := h d (List.mem_cons_self ..)
    obtain ⟨i1, i2, i3, i4, i5, i6⟩ := goods ds fun e he => h e (List.mem_cons_of_mem _ he)
    refine ⟨by simp only [plainDs, g.pl, i1, Bool.and_self], by simp only [canons]; exact ⟨g.ca, i2⟩, ?_, ?_, ?_, ?_⟩
    · rw [wTs_cons, List.length_cons, Nat.succ_mul]
      have := g.ct
      split
      · omega
      · rw [List.count_append, List.count_cons]
        simp
        omega
    · rw [wTs_cons, List.length_cons, Nat.succ_mul]
      have := g.ln
      split
      · omega
      · rw [List.length_append, List.length_cons]
        omega
    · intro r hr
      rw [wTs_cons]
      split
      · exact g.ru 93 r rfl hr
      · rw [List.append_assoc, List.cons_append]
        refine g.ru 44 _ rfl ⟨Nat.zero_le _, ?_⟩
        rw [if_pos (show isEnd 44 = true from rfl)]
        exact i5 r hr
    · rw [wTs_cons]
      split
      · exact g.no
      · intro hm
        rcases List.mem_append.mp hm with hm | hm
        · exact g.no hm
        · rcases List.mem_cons.mp hm with hm | hm
          · cases hm
          · exact i6 hm
theorem gen_good {n : Nat} {d : PyData} (h : Gen n d) : Good n d := by
  induction h with
  | @word n z hz =>
    have := List.all_eq_true.mp words_ok z hz
    exact leaf_good (by simp only [wT]) (by simp only [canon]) (by simp only [plainD]) this
  | @int n i hi =>
    have := List.all_eq_true.mp ints_ok i hi
    exact leaf_good (by simp only [wT]) (by simp only [canon]) (by simp only [plainD]) this
  | @tup n ds hl _ ih =>
    obtain ⟨i1, i2, i3, i4, i5, i6⟩ := goods ds ih
    have e : wT (.tuple ds) = 91 :: (wTs ds ++ [93]) := by simp only [wT]
    have m1 : ds.length * cb n ≤ 3 * cb n := Nat.mul_le_mul_right _ hl
    have m2 : ds.length * (lb n + 1) ≤ 3 * (lb n + 1) := Nat.mul_le_mul_right _ hl
    refine ⟨by simp only [plainD]; exact i1, by simp only [canon]; exact i2, ?_, ?_, ?_, ?_, ?_⟩
    · rw [e]; simp
    · rw [e]
      simp only [cb, List.count_cons, List.count_append, List.count_nil]
      simp
      omega
    · rw [e]
      simp only [lb, List.length_cons, List.length_append, List.length_nil]
      omega
    · intro r0 r hr0 hr
      rw [e]
      have e1 : 91 :: (wTs ds ++ [93]) ++ r0 :: r = 91 :: (wTs ds ++ 93 :: (r0 :: r)) := by simp
      rw [e1]
      refine ⟨Nat.zero_le _, ?_⟩
      rw [if_pos (show isEnd 91 = true from rfl)]
      refine i5 _ ⟨Nat.zero_le _, ?_⟩
      rw [if_pos (show isEnd 93 = true from rfl)]
      exact hr
    · rw [e]
      intro hm
      rcases List.mem_cons.mp hm with hm | hm
      · cases hm
      · rcases List.mem_append.mp hm with hm | hm
        · exact i6 hm
        · simp at hm
/-! ### sizes -/
theorem strD_int_ne (i : Int) : 1 ≤ (strD (.int i)).length := by
  by_cases h : i < 0
  · obtain ⟨m, rfl⟩ : ∃ m : Nat, i = -((m : Nat) : Int) := ⟨i.natAbs, by omega⟩
    rw [neg_text (by omega)]
    simp
  · obtain ⟨m, rfl⟩ := Int.eq_ofNat_of_zero_le (show 0 ≤ i by omega)
    have : strD (.int ((m : Nat) : Int)) = TL.numL m := TL.tl_num m
    rw [this]
    exact List.length_pos_iff.mpr (TL.numL_ne m)
theorem piled_le {f : PyData → Nat} : ∀ (ds : List PyData), (∀ d ∈ ds, (PyData.shown d).length ≤ 12 * (wT d).length) → piled (PyData.shownAll ds) ≤ 12 * (ds.map fun d => (wT d).length).sum + 2 * ds.length
  | [], _ => by simp [PyData.shownAll, piled]
  | d :: ds, h => by
    have i := piled_le (f := f) ds fun e he => h e (List.mem_cons_of_mem _ he)
    have g := h d (List.mem_cons_self ..)
    unfold piled at i ⊢
    simp only [PyData.shownAll, List.map_cons, List.sum_cons, List.length_cons]
    omega
theorem shownAll_len (ds : List PyData) : (PyData.shownAll ds).length = ds.length := by
  induction ds with
  | nil => rfl
  | cons d ds ih => simp [PyData.shownAll, ih]
theorem wTs_sum1 : ∀ (ds : List PyData), (ds.map fun d => (wT d).length).sum + ds.length ≤ (wTs ds).length + 1
  | [] => by simp
  | c :: ds => by
    rw [wTs_cons, List.map_cons, List.sum_cons, List.length_cons]
    have := wTs_sum1 ds
    split
    · cases ds with
      | nil => simp
      | cons _ _ => simp at *
    · rw [List.length_append, List.length_cons]
      omega
structure Show (d : PyData) : Prop where
  sh : d.showable = true
  nd : d.hasDict = false
  ln : (PyData.shown d).length ≤ 12 * (wT d).length
  ne : 1 ≤ (wT d).length
  im : imm d = true
  la : d.canLay0 = true
  sm : smallD d = true
  sz : szD d ≤ 3 * (wT d).length
theorem tuple_len (ts : List Str) : (tupleText ts).length ≤ piled ts + 3 := by
  unfold tupleText
  by_cases h : ts = []
  · subst h
    decide +kernel
  · have := join_length_add ts h
    rw [strLen_append, strLen_append]
    have e1 : ("(" : Str).length = 1 := by decide +kernel
    have e2 : ((if ts.length == 1 then ",)" else ")" : String) : Str).length ≤ 2 := by split <;> decide +kernel
    omega
mutual
theorem plain_show : ∀ (n : Nat) (d : PyData), plainD n d = true → Show d
  | 0, d, h => by cases d <;> simp [plainD] at h
  | n + 1, .str z, h => by
    have h' : leafOk (.str z) = true := by simpa only [plainD] using h
    have hw : wordL z.cps.toList = true := h'
    have e : wT (.str z) = z.cps.toList := by simp only [wT, strD]
    have hl : 1 ≤ z.cps.toList.length ∧ z.cps.toList.length ≤ 12 := by
      simp only [wordL, Bool.and_eq_true, decide_eq_true_eq] at hw
      exact ⟨hw.1.1.1, hw.1.1.2⟩
    have zl : z.length = z.cps.toList.length := rfl
    have ha : ∀ c ∈ z.cps.toList, c < 16 ^ 8 := by
      intro c hc
      simp only [wordL, Bool.and_eq_true] at hw
      have := List.all_eq_true.mp hw.2 c hc
      simp only [isLow, isDig, Bool.or_eq_true, Bool.and_eq_true, decide_eq_true_eq] at this
      omega
    have hr := PySem.StrLaws.reprText_len z ha
    refine ⟨rfl, rfl, ?_, by rw [e]; exact hl.1, rfl, ?_, ?_, ?_⟩
    · rw [e]
      simp only [PyData.shown]
      omega
    · simp only [PyData.canLay0]
      exact word_ok (l := z.cps.toList) hw
    · simp only [smallD, decide_eq_true_eq]
      omega
    · rw [e]; simp only [szD]; omega
  | n + 1, .int i, h => by
    have h' : leafOk (.int i) = true := by simpa only [plainD] using h
    have h2 := (Bool.and_eq_true_iff.mp (show (shortI i && decide (i.natAbs.log2 < 1920)) = true from h')).2
    have e : wT (.int i) = strD (.int i) := by simp only [wT]
    have hn := strD_int_ne i
    have hs : (PyData.shown (.int i)).length = (strD (.int i)).length := by simp only [PyData.shown]; rfl
    exact ⟨h2, rfl, by rw [e, hs]; omega, by rw [e]; exact hn, rfl, rfl, rfl, by rw [e]; simp only [szD]; omega⟩
  | n + 1, .tuple ds, h => by
    have h' : plainDs n ds = true := by simpa only [plainD] using h
    obtain ⟨i1, i2, i3, i4, i5, i6, i7⟩ := plains_show n ds h'
    have e : (wT (.tuple ds)).length = (wTs ds).length + 2 := by simp [wT]
    have wl := wTs_sum ds
    have wc : (ds.map fun d => (wT d).length).sum + ds.length ≤ (wTs ds).length + 1 := wTs_sum1 ds
    have tl := tuple_len (PyData.shownAll ds)
    have pl := piled_le (f := fun _ => 0) ds i3
    refine ⟨by simpa only [PyData.showable] using i1, by simpa only [PyData.hasDict] using i2, ?_, by rw [e]; omega, by simp only [imm]; exact i4, by simpa only [PyData.canLay0] using i5, by simp only [smallD]; exact i6, ?_⟩
    · rw [e]
      simp only [PyData.shown]
      omega
    · rw [e]
      simp only [szD]
      omega
  | n + 1, .none, h => by simp [plainD] at h
  | n + 1, .bool _, h => by simp [plainD] at h
  | n + 1, .list _, h => by simp [plainD] at h
  | n + 1, .dict _, h => by simp [plainD] at h
theorem plains_show : ∀ (n : Nat) (ds : List PyData), plainDs n ds = true → PyData.showableAll ds = true ∧ PyData.hasDictAll ds = false ∧ (∀ d ∈ ds, (PyData.shown d).length ≤ 12 * (wT d).length) ∧ imm.immAll ds = true ∧ PyData.canLayAll0 ds = true ∧ smallDs ds = true ∧ szDs ds ≤ 3 * (ds.map fun d => (wT d).length).sum + ds.length
  | _, [], _ => ⟨rfl, rfl, (fun _ h => nomatch h), rfl, rfl, by simp only [smallDs], by simp [szDs]⟩
  | n, d :: ds, h => by
    simp only [plainDs, Bool.and_eq_true] at h
    have g := plain_show n d h.1
    obtain ⟨i1, i2, i3, i4, i5, i6, i7⟩ := plains_show n ds h.2
    refine ⟨by simp only [PyData.showableAll, g.sh, i1, Bool.and_self], by simp only [PyData.hasDictAll, g.nd, i2, Bool.or_self], fun e he => ?_, by simp only [imm.immAll, g.im, i4, Bool.and_self], by simp only [PyData.canLayAll0, g.la, i5, Bool.and_self], by simp only [smallDs, g.sm, i6, Bool.and_self], ?_⟩
    · rcases List.mem_cons.mp he with rfl | he
      · exact g.ln
      · exact i3 e he
    · have := g.sz
      simp only [szDs, List.map_cons, List.sum_cons, List.length_cons]
      omega
end
mutual
theorem plain_depth : ∀ (n : Nat) (d : PyData), plainD n d = true → d.depth ≤ n
  | 0, d, h => by cases d <;> simp [plainD] at h
  | n + 1, .str z, h => by simp [PyData.depth]
  | n + 1, .int i, h => by simp [PyData.depth]
  | n + 1, .tuple ds, h => by
    have := plains_depth n ds (by simpa only [plainD] using h)
    simp only [PyData.depth]
    omega
  | n + 1, .none, h => by simp [plainD] at h
  | n + 1, .bool _, h => by simp [plainD] at h
  | n + 1, .list _, h => by simp [plainD] at h
  | n + 1, .dict _, h => by simp [plainD] at h
theorem plains_depth : ∀ (n : Nat) (ds : List PyData), plainDs n ds = true → PyData.depthAll ds ≤ n
  | _, [], _ => by simp [PyData.depthAll]
  | n, d :: ds, h => by
    simp only [plainDs, Bool.and_eq_true] at h
    have a := plain_depth n d h.1
    have b := plains_depth n ds h.2
    simp only [PyData.depthAll]
    omega
end
end WW

set_option maxHeartbeats 4000000
namespace WW
open PySem PySem.Spec PyProof.Rows L2 NumText
theorem strD_chars (i : Int) : ∀ c ∈ strD (.int i), c < 128 := by
  have nat : ∀ m : Nat, ∀ c ∈ strD (.int ((m : Nat) : Int)), c < 128 := by
    intro m c hc
    have e : strD (.int ((m : Nat) : Int)) = TL.numL m := TL.tl_num m
    rw [e] at hc
    have := TL.numL_digits m c hc
    omega
  by_cases h : i < 0
  · obtain ⟨m, rfl⟩ : ∃ m : Nat, i = -((m : Nat) : Int) := ⟨i.natAbs, by omega⟩
    rw [neg_text (by omega)]
    intro c hc
    rcases List.mem_cons.mp hc with rfl | hc
    · decide
    · exact nat m c hc
  · obtain ⟨m, rfl⟩ := Int.eq_ofNat_of_zero_le (show 0 ≤ i by omega)
    exact nat m
mutual
theorem plain_chars : ∀ (n : Nat) (d : PyData), plainD n d = true → ∀ c ∈ wT d, c < 128
  | 0, d, h => by cases d <;> simp [plainD] at h
  | n + 1, .str z, h => by
    have h' : leafOk (.str z) = true := by simpa only [plainD] using h
    have hw : wordL z.cps.toList = true := h'
    intro c hc
    simp only [wT, strD] at hc
    simp only [wordL, Bool.and_eq_true] at hw
    have := List.all_eq_true.mp hw.2 c hc
    simp only [isLow, isDig, Bool.or_eq_true, Bool.and_eq_true, decide_eq_true_eq] at this
    omega
  | n + 1, .int i, h => by
    intro c hc
    simp only [wT] at hc
    exact strD_chars i c hc
  | n + 1, .tuple ds, h => by
    have ih := plains_chars n ds (by simpa only [plainD] using h)
    intro c hc
    simp only [wT] at hc
    rcases List.mem_cons.mp hc with rfl | hc
    · decide
    · rcases List.mem_append.mp hc with hc | hc
      · exact ih c hc
      · rw [List.mem_singleton.mp hc]; decide
  | n + 1, .none, h => by simp [plainD] at h
  | n + 1, .bool _, h => by simp [plainD] at h
  | n + 1, .list _, h => by simp [plainD] at h
  | n + 1, .dict _, h => by simp [plainD] at h
theorem plains_chars : ∀ (n : Nat) (ds : List PyData), plainDs n ds = true → ∀ c ∈ wTs ds, c < 128
  | _, [], _ => by
    intro c hc
    simp only [wTs] at hc
    cases hc
  | n, d :: ds, h => by
    simp only [plainDs, Bool.and_eq_true] at h
    have a := plain_chars n d h.1
    have b := plains_chars n ds h.2
    intro c hc
    rw [wTs_cons] at hc
    split at hc
    · exact a c hc
    · rcases List.mem_append.mp hc with hc | hc
      · exact a c hc
      · rcases List.mem_cons.mp hc with rfl | hc
        · decide
        · exact b c hc
end
theorem strOk_of {l : List Nat} (h : ∀ c ∈ l, c < 128) : PyData.strOk (S l) = true := by
  unfold PyData.strOk
  rw [← Array.all_toList, List.all_eq_true]
  intro c hc
  have := h c hc
  rw [decide_eq_true_eq]
  omega
theorem eqv_str1 (z : Str) : PyData.eqv (.list [.str z]) (.list [.str z]) = true := by simp [PyData.eqv, PyData.eqvAll]
/-! ### a drawn datum and its texts, bent -/
theorem gen_read {d : PyData} (h : Gen 5 d) : readR (wT d) = some d := by
  have g := gen_good h
  rw [read_eq g.no (by have := g.ct; simp only [cb] at this; omega)]
  exact lrd_written g.ca g.no
theorem gen_len {d : PyData} (h : Gen 5 d) : (wT d).length ≤ 10700 := by
  have := (gen_good h).ln
  simp only [lb] at this
  omega
structure Bent (o : List Nat) : Prop where
  len : o.length ≤ 20000
  run : runs 200 0 (o ++ [59])
  no : 59 ∉ o
  ct : o.count 91 ≤ 123
theorem bent {d : PyData} (h : Gen 5 d) {m : List Nat} {i j : Nat} (hij : i ≤ j) (hm : m.length ≤ 1) (hs : 59 ∉ m) : Bent ((wT d).take i ++ m ++ (wT d).drop j) := by
  have g := gen_good h
  have hl := gen_len h
  have hc := g.ct
  simp only [cb] at hc
  refine ⟨?_, runs_bent hm ?_, ?_, ?_⟩
  · simp only [List.length_append, List.length_take, List.length_drop]
    omega
  · refine g.ru 59 [] rfl ⟨Nat.zero_le _, ?_⟩
    rw [if_pos (show isEnd 59 = true from rfl)]
    exact Nat.zero_le _
  · intro hm2
    rcases List.mem_append.mp hm2 with hm2 | hm2
    · rcases List.mem_append.mp hm2 with hm2 | hm2
      · exact g.no (List.mem_of_mem_take hm2)
      · exact hs hm2
    · exact g.no (List.mem_of_mem_drop hm2)
  · have h1 : ((wT d).take i).count 91 + ((wT d).drop i).count 91 = (wT d).count 91 := by rw [← List.count_append, List.take_append_drop]
    have h2 : ((wT d).drop j).count 91 ≤ ((wT d).drop i).count 91 := by
      have : (wT d).drop j = ((wT d).drop i).drop (j - i) := by rw [List.drop_drop]; congr 1; omega
      rw [this]
      exact (List.drop_sublist _ _).count_le _
    have h3 : m.count 91 ≤ 1 := Nat.le_trans List.count_le_length hm
    simp only [List.count_append]
    omega
theorem Bent.read {o : List Nat} (b : Bent o) : readR o = lrd o := read_eq b.no (by have := b.ct; omega)
theorem Bent.plain {o : List Nat} (b : Bent o) {d : PyData} (e : lrd o = some d) : wT d = o ∧ plainD 124 d = true :=
  ⟨written_lrd hat e, plainD_mono (by have := b.ct; omega) (fit_lrd hlf b.run e)⟩
/-! ### long numbers -/
def nines (n : Nat) : List Nat := List.replicate n 57
theorem nines_dig (n : Nat) : AllDigits (nines n) := by
  intro c hc
  have := List.eq_of_mem_replicate hc
  omega
theorem nines_val (n : Nat) : digitsVal (nines n) + 1 = 10 ^ n := by
  induction n with
  | zero => rfl
  | succ n ih =>
    have e : nines (n + 1) = nines n ++ [57] := by unfold nines; rw [List.replicate_succ']
    rw [e, digitsVal_snoc, Nat.pow_succ, ← ih]
    omega
theorem nines_len (n : Nat) : (nines n).length = n := List.length_replicate
theorem nines_int : PySem.intText? (S (nines 4000)) = some ((digitsVal (nines 4000) : Nat) : Int) :=
  PySem.intText_digits (x := S (nines 4000)) (nines_dig _) (by intro h; have := nines_len 4000; rw [show nines 4000 = [] from h] at this; cases this) (by rw [len_S, nines_len]; decide)
theorem nines_whole : wholeL (nines 4000) = some ((digitsVal (nines 4000) : Nat) : Int) := by
  unfold wholeL
  rw [if_pos (by decide +kernel)]
  exact nines_int
theorem nines_short : shortI ((digitsVal (nines 4000) : Nat) : Int) = true := whole_short nines_whole
theorem nines_text : strD (.int ((digitsVal (nines 4000) : Nat) : Int)) = nines 4000 := (whole_is nines_whole).1
theorem nines_write : wD 1 (.int ((digitsVal (nines 4000) : Nat) : Int)) = some (nines 4000) := by
  have : shortD (.int ((digitsVal (nines 4000) : Nat) : Int)) = true := nines_short
  simp only [wD, this, Bool.or_true, if_true, nines_text]
theorem nines_more : wD 1 (.int (((digitsVal (nines 4000) : Nat) : Int) + 1)) = none := by
  have e : (((digitsVal (nines 4000) : Nat) : Int) + 1) = bigP 125 := by
    rw [big_is, ← nines_val 4000]
    rfl
  rw [e]
  have : shortD (.int (bigP 125)) = false := by
    show shortI (bigP 125) = false
    unfold shortI
    rw [decide_eq_false (show ¬ bigP 125 < bigP 125 from Int.lt_irrefl _), Bool.and_false]
  have h2 : wordD (.int (bigP 125)) = false := rfl
  simp only [wD, this, h2, Bool.or_self, Bool.false_eq_true, if_false]
/-- a text with no bracket -/
theorem pcs_plain : ∀ (l t : List Nat), (∀ c ∈ l, isBrk c = false) → pcs t l = if t ++ l = [] then [] else [t ++ l]
  | [], t, _ => by rw [pcs_nil, List.append_nil]
  | c :: l, t, h => by
    rw [pcs_cons, if_neg (by rw [h c (List.mem_cons_self ..)]; decide), pcs_plain l (t ++ [c]) fun d hd => h d (List.mem_cons_of_mem _ hd)]
    simp
theorem read_plain {l : List Nat} (h : ∀ c ∈ l, isBrk c = false) (h0 : l ≠ []) : readR l = atomR l := by
  unfold readR
  rw [pcs_plain l [] h, List.nil_append, if_neg h0]
  have nb : ∀ b, isBrk b = true → l ≠ [b] := by
    rintro b hb rfl
    rw [h b (List.mem_singleton.mpr rfl)] at hb
    cases hb
  show doneR (((⟨[], true, []⟩ : RS).take l).bind fun s => takes s []) = atomR l
  unfold RS.take
  rw [if_neg (nb 91 rfl), if_neg (nb 93 rfl), if_neg (nb 44 rfl)]
  cases atomR l <;> rfl
theorem nines_nb (n : Nat) : ∀ c ∈ nines n, isBrk c = false := fun c hc => by rw [List.eq_of_mem_replicate hc]; rfl
theorem minus_read : ∃ e, readR (45 :: nines 4000) = some e := by
  have : readR (45 :: nines 4000) = atomR (45 :: nines 4000) := read_plain (fun c hc => by
    rcases List.mem_cons.mp hc with rfl | hc
    · rfl
    · exact nines_nb _ c hc) (by simp)
  rw [this]
  unfold atomR
  rw [if_neg (by decide +kernel)]
  have : ∃ i, wholeL (45 :: nines 4000) = some i := by
    unfold wholeL
    rw [if_pos (by decide +kernel)]
    exact ⟨_, PySem.intText_neg (x := S (45 :: nines 4000)) (cs := nines 4000) rfl (nines_dig _) (by intro h; have := nines_len 4000; rw [h] at this; cases this) (by rw [len_S, List.length_cons, nines_len]; decide)⟩
  obtain ⟨i, hi⟩ := this
  rw [hi]
  exact ⟨_, rfl⟩
theorem more_read : readR (nines 4000 ++ [48]) = none := by
  have : readR (nines 4000 ++ [48]) = atomR (nines 4000 ++ [48]) := read_plain (fun c hc => by
    rcases List.mem_append.mp hc with hc | hc
    · exact nines_nb _ c hc
    · rw [List.mem_singleton.mp hc]; rfl) (by simp)
  rw [this]
  unfold atomR
  rw [if_neg (by decide +kernel)]
  have : wholeL (nines 4000 ++ [48]) = none := by
    unfold wholeL
    rw [if_neg (by decide +kernel)]
  rw [this]
  rfl
/-! ### deep tuples -/
def nest : Nat → PyData
  | 0 => .tuple []
  | n + 1 => .tuple [nest n]
theorem nest_write : ∀ (n k : Nat), k + n ≤ 1000 → wD k (nest n) = some (List.replicate (n + 1) 91 ++ List.replicate (n + 1) 93)
  | 0, k, h => by
    simp only [nest, wD, wDs]
    rw [if_pos (by omega)]
    rfl
  | n + 1, k, h => by
    simp only [nest, wD, wDs, nest_write n (k + 1) (by omega), List.isEmpty_nil, if_true, Option.bind_some]
    rw [if_pos (by omega)]
    simp only [Option.map_some]
    rw [show List.replicate (n + 1 + 1) 91 = 91 :: List.replicate (n + 1) 91 from rfl, List.replicate_succ' (n := n + 1) (a := 93)]
    simp
theorem nest_not : ∀ (n k : Nat), 1000 < k + n → wD k (nest n) = none
  | 0, k, h => by
    simp only [nest, wD, wDs]
    rw [if_neg (by omega)]
  | n + 1, k, h => by
    simp only [nest, wD, wDs, nest_not n (k + 1) (by omega)]
    split <;> rfl
theorem nest_small : ∀ n, smallD (nest n) = true
  | 0 => by simp only [nest, smallD, smallDs]
  | n + 1 => by simp only [nest, smallD, smallDs, nest_small n, Bool.and_self]
theorem nest_size : ∀ n, szD (nest n) = 3 * n + 2
  | 0 => by simp only [nest, szD, szDs]
  | n + 1 => by simp only [nest, szD, szDs, nest_size n]; omega
theorem nest_imm : ∀ n, imm (nest n) = true
  | 0 => by simp only [nest, imm, imm.immAll]
  | n + 1 => by simp only [nest, imm, imm.immAll, nest_imm n, Bool.and_self]
theorem pcs_brk : ∀ (l : List Nat), (∀ c ∈ l, isBrk c = true) → pcs [] l = l.map fun c => [c]
  | [], _ => rfl
  | c :: l, h => by
    rw [pcs_cons, if_pos (h c (List.mem_cons_self ..)), if_pos rfl, pcs_brk l fun d hd => h d (List.mem_cons_of_mem _ hd)]
    rfl
def opens (n : Nat) : List (List PyData) := List.replicate n []
theorem takes_open : ∀ (n : Nat) (rows : List (List PyData)) (r : List (List Nat)), rows.length + n ≤ 1000 → takes ⟨rows, true, []⟩ (List.replicate n [91] ++ r) = takes ⟨opens n ++ rows, true, []⟩ r
  | 0, rows, r, _ => rfl
  | n + 1, rows, r, h => by
    rw [List.replicate_succ, List.cons_append]
    show ((⟨rows, true, []⟩ : RS).take [91]).bind (fun s => takes s (List.replicate n [91] ++ r)) = _
    have e : (⟨rows, true, []⟩ : RS).take [91] = some ⟨[] :: rows, true, []⟩ := by
      unfold RS.take
      rw [if_pos rfl]
      unfold RS.open_
      rw [decide_eq_true (show rows.length < 1000 by omega)]
      rfl
    rw [e, Option.bind_some, takes_open n ([] :: rows) r (by rw [List.length_cons]; omega)]
    unfold opens
    rw [List.replicate_succ', List.append_assoc]
    rfl
theorem read_deep_no : readR (List.replicate 1001 91 ++ List.replicate 1001 93) = none := by
  unfold readR
  rw [pcs_brk _ (fun c hc => by rcases List.mem_append.mp hc with hc | hc <;> (rw [List.eq_of_mem_replicate hc]; rfl))]
  rw [List.map_append, List.map_replicate, List.map_replicate]
  have e : (List.replicate 1001 [91] : List (List Nat)) = List.replicate 1000 [91] ++ [[91]] := by rw [← List.replicate_succ']
  rw [e, List.append_assoc, takes_open 1000 [] _ (by decide)]
  have e2 : (⟨opens 1000 ++ [], true, []⟩ : RS).take [91] = none := by
    unfold RS.take
    rw [if_pos rfl]
    unfold RS.open_
    rw [decide_eq_false (by rw [List.append_nil]; unfold opens; rw [List.length_replicate]; decide)]
    rfl
  show doneR (((⟨opens 1000 ++ [], true, []⟩ : RS).take [91]).bind fun s => takes s _) = none
  rw [e2]
  rfl
theorem close_first (n : Nat) (r : List (List Nat)) : takes ⟨opens (n + 2), true, []⟩ ([93] :: r) = takes ⟨[.tuple []] :: opens n, false, []⟩ r := rfl
theorem close_next (n : Nat) (d : PyData) (r : List (List Nat)) : takes ⟨[d] :: opens (n + 1), false, []⟩ ([93] :: r) = takes ⟨[.tuple [d]] :: opens n, false, []⟩ r := rfl
theorem close_many : ∀ (n : Nat) (d : PyData), ∃ e, takes ⟨[d] :: opens n, false, []⟩ (List.replicate (n + 1) [93]) = some ⟨[], false, [e]⟩
  | 0, d => ⟨_, rfl⟩
  | n + 1, d => by
    rw [List.replicate_succ, close_next]
    exact close_many n (.tuple [d])
theorem read_deep' (n : Nat) (hn : n + 2 ≤ 1000) : ∃ e, readR (List.replicate (n + 2) 91 ++ List.replicate (n + 2) 93) = some e := by
  unfold readR
  rw [pcs_brk _ (fun c hc => by rcases List.mem_append.mp hc with hc | hc <;> (rw [List.eq_of_mem_replicate hc]; rfl))]
  rw [List.map_append, List.map_replicate, List.map_replicate, takes_open (n + 2) [] _ (by rw [List.length_nil]; omega), List.append_nil, List.replicate_succ (n := n + 1) (a := [93]), close_first]
  obtain ⟨e, he⟩ := close_many n (.tuple [])
  rw [he]
  exact ⟨e, rfl⟩
theorem read_deep : ∃ e, readR (List.replicate 1000 91 ++ List.replicate 1000 93) = some e := read_deep' 998 (by decide)
end WW

set_option maxHeartbeats 4000000
namespace WW
open PySem PySem.Spec PyProof.Rows L2
local macro_rules | `(tactic| walk_at "x") => `(tactic| simp only [tSeq, tNext, tAsg, gName, tRet, tRetN, tIfS, tOp, tUn, rI, rI0, rU, tTest, tB, tAnd, tOr, tNot, tAndV, tOrV, tNotV, tIf, tCons, tNil, tTup, tLst, tCall, tCallS, tMeth, tMake, tFld, sFld, tBM, tBM0, tCB, tSl, tPart, tNoPart, tDrop, tPar, tPar3, tAug, ipI, gTup, gCons, gNil, gSub, rSetL, rAppend, rPop, rIxL, rIxS, rIxT, rEq, rNe, tChain, tNever, tThen, tVar, tC, L2.start, List.map_cons, List.map_nil, List.length_cons, List.length_nil, List.replicate_succ, List.replicate_zero, List.append_nil, List.nil_append, List.cons_append, Nat.reduceAdd, Nat.reduceSub, Nat.add_zero, Nat.zero_add, Nat.sub_zero, Nat.sub_self,
  List.getElem?_cons_zero, List.getElem?_cons_succ, Option.some.injEq, exists_eq_left', exists_eq_left, exists_eq', exists_eq, exists_and_left, List.set_cons_zero, List.set_cons_succ, V.int.injEq, V.bl.injEq, V.str.injEq, V.ref.injEq, V.ty.injEq, List.cons.injEq, and_true, true_and, and_assoc, if_true, if_false, Bool.false_eq_true, reduceCtorEq, false_and, and_false, exists_false, false_or, or_false, Bool.not_true, Bool.not_false, decide_eq_true_eq, ite_true, ite_false, WE, cxOf_K, cxOf_mg, rSlS, scal, wipe, mem_low, mem_dig, mem_brk, mem_brk4, sgn_inj, Bool.decide_eq_true])

def spLaw (K : PySem.W.Frag) : Sp := fun vs H Q _ => ∃ (a : Addr) (ns : List Int), vs = [.ref a] ∧ ns.length ≤ 63 ∧ SqL K H a (ns.map V.int) ∧ ∀ H', Q (.bl true) H'
theorem seq_of {t u : TS} {D : Ends} {σ : L2.St} {H : Hp} (h : t { D with nx := u D } σ H) : tSeq t u D σ H := h
theorem asg_call {sp : Sp} {W : WX} {ta : TA} {j : Nat} {D : Ends} {σ : L2.St} {H : Hp} {vs : List V} (hv : ∀ R : List V → Hp → Prop, R vs H → ta σ H R) (h : sp vs H (fun x H1 => D.nx (σ.set j (some x)) H1) (WE W σ)) : tAsg (tCallS sp (WE W) ta) (gName j) D σ H := hv _ h
theorem cut_of {t u : TS} {D : Ends} {σ : L2.St} {H : Hp} (Mid : L2.St → Hp → Prop) (h1 : t { D with nx := Mid } σ H) (h2 : ∀ σ' H', Mid σ' H' → u D σ' H') : Evl.tCut t u D σ H := ⟨Mid, h1, h2⟩
theorem told0_no {K : PySem.W.Frag} {H : Hp} {x : V} {d : PyData} {Q : VK} {E : XK} (hd : Dp K H x d) (h1 : smallD d = true) (h2 : szD d ≤ 1000000) (hw : wD 1 d = none) (h : ∀ H', Same H H' → Q .non H') : spTold K [.int 0, x] H Q E :=
  ⟨x, d, 0, rfl, hd, .inl ⟨rfl, h1, h2, (fun t e => by rw [hw] at e; cases e), by rw [hw]; exact h⟩⟩
theorem told0_yes {K : PySem.W.Frag} {H : Hp} {x : V} {d : PyData} {t : List Nat} {Q : VK} {E : XK} (hd : Dp K H x d) (h1 : smallD d = true) (h2 : szD d ≤ 1000000) (hw : wD 1 d = some t) (hl : t.length ≤ 16000000) (h : ∀ D H', Same H H' → H D = none → H' D = some (.lst [.str (S t)]) → Q (.ref D) H') : spTold K [.int 0, x] H Q E :=
  ⟨x, d, 0, rfl, hd, .inl ⟨rfl, h1, h2, (fun t e => by rw [hw] at e; cases e; exact hl), by rw [hw]; exact h⟩⟩
theorem told1_no {K : PySem.W.Frag} {H : Hp} {x : V} {d : PyData} {Q : VK} {E : XK} (hd : Dp K H x d) (hz : ∀ z, x = .str z → z.length ≤ 50000) (hw : readD d = none) (h : ∀ H', Same H H' → Q .non H') : spTold K [.int 1, x] H Q E :=
  ⟨x, d, 1, rfl, hd, .inr ⟨rfl, hz, by rw [hw]; exact h⟩⟩
theorem told1_yes {K : PySem.W.Frag} {H : Hp} {l : List Nat} {e : PyData} {Q : VK} {E : XK} (hz : l.length ≤ 50000) (hw : readR l = some e) (h : ∀ D v H', Same H H' → H D = none → H' D = some (.lst [v]) → Dp K H' v e → imm e = true → Q (.ref D) H') : spTold K [.int 1, .str (S l)] H Q E := by
  have e1 : readD (.str (S l)) = some e := hw
  exact ⟨_, .str (S l), 1, rfl, .str _, .inr ⟨rfl, (fun z e => by cases e; rw [len_S]; exact hz), by rw [e1]; exact h⟩⟩
theorem told1_noS {K : PySem.W.Frag} {H : Hp} {l : List Nat} {Q : VK} {E : XK} (hz : l.length ≤ 50000) (hw : readR l = none) (h : ∀ H', Same H H' → Q .non H') : spTold K [.int 1, .str (S l)] H Q E :=
  told1_no (.str _) (fun z e => by cases e; rw [len_S]; exact hz) (show readD (.str (S l)) = none from hw) h
theorem repr_list {K : PySem.W.Frag} {H : Hp} {D : Addr} {v : V} {d : PyData} {n : Nat} {Q : VK} (h2 : H D = some (.lst [v])) (hv : Dp K H v d) (hp : plainD n d = true) (hn : n ≤ 400) (hl : (wT d).length ≤ 1000000) (hq : Q (.str (PyData.shown (.list [d]))) H) : rRepr K [.ref D] H Q := by
  have s := plain_show n d hp
  have dp := plain_depth n d hp
  refine ⟨_, .list [d], rfl, .lst (SqL.of h2) (.cons hv .nil), ?_, ?_, ?_, ?_, hq⟩
  · simp only [PyData.showable, PyData.showableAll, s.sh, Bool.and_self]
  · simp only [PyData.hasDict, PyData.hasDictAll, s.nd, Bool.or_self]
  · simp only [PyData.depth, PyData.depthAll]
    omega
  · have := s.ln
    simp only [PyData.shown, PyData.shownAll]
    rw [listText_one, strLen_append, strLen_append, strLen_append, sizeLine_eq]
    have e1 : (Str.ofString "[").length = 1 := by decide +kernel
    have e2 : (Str.ofString "").length = 0 := by decide +kernel
    have e3 : (Str.ofString "]").length = 1 := by decide +kernel
    omega
theorem repr_non {K : PySem.W.Frag} {H : Hp} {Q : VK} (hq : Q (.str (PyData.shown .none)) H) : rRepr K [.non] H Q :=
  ⟨_, .none, rfl, .non, rfl, rfl, by decide, by decide +kernel, hq⟩
theorem S_one (c : Nat) : (⟨#[c]⟩ : Str) = S [c] := rfl
def signs9 : List Nat := [91, 93, 44, 97, 48, 45, 49, 32, 65]
theorem signs_lit : (Str.ofString "[],a0-1 A").cps.toList = signs9 := by decide +kernel
theorem signs_no : ∀ c ∈ signs9, c ≠ 59 := by decide
theorem rep9 : repS (Str.ofString "9") (Int.toNat 4000) = S (nines 4000) := by
  unfold repS
  rw [show (Str.ofString "9").cps.toList = [57] by decide +kernel, show Int.toNat 4000 = 4000 from rfl]
  have : ∀ n : Nat, (List.replicate n [57]).flatten = List.replicate n 57 := by
    intro n
    induction n with
    | zero => rfl
    | succ n ih => rw [List.replicate_succ, List.flatten_cons, ih]; rfl
  rw [this]
  rfl
theorem rep_of {K : PySem.W.Frag} {x : String} {c n : Nat} {H : Hp} {Q : VK} (hx : (Str.ofString x).cps.toList = [c]) (h1 : 1 < n) (h2 : n ≤ 16000000) (hq : Q (.str (S (List.replicate n c))) H) : rRepS (.str (Str.ofString x)) (.int ((n : Nat) : Int)) H Q := by
  have hl : (Str.ofString x).length = 1 := by rw [len_str, hx]; rfl
  refine ⟨_, _, rfl, rfl, by omega, by omega, by rw [hl]; omega, ?_⟩
  have e : repS (Str.ofString x) (Int.toNat ((n : Nat) : Int)) = S (List.replicate n c) := by
    unfold repS
    rw [hx, Int.toNat_natCast]
    have : ∀ n : Nat, (List.replicate n [c]).flatten = List.replicate n c := by
      intro n
      induction n with
      | zero => rfl
      | succ n ih => rw [List.replicate_succ, List.flatten_cons, ih]; rfl
    rw [this]
    rfl
  rw [e]
  exact hq
theorem ob1 : (Str.ofString "[").cps.toList = [91] := by decide +kernel
theorem cb1 : (Str.ofString "]").cps.toList = [93] := by decide +kernel
def Lq (K : PySem.W.Frag) (n : Nat) (σ : L2.St) (H : Hp) : Prop := ∃ q y0 y1 y2 y3 y4 y6 y7 y8 y9 y10 y11 y12 y13, σ = [y0, y1, y2, y3, y4, some (.ref q), y6, y7, y8, y9, y10, y11, y12, y13] ∧ Dp K H (.ref q) (nest n)
/-- a list of one text against another of the same -/
theorem ne_same {K : PySem.W.Frag} {H : Hp} {D p : Addr} {l : List Nat} {R : VK} (hl : ∀ c ∈ l, c < 128) (h1 : H D = some (.lst [.str (S l)])) (hp : H p = none) (hq : R (.bl false) (upd H p (.lst [.str (S l)]))) : rNeW K (.ref D) (.ref p) (upd H p (.lst [.str (S l)])) R := by
  have ok := strOk_of hl
  have lay : (PyData.list [.str (S l)]).canLay0 = true := by simp only [PyData.canLay0, PyData.canLayAll0, ok, Bool.and_self]
  refine ⟨.list [.str (S l)], .list [.str (S l)], .lst (SqL.of ((Same.new hp) _ _ h1)) (.cons (.str _) .nil), .lst (SqL.of upd_same) (.cons (.str _) .nil), lay, lay, by simp [PyData.depth, PyData.depthAll], ?_⟩
  rw [eqv_str1]
  exact hq
theorem brk_chars (n : Nat) : ∀ c ∈ List.replicate n 91 ++ List.replicate n 93, c < 128 := by
  intro c hc
  rcases List.mem_append.mp hc with hc | hc <;> (rw [List.eq_of_mem_replicate hc]; decide)
theorem brk_len (n : Nat) : (List.replicate n 91 ++ List.replicate n 93).length = 2 * n := by simp; omega
theorem eqv_nones : ∀ n : Nat, PyData.eqvAll (List.replicate n .none) (List.replicate n .none) = true
  | 0 => by simp [PyData.eqvAll]
  | n + 1 => by simp [List.replicate_succ, PyData.eqvAll, PyData.eqv, eqv_nones n]
def L14 (σ : L2.St) : Prop := ∃ y0 y1 y2 y3 y4 y5 y6 y7 y8 y9 y10 y11 y12 y13 : Option V, σ = [y0, y1, y2, y3, y4, y5, y6, y7, y8, y9, y10, y11, y12, y13]
def Lz (a dr : Addr) (σ : L2.St) : Prop := ∃ y2 y3 y4 y5 y6 y7 y8 y9 y10 y11 y12 y13 : Option V, σ = [some (.ref a), some (.ref dr), y2, y3, y4, y5, y6, y7, y8, y9, y10, y11, y12, y13]
def Lt (a dr : Addr) (t : List Nat) (σ : L2.St) : Prop := ∃ y2 y3 y4 y5 y6 y8 y9 y10 y11 y12 y13 : Option V, σ = [some (.ref a), some (.ref dr), y2, y3, y4, y5, y6, some (.str (S t)), y8, y9, y10, y11, y12, y13]
def Lv (a dr : Addr) (v : V) (t : List Nat) (σ : L2.St) : Prop := ∃ y2 y3 y4 y5 y8 y9 y10 y11 y12 y13 : Option V, σ = [some (.ref a), some (.ref dr), y2, y3, y4, y5, some v, some (.str (S t)), y8, y9, y10, y11, y12, y13]
theorem Lv.t {a dr : Addr} {v : V} {t : List Nat} {σ : L2.St} (h : Lv a dr v t σ) : Lt a dr t σ := by
  obtain ⟨y2, y3, y4, y5, y8, y9, y10, y11, y12, y13, rfl⟩ := h
  exact ⟨_, _, _, _, _, _, _, _, _, _, _, rfl⟩
theorem Lt.z {a dr : Addr} {t : List Nat} {σ : L2.St} (h : Lt a dr t σ) : Lz a dr σ := by
  obtain ⟨y2, y3, y4, y5, y6, y8, y9, y10, y11, y12, y13, rfl⟩ := h
  exact ⟨_, _, _, _, _, _, _, _, _, _, _, _, rfl⟩
theorem Lz.l {a dr : Addr} {σ : L2.St} (h : Lz a dr σ) : L14 σ := by
  obtain ⟨y2, y3, y4, y5, y6, y7, y8, y9, y10, y11, y12, y13, rfl⟩ := h
  exact ⟨_, _, _, _, _, _, _, _, _, _, _, _, _, _, rfl⟩
section
variable {P : Program} {w : World} {K : PySem.W.Frag} {mg : Str → Option Value} {base : Heap}
theorem o_law (W : Wd fa fn K mg) : ∃ fd, FunD K d_law.name d_law.qual d_law.params d_law.body d_law.scope [] (d_law.kws K) (He.fAd K d_law.at_) fd ∧ ∀ base : Heap, LawOk P w K mg base (He.fAd K d_law.at_) "script" fd (spLaw K) := by
  refine okLaw W (d := d_law) 21 (k := 140) sc_law ⟨rfl, by decide, by decide⟩ rfl rfl ?len (fun base cdv s H vs Q E hr nd hu tk po h => ?body)
  case len =>
    rintro vs H Q E ⟨_, _, rfl, _⟩
    rfl
  case body =>
    have o__law_draw := (o__law_draw (P := P) (w := w) (base := base) W).mono (show 1 ≤ 140 by decide)
    have o__law_take := (o__law_take (P := P) (w := w) (base := base) W).mono (show 1 ≤ 140 by decide)
    have o__law_data := (o__law_data (P := P) (w := w) (base := base) W 6).mono (show 6 + 1 ≤ 140 by decide)
    have o__law_written := (o__law_written (P := P) (w := w) (base := base) W 130).mono (show 130 + 1 ≤ 140 by decide)
    have o__law_read := (o__law_read (P := P) (w := w) (base := base) W).mono (show 2 ≤ 140 by decide)
    have o__law_told := (o__law_told (P := P) (w := w) (base := base) W).mono (show 5 ≤ 140 by decide)
    obtain ⟨fd__law_draw, F__law_draw, b__law_draw, k__law_draw⟩ := o__law_draw.ex; obtain ⟨fd__law_data, F__law_data, b__law_data, k__law_data⟩ := o__law_data.ex; obtain ⟨fd__law_written, F__law_written, b__law_written, k__law_written⟩ := o__law_written.ex; obtain ⟨fd__law_told, F__law_told, b__law_told, k__law_told⟩ := o__law_told.ex; obtain ⟨fd__law_take, F__law_take, b__law_take, k__law_take⟩ := o__law_take.ex; obtain ⟨fd__law_read, F__law_read, b__law_read, k__law_read⟩ := o__law_read.ex
    have hgd : (callerA.deeper (envOfC d_law.qual d_law.scope s.heap.objs.size (He.fAd K d_law.at_) cdv)).guards = some [] := rfl
    have hun : (callerA.deeper (envOfC d_law.qual d_law.scope s.heap.objs.size (He.fAd K d_law.at_) cdv)).units + 1000 < cLine := by
      show callerA.units + 3 + 1000 < cLine
      decide
    refine ⟨_, (pss_cons (ps_set (i := 1) nd rfl (by first | exact Or.inl rfl | exact Or.inr rfl) (by exact (pe_callS F__law_draw (hr.mono (by first | decide | omega)) rfl (W.glo 39) k__law_draw b__law_draw (fun σ => passAt tk σ) (by exact (pa_cons (pv 0) pa_nil)))))
    (Evl.pss_cut (ps_for po rfl (pi_range1 rfl (W.free 10) (pa_cons pe_int pa_nil)) (pg_name (i := 2) nd rfl (by first | exact Or.inl rfl | exact Or.inr rfl))
      (pss_cons (ps_set (i := 6) nd rfl (by first | exact Or.inl rfl | exact Or.inr rfl) (by exact (pe_callS F__law_data (hr.mono (by first | decide | omega)) rfl (W.glo 31) k__law_data b__law_data (fun σ => passAt tk σ) (by exact (pa_cons (pv 1) (pa_cons pe_int pa_nil))))))
    (Evl.pss_cut (ps_set (i := 7) nd rfl (by first | exact Or.inl rfl | exact Or.inr rfl) (by exact (pe_callS F__law_written (hr.mono (by first | decide | omega)) rfl (W.glo 32) k__law_written b__law_written (fun σ => passAt tk σ) (by exact (pa_cons (pv 6) pa_nil)))))
    (Evl.pss_cut (ps_if (PW.pt (pw_or (pt_cmpR (op_neW hr.units) (by exact (pe_callS F__law_told (hr.mono (by first | decide | omega)) rfl (W.glo 38) k__law_told b__law_told (fun σ => passAt tk σ) (by exact (pa_cons pe_int (pa_cons (pv 6) pa_nil))))) (pe_lst (pa_cons (pv 7) pa_nil)) (nomark _)) (pw_or1 (pt_cmpR op_ne (pe_callB (call_repr hgd hun) (by rfl) (W.free 40) (by decide +kernel) (pa_cons (by exact (pe_callS F__law_told (hr.mono (by first | decide | omega)) rfl (W.glo 38) k__law_told b__law_told (fun σ => passAt tk σ) (by exact (pa_cons pe_int (pa_cons (pv 7) pa_nil))))) pa_nil)) (pe_callB (call_repr hgd hun) (by rfl) (W.free 40) (by decide +kernel) (pa_cons (pe_lst (pa_cons (pv 6) pa_nil)) pa_nil)) (nomark _))))) (pss_one (ps_ret pe_bl)) pss_nil)
    (pss_one (ps_for po rfl (pi_range1 rfl (W.free 10) (pa_cons pe_int pa_nil)) (pg_name (i := 8) nd rfl (by first | exact Or.inl rfl | exact Or.inr rfl))
      (pss_cons (ps_par (i := 9) (j := 10) (by rfl) nd rfl rfl (by decide) rfl rfl (pa_cons (by exact (pe_callS F__law_take (hr.mono (by first | decide | omega)) rfl (W.glo 30) k__law_take b__law_take (fun σ => passAt tk σ) (by exact (pa_cons (pv 1) (pa_cons (pe_op op_add (pe_callB call_len (by rfl) (W.free 6) (by decide +kernel) (pa_cons (pv 7) pa_nil)) pe_int) pa_nil))))) (pa_cons (pe_ix ix_str pe_str (by exact (pe_callS F__law_take (hr.mono (by first | decide | omega)) rfl (W.glo 30) k__law_take b__law_take (fun σ => passAt tk σ) (by exact (pa_cons (pv 1) (pa_cons pe_int pa_nil))))) (fun _ _ => rfl)) pa_nil)) (by rfl))
    (pss_one (ps_for po rfl (pi_list (pe_lst (pa_cons (pe_op op_add_str (pe_op op_add_str (pe_slice sl_str (pv 7) po_none (po_some (pv 9))) (pv 10)) (pe_slice sl_str (pv 7) (po_some (pv 9)) po_none)) (pa_cons (pe_op op_add_str (pe_slice sl_str (pv 7) po_none (po_some (pv 9))) (pe_slice sl_str (pv 7) (po_some (pe_op op_add (pv 9) pe_int)) po_none)) (pa_cons (pe_op op_add_str (pe_op op_add_str (pe_slice sl_str (pv 7) po_none (po_some (pv 9))) (pv 10)) (pe_slice sl_str (pv 7) (po_some (pe_op op_add (pv 9) pe_int)) po_none)) pa_nil))))) (pg_name (i := 11) nd rfl (by first | exact Or.inl rfl | exact Or.inr rfl))
      (pss_cons (ps_set (i := 12) nd rfl (by first | exact Or.inl rfl | exact Or.inr rfl) (by exact (pe_callS F__law_read (hr.mono (by first | decide | omega)) rfl (W.glo 41) k__law_read b__law_read (fun σ => passAt tk σ) (by exact (pa_cons (pv 11) pa_nil)))))
    (pss_one (ps_if (pt_cmpR op_ne (pe_callB (call_repr hgd hun) (by rfl) (W.free 40) (by decide +kernel) (pa_cons (by exact (pe_callS F__law_told (hr.mono (by first | decide | omega)) rfl (W.glo 38) k__law_told b__law_told (fun σ => passAt tk σ) (by exact (pa_cons pe_int (pa_cons (pv 11) pa_nil))))) pa_nil)) (pe_callB (call_repr hgd hun) (by rfl) (W.free 40) (by decide +kernel) (pa_cons (pe_ifExp (PW.pt (pw_and (pt_cmpR op_notN (pv 12) pe_non (nomark _)) (pw_and1 (pt_cmpR (op_eqW hr.units) (by exact (pe_callS F__law_written (hr.mono (by first | decide | omega)) rfl (W.glo 32) k__law_written b__law_written (fun σ => passAt tk σ) (by exact (pa_cons (pe_ix ix_seq (pv 12) pe_int (fun _ _ => rfl)) pa_nil)))) (pv 11) (nomark _))))) (pv 12) pe_non) pa_nil)) (nomark _)) (pss_one (ps_ret pe_bl)) pss_nil))))))))))))
    (Evl.pss_cut (ps_for po rfl (pi_list (pe_lst (pa_cons pe_non (pa_cons pe_bl (pa_cons pe_str (pa_cons pe_str (pa_cons pe_str (pa_cons pe_str (pa_cons pe_str (pa_cons (pe_lst (pa_cons pe_int pa_nil)) (pa_cons (pe_tup (pa_cons pe_int (pa_cons pe_non pa_nil))) (pa_cons (pe_tup (pa_cons (pe_tup (pa_cons pe_bl pa_nil)) pa_nil)) (pa_cons (pe_lst (pa_cons pe_str pa_nil)) (pa_cons (pe_tup (pa_cons pe_str (pa_cons (pe_lst pa_nil) pa_nil))) (pa_cons pe_str (pa_cons (pe_tup (pa_cons pe_str pa_nil)) pa_nil)))))))))))))))) (pg_name (i := 3) nd rfl (by first | exact Or.inl rfl | exact Or.inr rfl))
      (pss_one (ps_if (pt_cmpR op_notN (by exact (pe_callS F__law_told (hr.mono (by first | decide | omega)) rfl (W.glo 38) k__law_told b__law_told (fun σ => passAt tk σ) (by exact (pa_cons pe_int (pa_cons (pv 3) pa_nil))))) pe_non (nomark _)) (pss_one (ps_ret pe_bl)) pss_nil)))
    (pss_cons (ps_set (i := 4) nd rfl (by first | exact Or.inl rfl | exact Or.inr rfl) (pe_op op_repS pe_str pe_int))
    (Evl.pss_cut (ps_if (PW.pt (pw_or (pt_cmpR (op_neW hr.units) (by exact (pe_callS F__law_told (hr.mono (by first | decide | omega)) rfl (W.glo 38) k__law_told b__law_told (fun σ => passAt tk σ) (by exact (pa_cons pe_int (pa_cons (pe_callTy (call_int_strW W.dg) (by rfl) (W.free 2) (by decide +kernel) (pa_cons (pv 4) pa_nil)) pa_nil))))) (pe_lst (pa_cons (pv 4) pa_nil)) (nomark _)) (pw_or (pt_cmpR op_isN (by exact (pe_callS F__law_told (hr.mono (by first | decide | omega)) rfl (W.glo 38) k__law_told b__law_told (fun σ => passAt tk σ) (by exact (pa_cons pe_int (pa_cons (pe_op op_add_str pe_str (pv 4)) pa_nil))))) pe_non (nomark _)) (pw_or (pt_cmpR op_notN (by exact (pe_callS F__law_told (hr.mono (by first | decide | omega)) rfl (W.glo 38) k__law_told b__law_told (fun σ => passAt tk σ) (by exact (pa_cons pe_int (pa_cons (pe_op op_add_str (pv 4) pe_str) pa_nil))))) pe_non (nomark _)) (pw_or1 (pt_cmpR op_notN (by exact (pe_callS F__law_told (hr.mono (by first | decide | omega)) rfl (W.glo 38) k__law_told b__law_told (fun σ => passAt tk σ) (by exact (pa_cons pe_int (pa_cons (pe_op op_add (pe_callTy (call_int_strW W.dg) (by rfl) (W.free 2) (by decide +kernel) (pa_cons (pv 4) pa_nil)) pe_int) pa_nil))))) pe_non (nomark _))))))) (pss_one (ps_ret pe_bl)) pss_nil)
    (pss_cons (ps_set (i := 5) nd rfl (by first | exact Or.inl rfl | exact Or.inr rfl) (pe_tup pa_nil))
    (Evl.pss_cut (ps_for po rfl (pi_range1 rfl (W.free 10) (pa_cons pe_int pa_nil)) (pg_name (i := 2) nd rfl (by first | exact Or.inl rfl | exact Or.inr rfl))
      (pss_one (ps_set (i := 5) nd rfl (by first | exact Or.inl rfl | exact Or.inr rfl) (pe_tup (pa_cons (pv 5) pa_nil)))))
    (Evl.pss_cut (ps_if (PW.pt (pw_or (pt_cmpR (op_neW hr.units) (by exact (pe_callS F__law_told (hr.mono (by first | decide | omega)) rfl (W.glo 38) k__law_told b__law_told (fun σ => passAt tk σ) (by exact (pa_cons pe_int (pa_cons (pv 5) pa_nil))))) (pe_lst (pa_cons (pe_op op_add_str (pe_op op_repS pe_str pe_int) (pe_op op_repS pe_str pe_int)) pa_nil)) (nomark _)) (pw_or (pt_cmpR op_notN (by exact (pe_callS F__law_told (hr.mono (by first | decide | omega)) rfl (W.glo 38) k__law_told b__law_told (fun σ => passAt tk σ) (by exact (pa_cons pe_int (pa_cons (pe_tup (pa_cons (pv 5) pa_nil)) pa_nil))))) pe_non (nomark _)) (pw_or1 (pt_cmpR op_notN (by exact (pe_callS F__law_told (hr.mono (by first | decide | omega)) rfl (W.glo 38) k__law_told b__law_told (fun σ => passAt tk σ) (by exact (pa_cons pe_int (pa_cons (pe_op op_add_str (pe_op op_repS pe_str pe_int) (pe_op op_repS pe_str pe_int)) pa_nil))))) pe_non (nomark _)))))) (pss_one (ps_ret pe_bl)) pss_nil)
    (pss_one (ps_ret (pe_and (pe_cmpR op_notN (by exact (pe_callS F__law_told (hr.mono (by first | decide | omega)) rfl (W.glo 38) k__law_told b__law_told (fun σ => passAt tk σ) (by exact (pa_cons pe_int (pa_cons (pe_op op_add_str (pe_op op_repS pe_str pe_int) (pe_op op_repS pe_str pe_int)) pa_nil))))) pe_non (nomark _)) (pe_one (pe_cmpR (op_eqW hr.units) (pe_lc (own := [("value", 13)]) (g := (gName 13)) (tt := tYes) rfl nd (pi_list (pe_lst (pa_cons pe_non (pa_cons pe_int (pa_cons (pe_tup (pa_cons pe_int pa_nil)) (pa_cons pe_str (pa_cons pe_str (pa_cons pe_str (pa_cons pe_str pa_nil))))))))) (blkOk_by (own := [("value", 13)]) (N := ["script", "draw", "turn", "bad", "long", "deep", "data", "text", "again", "i", "sign", "other", "due", "value"]) (sc := defScope s_law) (by decide +kernel)) (fun _ _ _ _ _ => (pg_name (i := 13) nd rfl (by first | exact Or.inl rfl | exact Or.inr rfl))) (fun _ _ _ _ _ => pts_nil) (fun _ _ _ _ _ => (pe_call F__law_told (hr.mono (by first | decide | omega)) rfl (W.glo 38) k__law_told b__law_told .nil passL (pa_cons pe_int (pa_cons (pv 13) pa_nil))))) (pe_op op_rep (pe_lst (pa_cons pe_non pa_nil)) pe_int) (nomark _)))))))))))))), ?_⟩
    obtain ⟨a, ns, rfl, hl, hs, hq⟩ := h
    clear tk po
    refine seq_of (asg_call (vs := [.ref a]) (fun R h => ⟨_, rfl, h⟩) ⟨a, ns, rfl, hs, hl, fun dr cs H1 sm0 hdr0 hcs0 hD => ?_⟩)
    simp only [L2.start, List.map_cons, List.map_nil, List.length_cons, List.length_nil, List.replicate_succ, List.replicate_zero, List.append_nil, List.nil_append, List.cons_append, Nat.reduceAdd, Nat.reduceSub, List.set_cons_zero, List.set_cons_succ]
    refine cut_of (fun σ H' => L14 σ) ?_ ?_
    · refine tFor_same (walk_range (lo := 0) (n := 4)) ?_ (fun i σ H' => Lz a dr σ ∧ Dr H' dr cs) ⟨⟨_, _, _, _, _, _, _, _, _, _, _, _, rfl⟩, hD⟩ (fun _ _ _ _ _ => trivial) ?_ ?_
      · intro R hR
        simp only [iRng1]
        walk_at "x"
        exact ⟨by decide, by decide, hR⟩
      · rintro i x σ H2 H3 hi ⟨⟨y2, y3, y4, y5, y6, y7, y8, y9, y10, y11, y12, y13, rfl⟩, hD2⟩ ⟨rfl, rfl⟩
        show tSeq _ _ _ _ _
        refine seq_of (asg_call (vs := [.ref dr, .int 5]) (fun R h => ⟨_, rfl, h⟩) ⟨dr, cs, 5, rfl, by decide, hD2, fun v d H4 hg hv kp => ?_⟩)
        simp only [List.set_cons_zero, List.set_cons_succ]
        have gd := gen_good hg
        have gl := gen_len hg
        refine cut_of (fun σ H' => Lv a dr v (wT d) σ ∧ Dp K H' v d ∧ Dr H' dr cs) ?_ ?_
        · walk_at "x"
          exact ⟨v, d, rfl, hv, plainD_mono (by decide) gd.pl, by omega, fun H5 sm => ⟨⟨_, _, _, _, _, _, _, _, _, _, rfl⟩, Dp.sm sm d v hv, Dr.of_eq sm kp.2⟩⟩
        · rintro σ H5 ⟨lv, hv5, hD5⟩
          refine cut_of (fun σ H' => Lt a dr (wT d) σ ∧ Dr H' dr cs) ?_ ?_
          · obtain ⟨y2, y3, y4, y5, y8, y9, y10, y11, y12, y13, rfl⟩ := lv
            walk_at "x"
            have sh := plain_show 6 d gd.pl
            have szd := sh.sz
            have ok := strOk_of (plain_chars 6 d gd.pl)
            refine told0_yes hv5 sh.sm (by omega) (wd_plain 6 1 d gd.pl (by decide)) (by omega) fun D H6 s6 hD0 h6 => ⟨by decide, fun p hp => ?_⟩
            have s7 := Same.new (o := HO.lst [.str (S (wT d))]) hp
            have lay : (PyData.list [.str (S (wT d))]).canLay0 = true := by simp only [PyData.canLay0, PyData.canLayAll0, ok, Bool.and_self]
            refine ⟨.list [.str (S (wT d))], .list [.str (S (wT d))], .lst (SqL.of (s7 _ _ h6)) (.cons (.str _) .nil), .lst (SqL.of upd_same) (.cons (.str _) .nil), lay, lay, by simp [PyData.depth, PyData.depthAll], _, rfl, ?_⟩
            rw [eqv_str1]
            refine iteF ?_
            refine told1_yes (by omega) (gen_read hg) fun D2 v2 H8 s8 hD2 h8 hv8 _ => ?_
            refine repr_list h8 hv8 gd.pl (by decide) (by omega) ⟨by decide, fun p2 hp2 => ?_⟩
            have s9 := Same.new (o := HO.lst [v]) hp2
            have sall := Same.trans s6 (Same.trans s7 (Same.trans s8 s9))
            refine repr_list upd_same (Dp.sm sall d v hv5) gd.pl (by decide) (by omega) ⟨rfl, ?_⟩
            rw [decide_eq_true rfl]
            exact iteF ⟨⟨_, _, _, _, _, _, _, _, _, _, _, rfl⟩, Dr.of_eq sall hD5⟩
          · rintro σ H6 ⟨lt, hD6⟩
            refine tFor_same (walk_range (lo := 0) (n := 8)) ?_ (fun i σ H' => Lt a dr (wT d) σ ∧ Dr H' dr cs) ⟨lt, hD6⟩ (fun _ _ _ _ _ => trivial) ?_ ?_
            · intro R hR
              simp only [iRng1]
              walk_at "x"
              exact ⟨by decide, by decide, hR⟩
            · rintro i8 x σ H7 H8 hi8 ⟨⟨y2, y3, y4, y5, y6, y8, y9, y10, y11, y12, y13, rfl⟩, hD8⟩ ⟨rfl, rfl⟩
              walk_at "x"
              refine ⟨(wT d).length, ⟨by rw [len_S, sizeLine_eq]; omega, by rw [len_S]⟩, dr, cs, ((wT d).length : Int) + 1, rfl, by omega, by omega, hD8, fun n1 H9 hn1 fr9 hD9 => ?_⟩
              refine ⟨dr, cs, 9, rfl, by decide, by decide, hD9, fun n2 H10 hn2 fr10 hD10 => ?_⟩
              have hn2' : n2 < signs9.length := by
                have : signs9.length = 9 := rfl
                omega
              refine ⟨_, rfl, by decide +kernel, signs9[n2], by rw [signs_lit]; exact atI_nat (List.getElem?_eq_getElem hn2'), ?_⟩
              have hc59 := signs_no _ (List.getElem_mem hn2')
              generalize signs9[n2] = c at hc59
              have b1 := bent hg (i := n1) (j := n1) (m := [c]) (Nat.le_refl _) (by simp) (by simpa using Ne.symm hc59)
              have b2 := bent hg (i := n1) (j := n1 + 1) (m := []) (Nat.le_succ _) (by simp) (by simp)
              have b3 := bent hg (i := n1) (j := n1 + 1) (m := [c]) (Nat.le_succ _) (by simp) (by simpa using Ne.symm hc59)
              have eo2 : (wT d).take n1 ++ [] ++ (wT d).drop (n1 + 1) = (wT d).take n1 ++ (wT d).drop (n1 + 1) := by simp
              rw [eo2] at b2
              have e1 := cut_to (S (wT d)) n1
              have e2 := cut_from (S (wT d)) n1
              have e3 := cut_from (S (wT d)) (n1 + 1)
              rw [tl_S] at e1 e2 e3
              have e3' : cutS (S (wT d)) (some ((n1 : Int) + 1)) none = S ((wT d).drop (n1 + 1)) := e3
              have hI : ∀ (R : It → Hp → Prop) (σ : L2.St), σ = [some (V.ref a), some (V.ref dr), y2, y3, y4, y5, y6, some (V.str (S (wT d))), some (V.int (0 + ((i8 : Nat) : Int))), some (V.int ((n1 : Nat) : Int)), some (V.str { cps := #[c] }), y11, y12, y13] → (∀ p, H10 p = none → R (Itl K p) (upd H10 p (HO.lst [.str (S ((wT d).take n1 ++ [c] ++ (wT d).drop n1)), .str (S ((wT d).take n1 ++ (wT d).drop (n1 + 1))), .str (S ((wT d).take n1 ++ [c] ++ (wT d).drop (n1 + 1)))]))) → iList K
                            (tLst
                              (tCons
                                (tOp (fun x y H Q => ∃ i, x = V.str i ∧ ∃ x, y = V.str x ∧ i.length + x.length ≤ sizeLine ∧ Q (V.str (i ++ x)) H)
                                  (tOp (fun x y H Q => ∃ i, x = V.str i ∧ ∃ x, y = V.str x ∧ i.length + x.length ≤ sizeLine ∧ Q (V.str (i ++ x)) H)
                                    (tSl rSlS (tVar 7) tNoPart (tPart (tVar 9))) (tVar 10))
                                  (tSl rSlS (tVar 7) (tPart (tVar 9)) tNoPart))
                                (tCons
                                  (tOp (fun x y H Q => ∃ i, x = V.str i ∧ ∃ x, y = V.str x ∧ i.length + x.length ≤ sizeLine ∧ Q (V.str (i ++ x)) H)
                                    (tSl rSlS (tVar 7) tNoPart (tPart (tVar 9)))
                                    (tSl rSlS (tVar 7) (tPart (tOp (rI0 fun i j => V.int (i + j)) (tVar 9) (tC (V.int 1)))) tNoPart))
                                  (tCons
                                    (tOp (fun x y H Q => ∃ i, x = V.str i ∧ ∃ x, y = V.str x ∧ i.length + x.length ≤ sizeLine ∧ Q (V.str (i ++ x)) H)
                                      (tOp (fun x y H Q => ∃ i, x = V.str i ∧ ∃ x, y = V.str x ∧ i.length + x.length ≤ sizeLine ∧ Q (V.str (i ++ x)) H)
                                        (tSl rSlS (tVar 7) tNoPart (tPart (tVar 9))) (tVar 10))
                                      (tSl rSlS (tVar 7) (tPart (tOp (rI0 fun i j => V.int (i + j)) (tVar 9) (tC (V.int 1)))) tNoPart))
                                    tNil)))) σ H10 R := by
                rintro R σ rfl hR
                simp only [iList]
                walk_at "x"
                simp only [e1, e2, e3', S_one, S_app, len_S]
                have tk : ((wT d).take n1).length ≤ (wT d).length := by rw [List.length_take]; omega
                have dk : ((wT d).drop n1).length ≤ (wT d).length := by rw [List.length_drop]; omega
                have dk1 : ((wT d).drop (n1 + 1)).length ≤ (wT d).length := by rw [List.length_drop]; omega
                have szl := sizeLine_eq
                simp only [List.length_append, List.length_singleton]
                exact ⟨by omega, by omega, by omega, by omega, by omega, by omega, by omega, by omega, by omega, by omega, by omega, by decide, fun p hp => ⟨⟨_, SqL.of upd_same⟩, hR p hp⟩⟩
              unfold tFor
              refine hI _ _ rfl fun p hp => ?_
              refine for_it (walk_list (K := K) (a := p) (xs := [.str (S ((wT d).take n1 ++ [c] ++ (wT d).drop n1)), .str (S ((wT d).take n1 ++ (wT d).drop (n1 + 1))), .str (S ((wT d).take n1 ++ [c] ++ (wT d).drop (n1 + 1)))])) (fun j σ H' => Lt a dr (wT d) σ ∧ Dr H' dr cs ∧ Same (upd H10 p (HO.lst [.str (S ((wT d).take n1 ++ [c] ++ (wT d).drop n1)), .str (S ((wT d).take n1 ++ (wT d).drop (n1 + 1))), .str (S ((wT d).take n1 ++ [c] ++ (wT d).drop (n1 + 1)))])) H') ⟨⟨_, _, _, _, _, _, _, _, _, _, _, rfl⟩, Dr.of_eq (Same.new hp) hD10, Same.refl _⟩ ?_ ?_ ?_
              · rintro j σ H' _ ⟨_, _, sm⟩
                exact SqL.of (sm _ _ upd_same)
              · rintro j x σ H11 H12 hj ⟨⟨y2, y3, y4, y5, y6, y8, y9, y10, y11, y12, y13, rfl⟩, hD12, sm12⟩ ⟨rfl, hx⟩
                obtain ⟨o, bo, rfl⟩ : ∃ o, Bent o ∧ x = .str (S o) := by
                  have hx' := List.mem_of_getElem? hx
                  simp only [List.mem_cons, List.not_mem_nil, or_false] at hx'
                  rcases hx' with rfl | rfl | rfl
                  · exact ⟨_, b1, rfl⟩
                  · exact ⟨_, b2, rfl⟩
                  · exact ⟨_, b3, rfl⟩
                have bl := bo.len
                show tSeq _ _ _ _ _
                refine seq_of (asg_call (vs := [.str (S o)]) (fun R h => ⟨_, rfl, h⟩) ⟨S o, rfl, by rw [len_S]; omega, by rw [tl_S]; exact runs_mono (by decide) bo.run, ?_⟩)
                rw [tl_S]
                cases hlr : lrd o with
                | none =>
                  intro H13 s13
                  walk_at "x"
                  refine told1_noS (by omega) (by rw [bo.read, hlr]) fun H14 s14 => repr_non ?_
                  simp only [decide_true, Bool.not_true, Bool.false_eq_true, if_false]
                  refine repr_non ⟨rfl, ?_⟩
                  rw [decide_eq_true rfl]
                  exact iteF ⟨⟨_, _, _, _, _, _, _, _, _, _, _, rfl⟩, Dr.of_eq (Same.trans s13 s14) hD12, Same.trans sm12 (Same.trans s13 s14)⟩
                | some e =>
                  intro D2 v2 H13 s13 hD2 h2 hv2 hi2
                  obtain ⟨hwe, hpl⟩ := bo.plain hlr
                  have okc := strOk_of (plain_chars 124 e hpl)
                  rw [hwe] at okc
                  walk_at "x"
                  refine told1_yes (by omega) (by rw [bo.read, hlr]) fun D3 v3 H14 s14 hD3 h3 hv3 hi3 => ?_
                  refine repr_list h3 hv3 hpl (by decide) (by rw [hwe]; omega) ?_
                  simp only [decide_false, Bool.not_false, if_true]
                  refine .inl ⟨D2, [v2], 0, v2, rfl, rfl, SqL.of (s14 _ _ h2), rfl, ?_⟩
                  refine ⟨v2, e, rfl, Dp.sm s14 e v2 hv2, plainD_mono (by decide) hpl, by rw [hwe]; omega, fun H15 s15 => ?_⟩
                  rw [hwe]
                  refine ⟨.str (S o), .str (S o), .str _, .str _, by simpa only [PyData.canLay0] using okc, by simpa only [PyData.canLay0] using okc, by simp [PyData.depth], _, rfl, ?_⟩
                  rw [show PyData.eqv (.str (S o)) (.str (S o)) = true by simp [PyData.eqv]]
                  refine iteT (repr_list (s15 _ _ (s14 _ _ h2)) (Dp.sm (Same.trans s14 s15) e v2 hv2) hpl (by decide) (by rw [hwe]; omega) ⟨rfl, ?_⟩)
                  rw [decide_eq_true rfl]
                  have sal := Same.trans s13 (Same.trans s14 s15)
                  exact iteF ⟨⟨_, _, _, _, _, _, _, _, _, _, _, rfl⟩, Dr.of_eq sal hD12, Same.trans sm12 sal⟩
              · rintro σ H' ⟨lt, hDx, _⟩
                exact ⟨lt, hDx⟩
            · rintro σ H7 ⟨lt7, hD7⟩
              exact ⟨lt7.z, hD7⟩
      · rintro σ H' ⟨lz, _⟩
        exact lz.l
    · rintro σ H2 l14
      refine cut_of (fun σ H' => L14 σ) ?_ ?_
      · obtain ⟨y0, y1, y2, y3, y4, y5, y6, y7, y8, y9, y10, y11, y12, y13, rfl⟩ := l14
        have hI : ∀ (R : It → Hp → Prop) (σ : L2.St), (∀ p xs Hb, Hb p = some (.lst xs) → (∀ x ∈ xs, ∃ d, Dp K Hb x d ∧ smallD d = true ∧ szD d ≤ 1000000 ∧ wD 1 d = none) → R (Itl K p) Hb) → iList K (tLst
            (tCons (tC V.non)
              (tCons (tC (V.bl true))
                (tCons (tC (V.str (Str.ofString "A")))
                  (tCons (tC (V.str (Str.ofString "")))
                    (tCons (tC (V.str (Str.ofString "a b")))
                      (tCons (tC (V.str (Str.ofString "9a")))
                        (tCons (tC (V.str (Str.ofString "abcdefghijklm")))
                          (tCons (tLst (tCons (tC (V.int 1)) tNil))
                            (tCons (tTup (tCons (tC (V.int 1)) (tCons (tC V.non) tNil)))
                              (tCons (tTup (tCons (tTup (tCons (tC (V.bl true)) tNil)) tNil))
                                (tCons (tLst (tCons (tC (V.str (Str.ofString "a"))) tNil))
                                  (tCons (tTup (tCons (tC (V.str (Str.ofString "a"))) (tCons (tLst tNil) tNil)))
                                    (tCons (tC (V.str (Str.ofString "]")))
                                      (tCons (tTup (tCons (tC (V.str (Str.ofString "]"))) tNil)) tNil))))))))))))))) σ H2 R := by
          intro R σ hR
          simp only [iList]
          walk_at "x"
          refine ⟨by decide, fun p1 h1 => ⟨by decide, fun p2 h2 => ⟨by decide, fun p3 h3 => ⟨by decide, fun p4 h4 => ⟨by decide, fun p5 h5 => ⟨by decide, fun p6 h6 => ⟨by decide, fun p7 h7 => ⟨by decide, fun p8 h8 => ⟨by decide, fun p9 h9 => ?_⟩⟩⟩⟩⟩⟩⟩⟩⟩
          refine ⟨⟨_, SqL.of upd_same⟩, hR p9 _ _ upd_same ?_⟩
          have s9 := Same.new (o := HO.lst [V.non, V.bl true, V.str (Str.ofString "A"), V.str (Str.ofString ""), V.str (Str.ofString "a b"), V.str (Str.ofString "9a"), V.str (Str.ofString "abcdefghijklm"), V.ref p1, V.ref p2, V.ref p4, V.ref p5, V.ref p7, V.str (Str.ofString "]"), V.ref p8]) h9
          have s8 := Same.trans (Same.new (o := HO.tup [V.str (Str.ofString "]")]) h8) s9
          have s7 := Same.trans (Same.new (o := HO.tup [V.str (Str.ofString "a"), V.ref p6]) h7) s8
          have s6 := Same.trans (Same.new (o := HO.lst []) h6) s7
          have s5 := Same.trans (Same.new (o := HO.lst [V.str (Str.ofString "a")]) h5) s6
          have s4 := Same.trans (Same.new (o := HO.tup [V.ref p3]) h4) s5
          have s3 := Same.trans (Same.new (o := HO.tup [V.bl true]) h3) s4
          have s2 := Same.trans (Same.new (o := HO.tup [V.int 1, V.non]) h2) s3
          intro x hx
          simp only [List.mem_cons, List.not_mem_nil, or_false] at hx
          rcases hx with rfl | rfl | rfl | rfl | rfl | rfl | rfl | rfl | rfl | rfl | rfl | rfl | rfl | rfl
          · exact ⟨_, .non, by decide +kernel, by decide +kernel, by decide +kernel⟩
          · exact ⟨_, .bl _, by decide +kernel, by decide +kernel, by decide +kernel⟩
          · exact ⟨_, .str _, by decide +kernel, by decide +kernel, by decide +kernel⟩
          · exact ⟨_, .str _, by decide +kernel, by decide +kernel, by decide +kernel⟩
          · exact ⟨_, .str _, by decide +kernel, by decide +kernel, by decide +kernel⟩
          · exact ⟨_, .str _, by decide +kernel, by decide +kernel, by decide +kernel⟩
          · exact ⟨_, .str _, by decide +kernel, by decide +kernel, by decide +kernel⟩
          · exact ⟨_, .lst (SqL.of (s2 _ _ upd_same)) (.cons (.int 1) .nil), by decide +kernel, by decide +kernel, by decide +kernel⟩
          · exact ⟨_, .tup (SqT.of (s3 _ _ upd_same)) (.cons (.int 1) (.cons .non .nil)), by decide +kernel, by decide +kernel, by decide +kernel⟩
          · exact ⟨_, .tup (SqT.of (s5 _ _ upd_same)) (.cons (.tup (SqT.of (s4 _ _ upd_same)) (.cons (.bl true) .nil)) .nil), by decide +kernel, by decide +kernel, by decide +kernel⟩
          · exact ⟨_, .lst (SqL.of (s6 _ _ upd_same)) (.cons (.str _) .nil), by decide +kernel, by decide +kernel, by decide +kernel⟩
          · exact ⟨_, .tup (SqT.of (s8 _ _ upd_same)) (.cons (.str _) (.cons (.lst (SqL.of (s7 _ _ upd_same)) .nil) .nil)), by decide +kernel, by decide +kernel, by decide +kernel⟩
          · exact ⟨_, .str _, by decide +kernel, by decide +kernel, by decide +kernel⟩
          · exact ⟨_, .tup (SqT.of (s9 _ _ upd_same)) (.cons (.str _) .nil), by decide +kernel, by decide +kernel, by decide +kernel⟩
        unfold tFor
        refine hI _ _ fun p xs Hb hb hbad => ?_
        refine for_it (walk_list (K := K) (a := p) (xs := xs)) (fun j σ H' => L14 σ ∧ Same Hb H') ⟨⟨_, _, _, _, _, _, _, _, _, _, _, _, _, _, rfl⟩, Same.refl _⟩ (fun j σ H' _ h => SqL.of (h.2 _ _ hb)) ?_ (fun σ H' h => h.1)
        rintro j x σ H3 H4 hj ⟨⟨y0, y1, y2, y3, y4, y5, y6, y7, y8, y9, y10, y11, y12, y13, rfl⟩, sm⟩ ⟨rfl, hx⟩
        obtain ⟨d, hd, k1, k2, k3⟩ := hbad x (List.mem_of_getElem? hx)
        walk_at "x"
        refine told0_no (Dp.sm sm d x hd) k1 k2 k3 fun H5 s5 => ?_
        rw [decide_eq_true rfl]
        exact iteF ⟨⟨_, _, _, _, _, _, _, _, _, _, _, _, _, _, rfl⟩, Same.trans sm s5⟩
      · rintro σ H3 ⟨y0, y1, y2, y3, y4, y5, y6, y7, y8, y9, y10, y11, y12, y13, rfl⟩
        show tSeq _ _ _ _ _
        refine seq_of ?_
        have e9 : rRepS (.str (Str.ofString "9")) (.int 4000) H3 = fun Q => rRepS (.str (Str.ofString "9")) (.int 4000) H3 Q := rfl
        refine ⟨Str.ofString "9", 4000, rfl, rfl, by decide, by decide +kernel, by decide +kernel, ?_⟩
        rw [rep9]
        show Evl.tCut _ _ _ _ _
        refine cut_of (fun σ H' => L14 σ) ?_ ?_
        · simp only [List.set_cons_zero, List.set_cons_succ]
          walk_at "x"
          have ln : (S (nines 4000)).length = 4000 := by rw [len_S, nines_len]
          have intW : ∀ (H : Hp) (R : VK), R (.int ((NumText.digitsVal (nines 4000) : Nat) : Int)) H → rIntW [V.str (S (nines 4000))] H R := fun H R h => ⟨_, rfl, fun c hc => .inr (nines_dig _ c hc), by rw [ln, sizeLine_eq]; decide, _, nines_int, h⟩
          refine intW _ _ ?_
          refine told0_yes (.int _) rfl (by simp [szD]) nines_write (by rw [nines_len]; decide) fun D H5 s5 hD0 h5 => ⟨by decide, fun p hp => ?_⟩
          refine ne_same (fun c hc => by rw [List.eq_of_mem_replicate hc]; decide) h5 hp ⟨_, rfl, iteF ⟨by rw [ln, sizeLine_eq, show (Str.ofString "-").length = 1 by decide +kernel]; decide, ?_⟩⟩
          obtain ⟨e, he⟩ := minus_read
          rw [minus_lit, S_app]
          refine told1_yes (l := [45] ++ nines 4000) (by rw [List.length_append, nines_len]; decide) he fun D2 v2 H6 s6 hD2 h6 hv6 _ => ?_
          rw [if_neg (show ¬ V.ref D2 = V.non from fun e => by cases e)]
          refine ⟨by rw [ln, sizeLine_eq, show (Str.ofString "0").length = 1 by decide +kernel]; decide, ?_⟩
          rw [zero_lit, S_app]
          refine told1_noS (by rw [List.length_append, nines_len]; decide) more_read fun H7 s7 => ?_
          rw [decide_eq_true rfl]
          refine iteF (intW _ _ ⟨_, rfl, ?_⟩)
          refine told0_no (.int _) rfl (by simp [szD]) nines_more fun H8 s8 => ?_
          rw [decide_eq_true rfl]
          exact iteF ⟨_, _, _, _, _, _, _, _, _, _, _, _, _, _, rfl⟩
        · rintro σ H4 ⟨y0, y1, y2, y3, y4, y5, y6, y7, y8, y9, y10, y11, y12, y13, rfl⟩
          refine seq_of ⟨by decide, fun p hp => ?_⟩
          show Evl.tCut _ _ _ _ _
          refine cut_of (Lq K 999) ?_ ?_
          · refine tFor_same (walk_range (lo := 0) (n := 999)) ?_ (fun i σ H' => Lq K i σ H') ⟨p, _, _, _, _, _, _, _, _, _, _, _, _, _, rfl, .tup (SqT.of upd_same) .nil⟩ (fun _ _ _ _ _ => trivial) ?_ (fun σ H' h => h)
            · intro R hR
              simp only [iRng1]
              walk_at "x"
              exact ⟨by decide, by decide, hR⟩
            · rintro i x σ H5 H6 hi ⟨q, y0, y1, y2, y3, y4, y6, y7, y8, y9, y10, y11, y12, y13, rfl, hdq⟩ ⟨rfl, rfl⟩
              walk_at "x"
              exact ⟨by decide, fun p2 hp2 => ⟨p2, _, _, _, _, _, _, _, _, _, _, _, _, _, rfl, .tup (SqT.of upd_same) (.cons (Dp.sm (Same.new hp2) _ _ hdq) .nil)⟩⟩
          · rintro σ H5 ⟨q, y0, y1, y2, y3, y4, y6, y7, y8, y9, y10, y11, y12, y13, rfl, hdq⟩
            refine cut_of (fun σ H' => L14 σ) ?_ ?_
            · walk_at "x"
              refine told0_yes hdq (nest_small 999) (by rw [nest_size]; decide) (nest_write 999 1 (by decide)) (by rw [brk_len]; decide) fun D H6 s6 hD0 h6 => ?_
              refine rep_of (n := 1000) (K := K) ob1 (by decide) (by decide) (rep_of (n := 1000) (K := K) cb1 (by decide) (by decide) ⟨_, rfl, _, rfl, by rw [len_S, len_S, List.length_replicate, List.length_replicate, sizeLine_eq]; decide, by decide, fun p hp => ?_⟩)
              rw [S_app]
              refine ne_same (brk_chars 1000) h6 hp ⟨_, rfl, iteF ⟨by decide, fun p2 hp2 => ?_⟩⟩
              have s7 := Same.trans s6 (Same.new (o := HO.lst [.str (S (List.replicate 1000 91 ++ List.replicate 1000 93))]) hp)
              have s8 := Same.trans s7 (Same.new (o := HO.tup [V.ref q]) hp2)
              refine told0_no (d := nest 1000) (.tup (SqT.of upd_same) (.cons (Dp.sm s8 _ _ hdq) .nil)) (nest_small 1000) (by rw [nest_size]; decide) (nest_not 1000 1 (by decide)) fun H9 s9 => ?_
              rw [decide_eq_true rfl]
              refine iteF (rep_of (n := 1001) (K := K) ob1 (by decide) (by decide) (rep_of (n := 1001) (K := K) cb1 (by decide) (by decide) ⟨_, rfl, _, rfl, by rw [len_S, len_S, List.length_replicate, List.length_replicate, sizeLine_eq]; decide, ?_⟩))
              rw [S_app]
              refine told1_noS (by rw [brk_len]; decide) read_deep_no fun H10 s10 => ?_
              rw [decide_eq_true rfl]
              exact iteF ⟨_, _, _, _, _, _, _, _, _, _, _, _, _, _, rfl⟩
            · rintro σ H6 ⟨y0, y1, y2, y3, y4, y5, y6, y7, y8, y9, y10, y11, y12, y13, rfl⟩
              walk_at "x"
              refine rep_of (n := 1000) (K := K) ob1 (by decide) (by decide) (rep_of (n := 1000) (K := K) cb1 (by decide) (by decide) ⟨_, rfl, _, rfl, by rw [len_S, len_S, List.length_replicate, List.length_replicate, sizeLine_eq]; decide, ?_⟩)
              rw [S_app]
              obtain ⟨e, he⟩ := read_deep
              refine told1_yes (by rw [brk_len]; decide) he fun D2 v2 H7 s7 hD2 h7 hv7 _ => ?_
              rw [decide_eq_false (show ¬ V.ref D2 = V.non from fun e => by cases e)]
              refine iteT ?_
              have hI : ∀ (R : It → Hp → Prop) (σ : L2.St), (∀ p xs Hb, xs.length = 7 → Hb p = some (.lst xs) → (∀ x ∈ xs, ∃ d, Dp K Hb x d ∧ (∀ z, x = .str z → z.length ≤ 50000) ∧ readD d = none) → R (Itl K p) Hb) → iList K (tLst
                            (tCons (tC V.non)
                              (tCons (tC (V.int 5))
                                (tCons (tTup (tCons (tC (V.int 1)) tNil))
                                  (tCons (tC (V.str (Str.ofString "")))
                                    (tCons (tC (V.str (Str.ofString "[a][b]")))
                                      (tCons (tC (V.str (Str.ofString "a,b")))
                                        (tCons (tC (V.str (Str.ofString "[a"))) tNil)))))))) σ H7 R := by
                intro R σ hR
                simp only [iList]
                walk_at "x"
                refine ⟨by decide, fun p1 h1 => ⟨by decide, fun p2 h2 => ⟨⟨_, SqL.of upd_same⟩, hR p2 _ _ rfl upd_same ?_⟩⟩⟩
                have s2 := Same.new (o := HO.lst [V.non, V.int 5, V.ref p1, V.str (Str.ofString ""), V.str (Str.ofString "[a][b]"), V.str (Str.ofString "a,b"), V.str (Str.ofString "[a")]) h2
                intro x hx
                simp only [List.mem_cons, List.not_mem_nil, or_false] at hx
                have nn : ∀ d, (readD d).isNone = true → readD d = none := fun d h => Option.isNone_iff_eq_none.mp h
                rcases hx with rfl | rfl | rfl | rfl | rfl | rfl | rfl
                · exact ⟨_, .non, (fun z e => by cases e), nn _ (by decide +kernel)⟩
                · exact ⟨_, .int _, (fun z e => by cases e), nn _ (by decide +kernel)⟩
                · exact ⟨_, .tup (SqT.of (s2 _ _ upd_same)) (.cons (.int 1) .nil), (fun z e => by cases e), nn _ (by decide +kernel)⟩
                · exact ⟨_, .str _, (fun z e => by cases e; decide +kernel), nn _ (by decide +kernel)⟩
                · exact ⟨_, .str _, (fun z e => by cases e; decide +kernel), nn _ (by decide +kernel)⟩
                · exact ⟨_, .str _, (fun z e => by cases e; decide +kernel), nn _ (by decide +kernel)⟩
                · exact ⟨_, .str _, (fun z e => by cases e; decide +kernel), nn _ (by decide +kernel)⟩
              unfold tLc
              refine hI _ _ fun p xs Hb hxl hb hbad => fun D hD => ?_
              refine lc_it (walk_list (K := K) (a := p) (xs := xs)) (fun i H' => Same Hb H' ∧ H' D = some (.lst (List.replicate i V.non))) ⟨Same.new hD, upd_same⟩ (fun i H' _ h => SqL.of (h.1 _ _ hb)) ?_ ?_
              · rintro i x H8 H9 hi ⟨sm, hv⟩ ⟨rfl, hx⟩
                obtain ⟨d, hd, k1, k2⟩ := hbad x (List.mem_of_getElem? hx)
                walk_at "x"
                unfold tYes
                refine iteT ?_
                refine told1_no (Dp.sm sm d x hd) k1 k2 fun H10 s10 => ?_
                refine ⟨_, s10 _ _ hv, by rw [List.length_replicate, sizeLine_eq]; omega, Same.mut (Same.trans sm s10) hD, ?_⟩
                rw [upd_same, ← List.replicate_succ', List.replicate_succ]
              · rintro H8 ⟨sm, hv⟩
                rw [hxl] at hv
                refine ⟨by decide, fun p3 hp3 => ?_⟩
                have s3 := Same.new (o := HO.lst [V.non]) hp3
                have nones : ∀ (n : Nat) (H : Hp), DpAll K H (List.replicate n V.non) (List.replicate n PyData.none) := by
                  intro n H
                  induction n with
                  | zero => exact .nil
                  | succ n ih => exact .cons .non ih
                refine ⟨p3, 7, [.non], rfl, rfl, upd_same, by decide, by decide, by decide, fun p4 hp4 => ?_⟩
                have s4 := Same.new (o := HO.lst (List.replicate (Int.toNat 7) [V.non]).flatten) hp4
                refine ⟨.list (List.replicate 7 .none), .list (List.replicate 7 .none), .lst (SqL.of (s4 _ _ (s3 _ _ hv))) (nones 7 _), .lst (SqL.of upd_same) (nones 7 _), by decide +kernel, by decide +kernel, by decide +kernel, ?_⟩
                rw [show PyData.eqv (.list (List.replicate 7 .none)) (.list (List.replicate 7 .none)) = true by decide +kernel]
                exact hq _
end
end WW

set_option maxHeartbeats 0
namespace WW
open PySem PySem.Spec PyProof.Rows L2
abbrev Rw : PySem.W.OpenRow := PySem.W.OpenLaw.row PySem.Challenge.rw_wirewary_k53_whole_plain_data
abbrev hk : PySem.W.Hook := hookS 5 fa fn
def ob (s : PySem.W.SharedT) : AlS := obsS 5 fa fn (HandSHeadRun.getT s)
theorem ob_eq (s : PySem.W.SharedT) : ob s = hk.obs s.abs := obsS_eq (HandSHeadRun.getT_eq s)
def loose : List PySem.Str := ["Fault", "Malformed", "LETTERS", "DIGITS", "is_whole", "MOST_WORD", "MOST_DEPTH", "MOST_DIGITS", "is_word", "is_short", "write_data", "read_whole", "pieces_of", "DataReader", "read_data", "_law_draw", "_law_take", "_law_data", "_law_word", "_law_written", "_law_number", "_law_read", "_law_told"]
theorem run (w : World) : HandSHeadRun.RunEq Rw (PySem.W.view Rw.prog [27]) hk ob 3000 loose w := by
  intro os
  kernel_rfl
end WW
open PySem PySem.W PySem.Calls PyProof.Rows
theorem PySem.Challenge.cw_wirewary_k53_whole_plain_data_holds : PySem.Challenge.rw_wirewary_k53_whole_plain_data.Holds := by
  w_on; o_law
  refine HandSHeadRun.head_any (r := OpenLaw.row PySem.Challenge.rw_wirewary_k53_whole_plain_data) (q := view (OpenLaw.row PySem.Challenge.rw_wirewary_k53_whole_plain_data).prog [27]) (H := WW.hk) (ob := WW.ob) (M := 3000) (loose := WW.loose) (d := HandSHeadRun.topDef (OpenLaw.row PySem.Challenge.rw_wirewary_k53_whole_plain_data).prog 27) (kwd := []) WW.ob_eq
    (by kernel_rfl) (fun s => by kernel_rfl) WW.run (by kernel_rfl) (by kernel_rfl) (by kernel_rfl) (by rfl) (by first | assumption | decide +kernel) (by decide +kernel) ⟨rfl, rfl, rfl, rfl, rfl, by decide +kernel⟩ ?hw ?hc
  case hw => w_witness2
  case hc =>
    refine WW.law_walk (l := PySem.Challenge.rw_wirewary_k53_whole_plain_data) (n := 63) (x := "script") rfl (by decide) (by kernel_rfl) ?F
    intro w mg fa h Y G hmg0
    obtain ⟨K, KX, c, dg⟩ := Y
    have hmg : mg ("law" : PySem.Str) = some (.ref fa) := by
      have e : (HandSHeadRun.topDef (OpenLaw.row PySem.Challenge.rw_wirewary_k53_whole_plain_data).prog 27).name = ("law" : PySem.Str) := by kernel_rfl
      rw [← e]
      exact hmg0
    have W : WW.Wd WW.fa WW.fn K mg := ⟨c, ⟨h, KX, G⟩, dg⟩
    obtain ⟨fd, F, hL⟩ := WW.o_law (P := PySem.Challenge.rw_wirewary_k53_whole_plain_data.prog) (w := w) W
    have e := hmg.symm.trans (W.glo 46 (x := "law"))
    cases e
    have b := L2.FunD.bindsA (ps := ["script"]) F fun _ _ _ _ _ _ us hl => match us, hl with | [_], _ => rfl
    exact ⟨K, fd, WW.spLaw K, KX, fun s v => b s [v] rfl, fun H a ns hl _ hS => ⟨a, ns, rfl, hl, hS, fun _ => rfl⟩, fun base _ _ => hL base⟩
